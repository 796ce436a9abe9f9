import PyProof.Rows.All
import Wide.All
import OpenK.AllK
import Wide.FinOn
import HandS.ForMost
import HandS.Walk
import HandS.TupAny
import HandS.TupMul
import HandS.Conv
import HandS.Zip
import HandS.Wide
import HandS.Flow
import HandS.Style
import HandS.RaiseMore
import KE.SortData
import KE.DatumOrd
import KE.DataAny
import PyProof.ReprReads
import KE.GoesEnum
import HandS.IsInst
import HandS.Ends
import PyProof.ReprRoads
import PyProof.ReprLen
import HandS.Deep
import PySem.Challenge.RW_ferrybook_k21_minutes_moved_to_and_fro
set_option Elab.async false
set_option linter.all false
set_option maxRecDepth 100000
set_option maxHeartbeats 4000000
namespace Y
open PySem PySem.Spec L2

abbrev D := PyData
abbrev Frag := PySem.W.Frag

/-! ### frozen data: it does not lean on the addresses in A -/
def WrT (K : Frag) (a : Addr) (xs : List V) : Prop :=
  ∃ (o : Obj) (its : Array Value) (n : Nat), K.lookup a = some o ∧ o.cls = .type "tuple" ∧ o.data = .seq its n ∧ its.size ≤ sizeLine ∧ Vals xs its.toList
abbrev szN : Nat := 16777216
def NdL (A : List Addr) (H : Hp) (a : Addr) (xs : List V) : Prop := (a ∉ A ∧ H a = some (.lst xs)) ∧ xs.length ≤ szN
def NdT (K : Frag) (A : List Addr) (H : Hp) (a : Addr) (xs : List V) : Prop := (a ∉ A ∧ H a = some (.tup xs) ∧ xs.length ≤ szN) ∨ WrT K a xs
mutual
inductive Fz (K : Frag) (A : List Addr) (H : Hp) : V → D → Prop
  | non : Fz K A H .non .none
  | bl (b : Bool) : Fz K A H (.bl b) (.bool b)
  | int (i : Int) : Fz K A H (.int i) (.int i)
  | str (x : Str) : Fz K A H (.str x) (.str x)
  | lst {a : Addr} {xs : List V} {ds : List D} : NdL A H a xs → FzL K A H xs ds → Fz K A H (.ref a) (.list ds)
  | tup {a : Addr} {xs : List V} {ds : List D} : NdT K A H a xs → FzL K A H xs ds → Fz K A H (.ref a) (.tuple ds)
inductive FzL (K : Frag) (A : List Addr) (H : Hp) : List V → List D → Prop
  | nil : FzL K A H [] []
  | cons {v : V} {vs : List V} {d : D} {ds : List D} : Fz K A H v d → FzL K A H vs ds → FzL K A H (v :: vs) (d :: ds)
end

/-- what is tracked outside A is as it was -/
def Fr (A : List Addr) (H H' : Hp) : Prop := ∀ b o, H b = some o → b ∉ A → H' b = some o
theorem Fr.refl (A : List Addr) (H : Hp) : Fr A H H := fun _ _ h _ => h
theorem Fr.trans {A : List Addr} {H H1 H2 : Hp} (a : Fr A H H1) (b : Fr A H1 H2) : Fr A H H2 := fun x o h n => b x o (a x o h n) n
theorem Fr.mono {A A' : List Addr} {H H' : Hp} (a : Fr A H H') (s : ∀ x ∈ A, x ∈ A') : Fr A' H H' := fun x o h n => a x o h fun z => n (s x z)
theorem Fr.new {A : List Addr} {H : Hp} {p : Addr} {o : HO} (h : H p = none) : Fr A H (upd H p o) := fun a u e _ => by
  rw [upd_ne (ne_of_none e h)]
  exact e
theorem Fr.at {A : List Addr} {H : Hp} {p : Addr} {o : HO} (h : p ∈ A) : Fr A H (upd H p o) := fun a u e n => by
  rw [upd_ne (fun z => n (by rw [z]; exact h))]
  exact e
theorem Fr.nil {A : List Addr} {H H' : Hp} (h : Fr [] H H') : Fr A H H' := h.mono fun _ z => by cases z
theorem Fr.some {H H' : Hp} {p : Addr} (e : Fr [] H H') (h : H p ≠ none) : H' p ≠ none := fun q => by
  cases h1 : H p with
  | none => exact h h1
  | some o => rw [e p o h1 (by simp)] at q; cases q
theorem Fr.back {H H' : Hp} {p : Addr} (e : Fr [] H H') (h : H' p = none) : H p = none := by
  cases h1 : H p with
  | none => rfl
  | some o =>
    have := e p o h1 (by simp)
    rw [h] at this; cases this

section
variable {K : Frag} {A A' : List Addr} {H H' : Hp} {a p : Addr} {xs : List V}
theorem rd_fr {u : HO} (f : Fr A H H') (n : a ∉ A) (h : Rd H a u) : Rd H' a u := by
  rcases h with h | ⟨o, h⟩
  · exact .inl (f _ _ h n)
  · exact .inr ⟨o, f _ _ h n⟩
theorem rd_some {u : HO} (h : Rd H a u) : H a ≠ none := by
  rcases h with h | ⟨o, h⟩ <;> (rw [h]; simp)
theorem NdL.sq (h : NdL A H a xs) : SqL K H a xs := .inl (.inl h.1.2)
theorem NdT.sq (h : NdT K A H a xs) : SqT K H a xs := h.elim (fun z => .inl (.inl z.2.1)) .inr
theorem NdT.sz (h : NdT K A H a xs) : xs.length ≤ szN := by
  rcases h with z | ⟨o, its, n, _, _, _, hz, v⟩
  · exact z.2.2
  · have := v.length
    rw [sizeLine_eq] at hz
    simp only [Array.length_toList] at this
    show xs.length ≤ 16777216
    omega
theorem NdL.fr (f : Fr A H H') (h : NdL A H a xs) : NdL A H' a xs := ⟨⟨h.1.1, f _ _ h.1.2 h.1.1⟩, h.2⟩
theorem NdT.fr (f : Fr A H H') (h : NdT K A H a xs) : NdT K A H' a xs := h.imp (fun z => ⟨z.1, f _ _ z.2.1 z.1, z.2.2⟩) id
theorem NdL.sub (s : ∀ x ∈ A', x ∈ A) (h : NdL A H a xs) : NdL A' H a xs := ⟨⟨fun q => h.1.1 (s _ q), h.1.2⟩, h.2⟩
theorem NdT.sub (s : ∀ x ∈ A', x ∈ A) (h : NdT K A H a xs) : NdT K A' H a xs := h.imp (fun z => ⟨fun q => z.1 (s _ q), z.2⟩) id
theorem NdL.any (s : ∀ x ∈ A', x ∈ A ∨ H x = none) (h : NdL A H a xs) : NdL A' H a xs := by
  refine ⟨⟨fun q => ?_, h.1.2⟩, h.2⟩
  rcases s a q with z | z
  · exact h.1.1 z
  · rw [h.1.2] at z; cases z
theorem NdT.any (s : ∀ x ∈ A', x ∈ A ∨ H x = none) (h : NdT K A H a xs) : NdT K A' H a xs := by
  refine h.imp (fun h => ⟨fun q => ?_, h.2⟩) id
  rcases s a q with z | z
  · exact h.1 z
  · rw [h.2.1] at z; cases z
end

section
variable {K : Frag} {A A' : List Addr} {H H' : Hp}
mutual
theorem Fz.fr (f : Fr A H H') : ∀ {v : V} {d : D}, Fz K A H v d → Fz K A H' v d
  | _, _, .non => .non
  | _, _, .bl b => .bl b
  | _, _, .int i => .int i
  | _, _, .str x => .str x
  | _, _, .lst n h => .lst (n.fr f) (FzL.fr f h)
  | _, _, .tup n h => .tup (n.fr f) (FzL.fr f h)
theorem FzL.fr (f : Fr A H H') : ∀ {vs : List V} {ds : List D}, FzL K A H vs ds → FzL K A H' vs ds
  | _, _, .nil => .nil
  | _, _, .cons a b => .cons (Fz.fr f a) (FzL.fr f b)
end
mutual
theorem Fz.sub (s : ∀ x ∈ A', x ∈ A) : ∀ {v : V} {d : D}, Fz K A H v d → Fz K A' H v d
  | _, _, .non => .non
  | _, _, .bl b => .bl b
  | _, _, .int i => .int i
  | _, _, .str x => .str x
  | _, _, .lst n h => .lst (n.sub s) (FzL.sub s h)
  | _, _, .tup n h => .tup (n.sub s) (FzL.sub s h)
theorem FzL.sub (s : ∀ x ∈ A', x ∈ A) : ∀ {vs : List V} {ds : List D}, FzL K A H vs ds → FzL K A' H vs ds
  | _, _, .nil => .nil
  | _, _, .cons a b => .cons (Fz.sub s a) (FzL.sub s b)
end
mutual
theorem Fz.any (s : ∀ x ∈ A', x ∈ A ∨ H x = none) : ∀ {v : V} {d : D}, Fz K A H v d → Fz K A' H v d
  | _, _, .non => .non
  | _, _, .bl b => .bl b
  | _, _, .int i => .int i
  | _, _, .str x => .str x
  | _, _, .lst n h => .lst (n.any s) (FzL.any s h)
  | _, _, .tup n h => .tup (n.any s) (FzL.any s h)
theorem FzL.any (s : ∀ x ∈ A', x ∈ A ∨ H x = none) : ∀ {vs : List V} {ds : List D}, FzL K A H vs ds → FzL K A' H vs ds
  | _, _, .nil => .nil
  | _, _, .cons a b => .cons (Fz.any s a) (FzL.any s b)
end
theorem more_any {p : Addr} (hp : H p = none) : ∀ x ∈ p :: A, x ∈ A ∨ H x = none := fun x hx => by
  rcases List.mem_cons.mp hx with e | hx
  · rw [e]; exact .inr hp
  · exact .inl hx
theorem Fz.more {p : Addr} (hp : H p = none) {v : V} {d : D} (h : Fz K A H v d) : Fz K (p :: A) H v d := h.any (more_any hp)
theorem FzL.more {p : Addr} (hp : H p = none) {vs : List V} {ds : List D} (h : FzL K A H vs ds) : FzL K (p :: A) H vs ds := h.any (more_any hp)
mutual
theorem Fz.dp : ∀ {v : V} {d : D}, Fz K A H v d → Dp K H v d
  | _, _, .non => .non
  | _, _, .bl b => .bl b
  | _, _, .int i => .int i
  | _, _, .str x => .str x
  | _, _, .lst n h => .lst n.sq (FzL.dp h)
  | _, _, .tup n h => .tup n.sq (FzL.dp h)
theorem FzL.dp : ∀ {vs : List V} {ds : List D}, FzL K A H vs ds → DpAll K H vs ds
  | _, _, .nil => .nil
  | _, _, .cons a b => .cons (Fz.dp a) (FzL.dp b)
end
/-- without lists -/
def lf : D → Bool
  | .list _ => false
  | .dict _ => false
  | .tuple ds => lfs ds
  | _ => true
where lfs : List D → Bool
  | [] => true
  | d :: ds => lf d && lfs ds
mutual
theorem Fz.up (hA : ∀ a ∈ A', ∃ xs, H a = some (.lst xs)) : ∀ {v : V} {d : D}, Fz K A H v d → lf d = true → Fz K (A ++ A') H v d
  | _, _, .non, _ => .non
  | _, _, .bl b, _ => .bl b
  | _, _, .int i, _ => .int i
  | _, _, .str x, _ => .str x
  | _, _, .lst n h, e => by simp [lf] at e
  | _, _, .tup (ds := ds) n h, e => by
    have e' : lf.lfs ds = true := by simpa [lf] using e
    refine .tup (n.imp (fun z => ⟨fun q => ?_, z.2⟩) id) (FzL.up hA h e')
    rcases List.mem_append.mp q with q | q
    · exact z.1 q
    · obtain ⟨ys, hy⟩ := hA _ q
      have r := z.2.1
      rw [hy] at r; cases r
theorem FzL.up (hA : ∀ a ∈ A', ∃ xs, H a = some (.lst xs)) : ∀ {vs : List V} {ds : List D}, FzL K A H vs ds → lf.lfs ds = true → FzL K (A ++ A') H vs ds
  | _, _, .nil, _ => .nil
  | _, _, .cons (d := d) (ds := ds) a b, e => by
    have e' : lf d = true ∧ lf.lfs ds = true := by simpa [lf.lfs] using e
    exact .cons (Fz.up hA a e'.1) (FzL.up hA b e'.2)
end
theorem FzL.length : ∀ {vs : List V} {ds : List D}, FzL K A H vs ds → vs.length = ds.length
  | _, _, .nil => rfl
  | _, _, .cons _ h => by simp [FzL.length h]
theorem FzL.get : ∀ {vs : List V} {ds : List D} {i : Nat} {v : V}, FzL K A H vs ds → vs[i]? = some v → ∃ d, ds[i]? = some d ∧ Fz K A H v d
  | _, _, _, _, .nil, e => by simp at e
  | _, _, 0, _, .cons a _, e => by simp at e; subst e; exact ⟨_, rfl, a⟩
  | _, _, i + 1, _, .cons _ h, e => by
    obtain ⟨d, h1, h2⟩ := FzL.get (i := i) h (by simpa using e)
    exact ⟨d, by simpa using h1, h2⟩
theorem FzL.get' : ∀ {vs : List V} {ds : List D} {i : Nat} {d : D}, FzL K A H vs ds → ds[i]? = some d → ∃ v, vs[i]? = some v ∧ Fz K A H v d
  | _, _, _, _, .nil, e => by simp at e
  | _, _, 0, _, .cons a _, e => by simp at e; subst e; exact ⟨_, rfl, a⟩
  | _, _, i + 1, _, .cons _ h, e => by
    obtain ⟨d, h1, h2⟩ := FzL.get' (i := i) h (by simpa using e)
    exact ⟨d, by simpa using h1, h2⟩
theorem FzL.append : ∀ {vs : List V} {ds : List D} {ws : List V} {es : List D}, FzL K A H vs ds → FzL K A H ws es → FzL K A H (vs ++ ws) (ds ++ es)
  | _, _, _, _, .nil, h => h
  | _, _, _, _, .cons a b, h => .cons a (FzL.append b h)
theorem FzL.set : ∀ {vs : List V} {ds : List D} {v : V} {d : D} (i : Nat), FzL K A H vs ds → Fz K A H v d → FzL K A H (vs.set i v) (ds.set i d)
  | _, _, _, _, _, .nil, _ => .nil
  | _, _, _, _, 0, .cons _ b, h => .cons h b
  | _, _, _, _, i + 1, .cons a b, h => .cons a (FzL.set i b h)
theorem FzL.take : ∀ {vs : List V} {ds : List D} (i : Nat), FzL K A H vs ds → FzL K A H (vs.take i) (ds.take i)
  | _, _, 0, _ => by simpa using FzL.nil
  | _, _, _ + 1, .nil => .nil
  | _, _, i + 1, .cons a b => .cons a (FzL.take i b)
theorem FzL.drop : ∀ {vs : List V} {ds : List D} (i : Nat), FzL K A H vs ds → FzL K A H (vs.drop i) (ds.drop i)
  | _, _, 0, h => h
  | _, _, _ + 1, .nil => .nil
  | _, _, i + 1, .cons _ b => FzL.drop i b
theorem FzL.rep {vs : List V} {ds : List D} (h : FzL K A H vs ds) : ∀ k : Nat, FzL K A H (List.replicate k vs).flatten (List.replicate k ds).flatten
  | 0 => .nil
  | k + 1 => by
    rw [List.replicate_succ, List.replicate_succ, List.flatten_cons, List.flatten_cons]
    exact h.append (h.rep k)
theorem FzL.rev {vs : List V} {ds : List D} (h : FzL K A H vs ds) : FzL K A H vs.reverse ds.reverse := by
  induction vs generalizing ds with
  | nil => cases h; exact .nil
  | cons v vs ih =>
    cases h with
    | cons a b =>
      rw [List.reverse_cons, List.reverse_cons]
      exact (ih b).append (.cons a .nil)
end
section
variable {K : Frag} {A : List Addr} {H : Hp} {v : V}
theorem Fz.int_inv {i : Int} (h : Fz K A H v (.int i)) : v = .int i := by cases h; rfl
theorem Fz.bl_inv {i : Bool} (h : Fz K A H v (.bool i)) : v = .bl i := by cases h; rfl
theorem Fz.str_inv {i : Str} (h : Fz K A H v (.str i)) : v = .str i := by cases h; rfl
theorem Fz.non_inv (h : Fz K A H v .none) : v = .non := by cases h; rfl
theorem Fz.lst_inv {ds : List D} (h : Fz K A H v (.list ds)) : ∃ a xs, v = .ref a ∧ NdL A H a xs ∧ FzL K A H xs ds := by cases h; exact ⟨_, _, rfl, by assumption, by assumption⟩
theorem Fz.tup_inv {ds : List D} (h : Fz K A H v (.tuple ds)) : ∃ a xs, v = .ref a ∧ NdT K A H a xs ∧ FzL K A H xs ds := by cases h; exact ⟨_, _, rfl, by assumption, by assumption⟩
end

/-! ### the slots and what they hold -/
def oa (σ : L2.St) (ow : List Nat) : List Addr := ow.filterMap fun (i : Nat) => match (σ[i]? : Option (Option V)) with
  | some (some (.ref a)) => some a
  | _ => none
theorem mem_oa {σ : L2.St} {ow : List Nat} {a : Addr} : a ∈ oa σ ow ↔ ∃ i ∈ ow, σ[i]? = some (some (.ref a)) := by
  unfold oa
  rw [List.mem_filterMap]
  constructor
  · rintro ⟨i, hi, h⟩
    refine ⟨i, hi, ?_⟩
    split at h
    · rename_i b e; rw [e]; cases h; rfl
    · cases h
  · rintro ⟨i, hi, h⟩
    exact ⟨i, hi, by rw [h]⟩

/-- A0: the callers' own lists; ex: lists being made; io: a list handed in that may be changed (slot 0) -/
structure Bd where
  A0 : List Addr
  ex : List Addr
  io : Option Addr
def Bd.base (B : Bd) : List Addr := B.A0 ++ B.ex
def Bd.full (B : Bd) (σ : L2.St) (ow : List Nat) : List Addr := B.base ++ oa σ ow
def Bd.plus (B : Bd) (q : Addr) : Bd := { B with ex := q :: B.ex }

structure Rel (K : Frag) (B : Bd) (H0 : Hp) (ow : List Nat) (σ : L2.St) (H : Hp) (γ : List (Option D)) : Prop where
  len : σ.length = γ.length
  one : ∀ (i j : Nat) (a : Addr), i ∈ ow → j ∈ ow → σ[i]? = some (some (V.ref a)) → σ[j]? = some (some (V.ref a)) → i = j
  fz : ∀ (i : Nat) (d : D), i ∉ ow → γ[i]? = some (some d) → ∃ v, σ[i]? = some (some v) ∧ Fz K (B.full σ ow) H v d
  own : ∀ (i : Nat) (d : D), i ∈ ow → γ[i]? = some (some d) → ∃ a vs ds, σ[i]? = some (some (V.ref a)) ∧ d = .list ds ∧ (H a = some (.lst vs) ∧ vs.length ≤ szN) ∧ FzL K (B.full σ ow) H vs ds
  trk : ∀ a ∈ oa σ ow, ∃ xs, H a = some (.lst xs)
  fr : Fr B.io.toList H0 H
  new : ∀ a ∈ oa σ ow, H0 a = none ∨ a ∈ B.io.toList
  a0 : ∀ a ∈ B.A0, H0 a ≠ none ∧ a ∉ B.io.toList
  xt : ∀ a ∈ B.ex, H a ≠ none ∧ a ∉ oa σ ow
  io : ∀ p, B.io = some p → 0 ∈ ow ∧ σ[0]? = some (some (V.ref p))
section
variable {K : Frag} {B : Bd} {H0 H H' : Hp} {ow : List Nat} {σ : L2.St} {γ : List (Option D)}
theorem Rel.base_trk (r : Rel K B H0 ow σ H γ) : ∀ a ∈ B.base, H a ≠ none := fun a h => by
  rcases List.mem_append.mp h with h | h
  · obtain ⟨n, m⟩ := r.a0 a h
    cases e : H0 a with
    | none => exact absurd e n
    | some o => rw [r.fr a o e m]; simp
  · exact (r.xt a h).1
theorem Rel.tracked (r : Rel K B H0 ow σ H γ) : ∀ a ∈ B.full σ ow, H a ≠ none := fun a h => by
  rcases List.mem_append.mp h with h | h
  · exact r.base_trk a h
  · obtain ⟨xs, e⟩ := r.trk a h
    rw [e]; simp
theorem Rel.apart (r : Rel K B H0 ow σ H γ) : ∀ a ∈ oa σ ow, a ∉ B.base := fun a h q => by
  rcases List.mem_append.mp q with q | q
  · obtain ⟨n1, n2⟩ := r.a0 a q
    rcases r.new a h with n | n
    · exact n1 n
    · exact n2 n
  · exact (r.xt a q).2 h
/-- the heap grows -/
theorem Rel.grow (r : Rel K B H0 ow σ H γ) (f : Fr [] H H') : Rel K B H0 ow σ H' γ :=
  ⟨r.len, r.one, fun i d a b => let ⟨v, e, z⟩ := r.fz i d a b; ⟨v, e, z.fr f.nil⟩, fun i d a b => let ⟨x, vs, ds, e1, e2, e3, e4⟩ := r.own i d a b; ⟨x, vs, ds, e1, e2, ⟨f _ _ e3.1 (by simp), e3.2⟩, e4.fr f.nil⟩,
    fun a h => let ⟨xs, e⟩ := r.trk a h; ⟨xs, f _ _ e (by simp)⟩, r.fr.trans f.nil, r.new, r.a0, fun a h => ⟨f.some (r.xt a h).1, (r.xt a h).2⟩, r.io⟩
/-- some slots are forgotten -/
theorem Rel.weak {γ' : List (Option D)} (r : Rel K B H0 ow σ H γ) (hl : γ'.length = γ.length) (h : ∀ (i : Nat) (d : D), γ'[i]? = some (some d) → γ[i]? = some (some d)) : Rel K B H0 ow σ H γ' :=
  ⟨by rw [hl]; exact r.len, r.one, fun i d a b => r.fz i d a (h i d b), fun i d a b => r.own i d a (h i d b), r.trk, r.fr, r.new, r.a0, r.xt, r.io⟩
/-- a list is being made at q -/
theorem Rel.plus {q : Addr} (r : Rel K B H0 ow σ H γ) (hq : H q = none) {o : HO} : Rel K (B.plus q) H0 ow σ (upd H q o) γ := by
  have hs : ∀ x ∈ (B.plus q).full σ ow, x ∈ q :: B.full σ ow := fun x hx => by
    simp only [Bd.full, Bd.base, Bd.plus, List.mem_append, List.mem_cons] at hx ⊢
    rcases hx with (h | h | h) | h
    · exact .inr (.inl (.inl h))
    · exact .inl h
    · exact .inr (.inl (.inr h))
    · exact .inr (.inr h)
  have nq : ∀ a, H a ≠ none → a ≠ q := fun a h e => h (by rw [e]; exact hq)
  refine ⟨r.len, r.one, fun i d a b => ?_, fun i d a b => ?_, fun a h => ?_, r.fr.trans (Fr.new hq), r.new, r.a0, fun a h => ?_, r.io⟩
  · obtain ⟨v, e, z⟩ := r.fz i d a b
    exact ⟨v, e, ((z.more hq).sub hs).fr (Fr.new hq)⟩
  · obtain ⟨x, vs, ds, e1, e2, e3, e4⟩ := r.own i d a b
    exact ⟨x, vs, ds, e1, e2, ⟨by rw [upd_ne (nq x (by rw [e3.1]; simp))]; exact e3.1, e3.2⟩, ((e4.more hq).sub hs).fr (Fr.new hq)⟩
  · obtain ⟨xs, e⟩ := r.trk a h
    exact ⟨xs, by rw [upd_ne (nq a (by rw [e]; simp))]; exact e⟩
  · rcases List.mem_cons.mp h with e | h
    · subst e
      refine ⟨by rw [upd_same]; simp, fun z => ?_⟩
      obtain ⟨xs, e⟩ := r.trk a z
      rw [hq] at e; cases e
    · obtain ⟨n, m⟩ := r.xt a h
      exact ⟨by rw [upd_ne (nq a n)]; exact n, m⟩
theorem full_plus {q : Addr} : ∀ x ∈ B.full σ ow, x ∈ (B.plus q).full σ ow := fun x hx => by
  simp only [Bd.full, Bd.base, Bd.plus, List.mem_append, List.mem_cons] at hx ⊢
  rcases hx with (h | h) | h
  · exact .inl (.inl h)
  · exact .inl (.inr (.inr h))
  · exact .inr h
theorem Rel.unplus {q : Addr} (r : Rel K (B.plus q) H0 ow σ H γ) : Rel K B H0 ow σ H γ :=
  ⟨r.len, r.one, fun i d a b => let ⟨v, e, z⟩ := r.fz i d a b; ⟨v, e, z.sub full_plus⟩, fun i d a b => let ⟨x, vs, ds, e1, e2, e3, e4⟩ := r.own i d a b; ⟨x, vs, ds, e1, e2, e3, e4.sub full_plus⟩,
    r.trk, r.fr, r.new, r.a0, fun a h => r.xt a (List.mem_cons_of_mem _ h), r.io⟩
/-- a list being made is written -/
theorem Rel.writeEx {q : Addr} {o : HO} (r : Rel K B H0 ow σ H γ) (hq : q ∈ B.ex) (hn : q ∉ B.io.toList) (h0 : H0 q = none) : Rel K B H0 ow σ (upd H q o) γ := by
  have nq : ∀ a, a ∈ oa σ ow → a ≠ q := fun a h e => (r.xt q hq).2 (e ▸ h)
  have hf : q ∈ B.full σ ow := List.mem_append_left _ (List.mem_append_right _ hq)
  refine ⟨r.len, r.one, fun i d a b => ?_, fun i d a b => ?_, fun a h => ?_, fun b o' e n => ?_, r.new, r.a0, fun a h => ?_, r.io⟩
  · obtain ⟨v, e, z⟩ := r.fz i d a b
    exact ⟨v, e, z.fr (Fr.at hf)⟩
  · obtain ⟨x, vs, ds, e1, e2, e3, e4⟩ := r.own i d a b
    exact ⟨x, vs, ds, e1, e2, ⟨by rw [upd_ne (nq x (mem_oa.mpr ⟨i, a, e1⟩))]; exact e3.1, e3.2⟩, e4.fr (Fr.at hf)⟩
  · obtain ⟨xs, e⟩ := r.trk a h
    exact ⟨xs, by rw [upd_ne (nq a h)]; exact e⟩
  · rw [upd_ne (fun z => by rw [z, h0] at e; cases e)]
    exact r.fr b o' e n
  · refine ⟨?_, (r.xt a h).2⟩
    by_cases e : a = q
    · rw [e, upd_same]; simp
    · rw [upd_ne e]; exact (r.xt a h).1
end
/-- γ' is γ with some slots forgotten -/
inductive Wk : List (Option D) → List (Option D) → Prop
  | nil : Wk [] []
  | k {d : Option D} {γ' γ : List (Option D)} : Wk γ' γ → Wk (d :: γ') (d :: γ)
  | f {d : Option D} {γ' γ : List (Option D)} : Wk γ' γ → Wk (none :: γ') (d :: γ)
theorem Wk.len : ∀ {γ' γ : List (Option D)}, Wk γ' γ → γ'.length = γ.length
  | _, _, .nil => rfl
  | _, _, .k h => by simp [h.len]
  | _, _, .f h => by simp [h.len]
theorem Wk.at : ∀ {γ' γ : List (Option D)}, Wk γ' γ → ∀ (i : Nat) (d : D), γ'[i]? = some (some d) → γ[i]? = some (some d)
  | _, _, .nil, _, _, h => h
  | _, _, .k h, 0, _, e => e
  | _, _, .k h, i + 1, d, e => by simpa using h.at i d (by simpa using e)
  | _, _, .f h, 0, _, e => by simp at e
  | _, _, .f h, i + 1, d, e => by simpa using h.at i d (by simpa using e)
theorem Rel.wk {K : Frag} {B : Bd} {H0 H : Hp} {ow : List Nat} {σ : L2.St} {γ γ' : List (Option D)} (r : Rel K B H0 ow σ H γ) (h : Wk γ' γ) : Rel K B H0 ow σ H γ' := r.weak h.len h.at
end Y
namespace Y
open PySem PySem.Spec L2

/-! ### codecs -/
@[reducible] def cI : Int → D := .int
@[reducible] def cB : Bool → D := .bool
@[reducible] def cS : Str → D := .str
@[reducible] def cN : Unit → D := fun _ => .none
@[reducible] def cD : D → D := fun d => d
@[reducible] def cT {α : Type} (c : α → D) : List α → D := fun xs => .tuple (xs.map c)
@[reducible] def cL {α : Type} (c : α → D) : List α → D := fun xs => .list (xs.map c)
@[reducible] def c0 : Unit → D := fun _ => .tuple []
@[reducible] def c1 {α : Type} (a : α → D) : α → D := fun p => .tuple [a p]
@[reducible] def c2 {α β : Type} (a : α → D) (b : β → D) : α × β → D := fun p => .tuple [a p.1, b p.2]
@[reducible] def c3 {α β γ : Type} (a : α → D) (b : β → D) (c : γ → D) : α × β × γ → D := fun p => .tuple [a p.1, b p.2.1, c p.2.2]
@[reducible] def c4 {α β γ δ : Type} (a : α → D) (b : β → D) (c : γ → D) (d : δ → D) : α × β × γ × δ → D := fun p => .tuple [a p.1, b p.2.1, c p.2.2.1, d p.2.2.2]
def cO {α : Type} (c : α → D) : Option α → D
  | .none => .none
  | .some x => c x
/-- arguments -/
@[reducible] def an : Unit → List D := fun _ => []
@[reducible] def ac {α β : Type} (a : α → D) (b : β → List D) : α × β → List D := fun p => a p.1 :: b p.2

/-! ### judgements -/
section
variable {E α β γ : Type}
def tS (K : Frag) (B : Bd) (ow : List Nat) (Γ : E → List (Option D)) (p s : Bool) (c : α → D) (G : E → Prop) (d : E → α) (u : E → E) : TE := fun σ H Q =>
  ∃ H0 ε, Rel K B H0 ow σ H (Γ ε) ∧ G ε ∧ ∀ v H', Fr (cond p [] (oa σ ow)) H H' → Rel K B H0 ow σ H' (Γ (u ε)) → Fz K (cond s (B.full σ ow) B.base) H' v (c (d ε)) → Q v H'
def tAs (K : Frag) (B : Bd) (ow : List Nat) (Γ : E → List (Option D)) (p s : Bool) (c : α → List D) (G : E → Prop) (d : E → α) (u : E → E) : TA := fun σ H Q =>
  ∃ H0 ε, Rel K B H0 ow σ H (Γ ε) ∧ G ε ∧ ∀ v H', Fr (cond p [] (oa σ ow)) H H' → Rel K B H0 ow σ H' (Γ (u ε)) → FzL K (cond s (B.full σ ow) B.base) H' v (c (d ε)) → Q v H'
def tTs (K : Frag) (B : Bd) (ow : List Nat) (Γ : E → List (Option D)) (p : Bool) (G : E → Prop) (d : E → Bool) (u : E → E) : TT := fun σ H Q =>
  ∃ H0 ε, Rel K B H0 ow σ H (Γ ε) ∧ G ε ∧ ∀ H', Fr (cond p [] (oa σ ow)) H H' → Rel K B H0 ow σ H' (Γ (u ε)) → Q (d ε) H'
structure De (X : Cx) (B : Bd) (ow : List Nat) (Γ : E → List (Option D)) (p s : Bool) (e : Expr) (c : α → D) (G : E → Prop) (d : E → α) (u : E → E) : Prop where
  pe : PE X e (tS X.K B ow Γ p s c G d u)
structure DA (X : Cx) (B : Bd) (ow : List Nat) (Γ : E → List (Option D)) (p s : Bool) (es : List Expr) (c : α → List D) (G : E → Prop) (d : E → α) (u : E → E) : Prop where
  pa : PA X es (tAs X.K B ow Γ p s c G d u)
structure Dt (X : Cx) (B : Bd) (ow : List Nat) (Γ : E → List (Option D)) (p : Bool) (e : Expr) (G : E → Prop) (d : E → Bool) (u : E → E) : Prop where
  pt : PT X e (tTs X.K B ow Γ p G d u)
structure Dw (X : Cx) (B : Bd) (ow : List Nat) (Γ : E → List (Option D)) (p : Bool) (e : Expr) (G : E → Prop) (d : E → Bool) (u : E → E) : Prop where
  pw : PW X e (tTs X.K B ow Γ p G d u)
end
theorem _root_.L2.PE.weaken {X : Cx} {e : Expr} {t t' : TE} (h : PE X e t) (w : ∀ σ H Q, t' σ H Q → t σ H Q) : PE X e t' := ⟨fun pins s σ H Q I q => h.run pins s σ H Q I (w σ H Q q)⟩
theorem _root_.L2.PT.weaken {X : Cx} {e : Expr} {t t' : TT} (h : PT X e t) (w : ∀ σ H Q, t' σ H Q → t σ H Q) : PT X e t' := ⟨fun pins s σ H Q I q => h.run pins s σ H Q I (w σ H Q q)⟩
theorem _root_.L2.PW.weaken {X : Cx} {e : Expr} {t t' : TT} (h : PW X e t) (w : ∀ σ H Q, t' σ H Q → t σ H Q) : PW X e t' := ⟨fun wh pins s σ H Q I q => h.run wh pins s σ H Q I (w σ H Q q)⟩
theorem _root_.L2.PA.weaken {X : Cx} {e : List Expr} {t t' : TA} (h : PA X e t) (w : ∀ σ H Q, t' σ H Q → t σ H Q) : PA X e t' := ⟨fun po pins s σ H Q I q => h.run po pins s σ H Q I (w σ H Q q)⟩
theorem _root_.L2.PS.weaken {X : Cx} {e : Stmt} {t t' : TS} (h : PS X e t) (w : ∀ D σ H, t' D σ H → t D σ H) : PS X e t' := ⟨fun pins s σ H D I q => h.run pins s σ H D I (w D σ H q)⟩
theorem _root_.L2.PSs.weaken {X : Cx} {e : List Stmt} {t t' : TS} (h : PSs X e t) (w : ∀ D σ H, t' D σ H → t D σ H) : PSs X e t' := ⟨fun pins s σ H D I q => h.run pins s σ H D I (w D σ H q)⟩

/-! ### operations on values -/
def Tr (A : List Addr) (H : Hp) : Prop := ∀ a ∈ A, H a ≠ none
theorem Tr.fr {A : List Addr} {H H' : Hp} (t : Tr A H) (f : Fr [] H H') : Tr A H' := fun a h => by
  cases e : H a with
  | none => exact absurd e (t a h)
  | some o => rw [f a o e (by simp)]; simp
theorem Tr.new {A : List Addr} {H : Hp} {p : Addr} (t : Tr A H) (h : H p = none) : p ∉ A := fun q => t p q h
section
variable {α β γ : Type}
def Op2 (K : Frag) (r : R2) (ca : α → D) (cb : β → D) (c : γ → D) (C : α → β → Prop) (f : α → β → γ) : Prop :=
  ∀ (A : List Addr) (H : Hp) (x : α) (y : β) (v w : V) (Q : VK), Tr A H → Fz K A H v (ca x) → Fz K A H w (cb y) → C x y → (∀ z H', Fr [] H H' → Fz K A H' z (c (f x y)) → Q z H') → r v w H Q
def Op1 (K : Frag) (r : V → Hp → VK → Prop) (ca : α → D) (c : γ → D) (C : α → Prop) (f : α → γ) : Prop :=
  ∀ (A : List Addr) (H : Hp) (x : α) (v : V) (Q : VK), Tr A H → Fz K A H v (ca x) → C x → (∀ z H', Fr [] H H' → Fz K A H' z (c (f x)) → Q z H') → r v H Q
def OpL (K : Frag) (r : List V → Hp → VK → Prop) (ca : α → List D) (c : γ → D) (C : α → Prop) (f : α → γ) : Prop :=
  ∀ (A : List Addr) (H : Hp) (x : α) (v : List V) (Q : VK), Tr A H → FzL K A H v (ca x) → C x → (∀ z H', Fr [] H H' → Fz K A H' z (c (f x)) → Q z H') → r v H Q
end

section
variable {X : Cx} {B : Bd} {ow : List Nat} {E α β γ : Type} {Γ : E → List (Option D)} {p p1 p2 s : Bool} {e e1 e2 e3 : Expr} {pos : Pos} {c : α → D} {ca : α → D} {cb : β → D} {cc : γ → D} {G G1 G2 : E → Prop} {d : E → α} {d1 : E → α} {d2 : E → β} {u u1 u2 : E → E}

theorem cond_fr {A : List Addr} {H H' : Hp} (h : Fr (cond p1 [] A) H H') (b : Bool) : Fr (cond (p1 && b) [] A) H H' := by
  cases p1 with
  | true => cases b with
    | true => exact h
    | false => exact Fr.nil h
  | false => exact h
theorem cond_fr2 {A : List Addr} {H H' : Hp} (h : Fr (cond p2 [] A) H H') (b : Bool) : Fr (cond (b && p2) [] A) H H' := by
  rw [Bool.and_comm]; exact cond_fr h b
theorem cond_fz {K : Frag} {A A0 O : List Addr} {H H' : Hp} {v : V} {x : D} (hO : ∀ a ∈ O, a ∈ A) (hs : (s || p2) = true) (f : Fr (cond p2 [] O) H H') (h : Fz K (cond s A A0) H v x) : Fz K (cond s A A0) H' v x := by
  cases p2 with
  | true => exact h.fr (Fr.nil f)
  | false => cases s with
    | true => exact h.fr (f.mono hO)
    | false => cases hs
theorem cond_fzl {K : Frag} {A A0 O : List Addr} {H H' : Hp} {v : List V} {x : List D} (hO : ∀ a ∈ O, a ∈ A) (hs : (s || p2) = true) (f : Fr (cond p2 [] O) H H') (h : FzL K (cond s A A0) H v x) : FzL K (cond s A A0) H' v x := by
  cases p2 with
  | true => exact h.fr (Fr.nil f)
  | false => cases s with
    | true => exact h.fr (f.mono hO)
    | false => cases hs
theorem Rel.tr {K : Frag} {H0 H : Hp} {σ : L2.St} {γ : List (Option D)} (r : Rel K B H0 ow σ H γ) (s : Bool) : Tr (cond s (B.full σ ow) B.base) H := fun a h => by
  cases s with
  | true => exact r.tracked a h
  | false => exact r.base_trk a h

/-- a value is known for less -/
theorem De.wk (h : De X B ow Γ p true e c G d u) : De X B ow Γ p false e c G d u := ⟨h.pe.weaken fun σ H Q ⟨H0, ε, r, g, k⟩ => ⟨H0, ε, r, g, fun v H' f r' z => k v H' f r' (z.sub fun a h => List.mem_append_left _ h)⟩⟩
theorem DA.wk {ca : α → List D} {es : List Expr} (h : DA X B ow Γ p true es ca G d u) : DA X B ow Γ p false es ca G d u := ⟨h.pa.weaken fun σ H Q ⟨H0, ε, r, g, k⟩ => ⟨H0, ε, r, g, fun v H' f r' z => k v H' f r' (z.sub fun a h => List.mem_append_left _ h)⟩⟩
/-- data without lists are known for all -/
theorem De.up (hl : ∀ x, lf (c x) = true) (h : De X B ow Γ p false e c G d u) : De X B ow Γ p true e c G d u := ⟨h.pe.weaken fun σ H Q ⟨H0, ε, r, g, k⟩ => ⟨H0, ε, r, g, fun v H' f r' z => k v H' f r' (z.up r'.trk (hl _))⟩⟩
/-- the guard is strengthened, the value told otherwise -/
theorem De.is {d' : E → α} {G' : E → Prop} (h : De X B ow Γ p s e c G d u) (hg : ∀ ε, G' ε → G ε) (hd : ∀ ε, G' ε → d ε = d' ε) : De X B ow Γ p s e c G' d' u :=
  ⟨h.pe.weaken fun σ H Q ⟨H0, ε, r, g, k⟩ => ⟨H0, ε, r, hg ε g, fun v H' f r' z => k v H' f r' (by rw [← hd ε g]; exact z)⟩⟩
/-- another codec -/
theorem De.as {α' : Type} {c' : α' → D} {g : α → α'} (hc : ∀ x, c x = c' (g x)) (h : De X B ow Γ p s e c G d u) : De X B ow Γ p s e c' G (fun ε => g (d ε)) u :=
  ⟨h.pe.weaken fun σ H Q ⟨H0, ε, r, gg, k⟩ => ⟨H0, ε, r, gg, fun v H' f r' z => k v H' f r' (by show Fz _ _ _ _ (c' (g (d ε))); rw [← hc]; exact z)⟩⟩

/-! ### names and constants -/
theorem d_var (i : Nat) {x : Str} (g : E → α) (c : α → D) (h : ∀ ε, (Γ ε)[i]? = some (some (c (g ε)))) (ho : i ∉ ow := by decide) (hN : X.N[i]? = some x := by rfl)
    (hv : Vis X.env.scope x := by first | exact Or.inl rfl | exact Or.inr (Or.inl rfl) | exact Or.inr (Or.inr rfl)) (hd : (x == ("__debug__" : Str)) = false := by decide)
    (hcd : (x == ("__classdict__" : Str)) = false := by decide) : De X B ow Γ true true (.Name x pos) c (fun _ => True) g (fun ε => ε) :=
  ⟨(pe_var hN hv hd hcd).weaken fun σ H Q ⟨H0, ε, r, _, k⟩ => by
    obtain ⟨v, e, z⟩ := r.fz i _ ho (h ε)
    exact ⟨v, e, k v H (Fr.refl _ _) r z⟩⟩
/-- a list of one's own, read -/
theorem d_own (i : Nat) {x : Str} (g : E → α) (c : α → D) (h : ∀ ε, (Γ ε)[i]? = some (some (c (g ε)))) (ho : i ∈ ow := by decide) (hN : X.N[i]? = some x := by rfl)
    (hv : Vis X.env.scope x := by first | exact Or.inl rfl | exact Or.inr (Or.inl rfl) | exact Or.inr (Or.inr rfl)) (hd : (x == ("__debug__" : Str)) = false := by decide)
    (hcd : (x == ("__classdict__" : Str)) = false := by decide) : De X B ow Γ true false (.Name x pos) c (fun _ => True) g (fun ε => ε) :=
  ⟨(pe_var hN hv hd hcd).weaken fun σ H Q ⟨H0, ε, r, _, k⟩ => by
    obtain ⟨a, vs, ds, e, ed, hl, z⟩ := r.own i _ ho (h ε)
    refine ⟨_, e, k _ H (Fr.refl _ _) r ?_⟩
    rw [ed]
    exact .lst ⟨⟨r.apart a (mem_oa.mpr ⟨i, ho, e⟩), hl.1⟩, hl.2⟩ (z.sub fun b q => List.mem_append_left _ q)⟩
theorem d_int {i j} : De X B ow Γ true true (.Constant (.int i) j pos) cI (fun _ => True) (fun _ => i) (fun ε => ε) := ⟨pe_int.weaken fun σ H Q ⟨_, ε, r, _, k⟩ => k _ H (Fr.refl _ _) r (.int i)⟩
theorem d_bl {b j} : De X B ow Γ true true (.Constant (.bool b) j pos) cB (fun _ => True) (fun _ => b) (fun ε => ε) := ⟨pe_bl.weaken fun σ H Q ⟨_, ε, r, _, k⟩ => k _ H (Fr.refl _ _) r (.bl b)⟩
theorem d_str {x j} : De X B ow Γ true true (.Constant (.str x) j pos) cS (fun _ => True) (fun _ => x) (fun ε => ε) := ⟨pe_str.weaken fun σ H Q ⟨_, ε, r, _, k⟩ => k _ H (Fr.refl _ _) r (.str x)⟩
theorem d_non {j} : De X B ow Γ true true (.Constant .none j pos) cN (fun _ => True) (fun _ => ()) (fun ε => ε) := ⟨pe_non.weaken fun σ H Q ⟨_, ε, r, _, k⟩ => k _ H (Fr.refl _ _) r .non⟩
/-- a constant of the module: k says what it is -/
theorem d_glob {x : Str} {v : V} {w : Value} {c : α → D} {a : α} (hm : X.mg x = some w) (r : RelV v w) (k : ∀ A H, Fz X.K A H v (c a)) (hg : Gl X x := by rfl) (hd : (x == ("__debug__" : Str)) = false := by decide) :
    De X B ow Γ true true (.Name x pos) c (fun _ => True) (fun _ => a) (fun ε => ε) := ⟨(pe_glob hg hm r hd).weaken fun σ H Q ⟨_, ε, r, _, q⟩ => q _ H (Fr.refl _ _) r (k _ _)⟩

/-! ### two operands -/
theorem tOp_of {K : Frag} {r : R2} {C : α → β → Prop} {f : α → β → γ} (hv : Op2 K r ca cb cc C f) (hs : (s || p2) = true) {σ : L2.St} {H : Hp} {Q : VK}
    (h : tS K B ow Γ (p1 && p2) s cc (fun ε => G1 ε ∧ G2 (u1 ε) ∧ C (d1 ε) (d2 (u1 ε))) (fun ε => f (d1 ε) (d2 (u1 ε))) (fun ε => u2 (u1 ε)) σ H Q) :
    tOp r (tS K B ow Γ p1 s ca G1 d1 u1) (tS K B ow Γ p2 s cb G2 d2 u2) σ H Q := by
  obtain ⟨H0, ε, rl, ⟨g1, g2, g3⟩, k⟩ := h
  refine ⟨H0, ε, rl, g1, fun v H1 f1 r1 z1 => ⟨H0, u1 ε, r1, g2, fun w H2 f2 r2 z2 => ?_⟩⟩
  exact hv _ H2 _ _ v w Q (r2.tr s) (cond_fz (fun a h => List.mem_append_right _ h) hs f2 z1) z2 g3 fun z H3 f3 z3 => k z H3 (((cond_fr f1 p2).trans (cond_fr2 f2 p1)).trans f3.nil) (r2.grow f3) z3
theorem d_op {op : Operator} {r : R2} {C : α → β → Prop} {f : α → β → γ} (ho : OpR X (binaryOp op) r) (hv : Op2 X.K r ca cb cc C f) (h1 : De X B ow Γ p1 s e1 ca G1 d1 u1) (h2 : De X B ow Γ p2 s e2 cb G2 d2 u2) (hs : (s || p2) = true := by rfl) :
    De X B ow Γ (p1 && p2) s (.BinOp e1 op e2 pos) cc (fun ε => G1 ε ∧ G2 (u1 ε) ∧ C (d1 ε) (d2 (u1 ε))) (fun ε => f (d1 ε) (d2 (u1 ε))) (fun ε => u2 (u1 ε)) :=
  ⟨(pe_op ho h1.pe h2.pe).weaken fun _ _ _ h => tOp_of hv hs h⟩
theorem d_cmp {op : CmpOp} {r : R2} {C : α → β → Prop} {f : α → β → γ} (ho : OpR X (compareOp op) r) (hv : Op2 X.K r ca cb cc C f) (h1 : De X B ow Γ p1 s e1 ca G1 d1 u1) (h2 : De X B ow Γ p2 s e2 cb G2 d2 u2) (hm : behindInMarks op e2 = false) (hs : (s || p2) = true := by rfl) :
    De X B ow Γ (p1 && p2) s (.Compare e1 [op] [e2] pos) cc (fun ε => G1 ε ∧ G2 (u1 ε) ∧ C (d1 ε) (d2 (u1 ε))) (fun ε => f (d1 ε) (d2 (u1 ε))) (fun ε => u2 (u1 ε)) :=
  ⟨(pe_cmpR ho h1.pe h2.pe hm).weaken fun _ _ _ h => tOp_of hv hs h⟩
theorem t_cmp {op : CmpOp} {r : R2} {C : α → β → Prop} {f : α → β → Bool} (ho : OpR X (compareOp op) r) (hv : Op2 X.K r ca cb cB C f) (h1 : De X B ow Γ p1 s e1 ca G1 d1 u1) (h2 : De X B ow Γ p2 s e2 cb G2 d2 u2) (hm : behindInMarks op e2 = false) (hs : (s || p2) = true := by rfl) :
    Dt X B ow Γ (p1 && p2) (.Compare e1 [op] [e2] pos) (fun ε => G1 ε ∧ G2 (u1 ε) ∧ C (d1 ε) (d2 (u1 ε))) (fun ε => f (d1 ε) (d2 (u1 ε))) (fun ε => u2 (u1 ε)) :=
  ⟨(pt_cmpR ho h1.pe h2.pe hm).weaken fun σ H Q ⟨H0, ε, rl, g, k⟩ => tOp_of (cc := cB) hv hs ⟨H0, ε, rl, g, fun v H' f r' z => ⟨_, z.bl_inv, k H' f r'⟩⟩⟩
theorem d_ix {r : R2} {C : α → β → Prop} {f : α → β → γ} (ho : IxR X r) (hv : Op2 X.K r ca cb cc C f) (h1 : De X B ow Γ p1 s e1 ca G1 d1 u1) (h2 : De X B ow Γ p2 s e2 cb G2 d2 u2) (hx : PlainIx e2 := by exact fun _ _ => rfl) (hs : (s || p2) = true := by rfl) :
    De X B ow Γ (p1 && p2) s (.Subscript e1 e2 pos) cc (fun ε => G1 ε ∧ G2 (u1 ε) ∧ C (d1 ε) (d2 (u1 ε))) (fun ε => f (d1 ε) (d2 (u1 ε))) (fun ε => u2 (u1 ε)) :=
  ⟨(pe_ix ho h1.pe h2.pe hx).weaken fun _ _ _ h => tOp_of hv hs h⟩
theorem d_un {op : UnaryOp} {r : V → Hp → VK → Prop} {C : α → Prop} {f : α → γ} (ho : UnR X (unaryOp op) r) (hv : Op1 X.K r ca cc C f) (h1 : De X B ow Γ p1 s e1 ca G1 d1 u1) :
    De X B ow Γ p1 s (.UnaryOp op e1 pos) cc (fun ε => G1 ε ∧ C (d1 ε)) (fun ε => f (d1 ε)) u1 :=
  ⟨(pe_un ho h1.pe).weaken fun σ H Q ⟨H0, ε, rl, ⟨g1, g2⟩, k⟩ => ⟨H0, ε, rl, g1, fun v H1 f1 r1 z1 => hv _ H1 _ v Q (r1.tr s) z1 g2 fun z H3 f3 z3 => k z H3 (f1.trans f3.nil) (r1.grow f3) z3⟩⟩

/-! ### argument lists -/
theorem a_nil : DA X B ow Γ true s [] an (fun _ => True) (fun _ => ()) (fun ε => ε) := ⟨pa_nil.weaken fun σ H Q ⟨_, ε, r, _, k⟩ => k _ H (Fr.refl _ _) r .nil⟩
theorem a_cons {es : List Expr} {cb : β → List D} (h1 : De X B ow Γ p1 s e1 ca G1 d1 u1) (h2 : DA X B ow Γ p2 s es cb G2 d2 u2) (hs : (s || p2) = true := by rfl) (hst : starEach (e1 :: es) X.env = (false, eval e1 X.env) :: starEach es X.env := by rfl) :
    DA X B ow Γ (p1 && p2) s (e1 :: es) (ac ca cb) (fun ε => G1 ε ∧ G2 (u1 ε)) (fun ε => (d1 ε, d2 (u1 ε))) (fun ε => u2 (u1 ε)) :=
  ⟨(pa_cons h1.pe h2.pa hst).weaken fun σ H Q ⟨H0, ε, rl, ⟨g1, g2⟩, k⟩ => ⟨H0, ε, rl, g1, fun v H1 f1 r1 z1 => ⟨H0, u1 ε, r1, g2, fun w H2 f2 r2 z2 => k _ H2 ((cond_fr f1 p2).trans (cond_fr2 f2 p1)) r2 (.cons (cond_fz (fun a h => List.mem_append_right _ h) hs f2 z1) z2)⟩⟩⟩
/-- a tuple, a list of written items -/
theorem d_tup {es : List Expr} {cs : α → List D} {x1} {ct : α → D} (hc : ∀ x, ct x = .tuple (cs x)) (hl : ∀ x, (cs x).length ≤ 1000) (h : DA X B ow Γ p s es cs G d u) : De X B ow Γ p s (.Tuple es x1 pos) ct G d u :=
  ⟨(pe_tup h.pa).weaken fun σ H Q ⟨H0, ε, rl, g, k⟩ => ⟨H0, ε, rl, g, fun vs H1 f1 r1 z1 => ⟨by rw [z1.length]; exact Nat.le_trans (hl _) (by decide), fun q hq => k _ _ (f1.trans (Fr.new hq)) (r1.grow (Fr.new hq)) (by
    rw [hc]
    exact .tup (.inl ⟨(r1.tr s).new hq, upd_same, by rw [z1.length]; exact Nat.le_trans (hl _) (by decide)⟩) (z1.fr (Fr.new hq)))⟩⟩⟩
theorem d_lst {es : List Expr} {cs : α → List D} {ct : α → D} (hc : ∀ x, ct x = .list (cs x)) (hl : ∀ x, (cs x).length ≤ 1000) (h : DA X B ow Γ p s es cs G d u) : De X B ow Γ p s (.List es pos) ct G d u :=
  ⟨(pe_lst h.pa).weaken fun σ H Q ⟨H0, ε, rl, g, k⟩ => ⟨H0, ε, rl, g, fun vs H1 f1 r1 z1 => ⟨by rw [z1.length]; exact Nat.le_trans (hl _) (by decide), fun q hq => k _ _ (f1.trans (Fr.new hq)) (r1.grow (Fr.new hq)) (by
    rw [hc]
    exact .lst ⟨⟨(r1.tr s).new hq, upd_same⟩, by rw [z1.length]; exact Nat.le_trans (hl _) (by decide)⟩ (z1.fr (Fr.new hq)))⟩⟩⟩
/-- a built-in called -/
theorem d_blt {x : Str} {id : String} {es : List Expr} {ca : α → List D} {r : List V → Hp → VK → Prop} {C : α → Prop} {f : α → γ} {px : Pos} (ho : CallR X (.builtin id) r) (hv : OpL X.K r ca cc C f) (hm : X.mg x = none) (hb : bootBuiltins x = some (.builtin id)) (h : DA X B ow Γ p s (e1 :: es) ca G d u)
    (hg : Gl X x := by rfl) (hn : x ≠ "__name__" := by decide) (hdb : (x == ("__debug__" : Str)) = false := by decide) (he : starEach (e1 :: es) X.env = (false, eval e1 X.env) :: starEach es X.env := by rfl) (hpl : (backTo pos (starEach es X.env)).any (·.1) = false := by rfl) :
    De X B ow Γ p s (.Call (.Name x px) (e1 :: es) [] pos) cc (fun ε => G ε ∧ C (d ε)) (fun ε => f (d ε)) u :=
  ⟨(pe_callB ho hg hm hb h.pa hn hdb he hpl).weaken fun σ H Q ⟨H0, ε, rl, ⟨g1, g2⟩, k⟩ => ⟨H0, ε, rl, g1, fun v H1 f1 r1 z1 => hv _ H1 _ v Q (r1.tr s) z1 g2 fun z H3 f3 z3 => k z H3 (f1.trans f3.nil) (r1.grow f3) z3⟩⟩
theorem d_ty {x : Str} {T : String} {es : List Expr} {ca : α → List D} {r : List V → Hp → VK → Prop} {C : α → Prop} {f : α → γ} {px : Pos} (ho : CallR X (.type T) r) (hv : OpL X.K r ca cc C f) (hm : X.mg x = none) (hb : bootBuiltins x = some (.type T)) (h : DA X B ow Γ p s (e1 :: es) ca G d u)
    (hg : Gl X x := by rfl) (hn : x ≠ "__name__" := by decide) (hdb : (x == ("__debug__" : Str)) = false := by decide) (he : starEach (e1 :: es) X.env = (false, eval e1 X.env) :: starEach es X.env := by rfl) (hpl : (backTo pos (starEach es X.env)).any (·.1) = false := by rfl) :
    De X B ow Γ p s (.Call (.Name x px) (e1 :: es) [] pos) cc (fun ε => G ε ∧ C (d ε)) (fun ε => f (d ε)) u :=
  ⟨(pe_callTy ho hg hm hb h.pa hn hdb he hpl).weaken fun σ H Q ⟨H0, ε, rl, ⟨g1, g2⟩, k⟩ => ⟨H0, ε, rl, g1, fun v H1 f1 r1 z1 => hv _ H1 _ v Q (r1.tr s) z1 g2 fun z H3 f3 z3 => k z H3 (f1.trans f3.nil) (r1.grow f3) z3⟩⟩

/-! ### tests -/
variable {t t1 t2 : E → Bool}
theorem t_val (h : De X B ow Γ p s e cB G t u) (he : ∀ whole, isTrue e X.env whole = (do let v ← whole; standAt e.pos; holding [v] (truthy v)) := by intro _; rfl) : Dt X B ow Γ p e G t u :=
  ⟨(pt_val h.pe he).weaken fun σ H Q ⟨H0, ε, rl, g, k⟩ => ⟨H0, ε, rl, g, fun v H1 f1 r1 z1 => ⟨_, z1.bl_inv, k H1 f1 r1⟩⟩⟩
theorem t_not (h : Dt X B ow Γ p e G t u) : Dt X B ow Γ p (.UnaryOp .Not e pos) G (fun ε => !t ε) u :=
  ⟨(pt_not h.pt).weaken fun σ H Q ⟨H0, ε, rl, g, k⟩ => ⟨H0, ε, rl, g, fun H1 f1 r1 => k H1 f1 r1⟩⟩
theorem w_and1 (h : Dt X B ow Γ p e G t u) : Dw X B ow Γ p (.BoolOp .And [e] pos) G t u := ⟨pw_and1 h.pt⟩
theorem w_or1 (h : Dt X B ow Γ p e G t u) : Dw X B ow Γ p (.BoolOp .Or [e] pos) G t u := ⟨pw_or1 h.pt⟩
theorem w_and {es : List Expr} (h1 : Dt X B ow Γ p1 e1 G1 t1 u1) (h2 : Dw X B ow Γ p2 (.BoolOp .And (e2 :: es) pos) G2 t2 u2) :
    Dw X B ow Γ (p1 && p2) (.BoolOp .And (e1 :: e2 :: es) pos) (fun ε => G1 ε ∧ (t1 ε = true → G2 (u1 ε))) (fun ε => t1 ε && t2 (u1 ε)) (fun ε => if t1 ε then u2 (u1 ε) else u1 ε) :=
  ⟨(pw_and h1.pt h2.pw).weaken fun σ H Q ⟨H0, ε, rl, ⟨g1, g2⟩, k⟩ => ⟨H0, ε, rl, g1, fun H1 f1 r1 => by
    cases h : t1 ε with
    | true =>
      refine ⟨H0, u1 ε, r1, g2 h, fun H2 f2 r2 => ?_⟩
      have := k H2 ((cond_fr f1 p2).trans (cond_fr2 f2 p1)) (by simpa [h] using r2)
      simpa [h] using this
    | false =>
      have := k H1 (cond_fr f1 p2) (by simpa [h] using r1)
      simpa [h] using this⟩⟩
theorem w_or {es : List Expr} (h1 : Dt X B ow Γ p1 e1 G1 t1 u1) (h2 : Dw X B ow Γ p2 (.BoolOp .Or (e2 :: es) pos) G2 t2 u2) :
    Dw X B ow Γ (p1 && p2) (.BoolOp .Or (e1 :: e2 :: es) pos) (fun ε => G1 ε ∧ (t1 ε = false → G2 (u1 ε))) (fun ε => t1 ε || t2 (u1 ε)) (fun ε => if t1 ε then u1 ε else u2 (u1 ε)) :=
  ⟨(pw_or h1.pt h2.pw).weaken fun σ H Q ⟨H0, ε, rl, ⟨g1, g2⟩, k⟩ => ⟨H0, ε, rl, g1, fun H1 f1 r1 => by
    cases h : t1 ε with
    | true =>
      have := k H1 (cond_fr f1 p2) (by simpa [h] using r1)
      simpa [h] using this
    | false =>
      refine ⟨H0, u1 ε, r1, g2 h, fun H2 f2 r2 => ?_⟩
      have := k H2 ((cond_fr f1 p2).trans (cond_fr2 f2 p1)) (by simpa [h] using r2)
      simpa [h] using this⟩⟩
theorem Dw.dt (h : Dw X B ow Γ p e G t u) : Dt X B ow Γ p e G t u := ⟨h.pw.pt⟩
/-- the environment behind a pure test is the one ahead -/
theorem Dt.pure (h : Dt X B ow Γ p e G t u) (hu : ∀ ε, u ε = ε) : Dt X B ow Γ p e G t (fun ε => ε) := by
  have : u = fun ε => ε := funext hu
  rw [← this]; exact h
theorem Dw.pure (h : Dw X B ow Γ p e G t u) (hu : ∀ ε, u ε = ε) : Dw X B ow Γ p e G t (fun ε => ε) := by
  have : u = fun ε => ε := funext hu
  rw [← this]; exact h
theorem Dt.is {t' : E → Bool} {G' : E → Prop} (h : Dt X B ow Γ p e G t u) (hg : ∀ ε, G' ε → G ε) (hd : ∀ ε, G' ε → t ε = t' ε) : Dt X B ow Γ p e G' t' u :=
  ⟨h.pt.weaken fun σ H Q ⟨H0, ε, r, g, k⟩ => ⟨H0, ε, r, hg ε g, fun H' f r' => by rw [hd ε g]; exact k H' f r'⟩⟩
end
theorem ite_same {E : Type} {b : Bool} (ε : E) : (if b = true then ε else ε) = ε := by cases b <;> rfl
end Y
namespace Y
open PySem PySem.Spec L2

/-! ### ints -/
section
variable {K : Frag} {γ : Type}
theorem v_I0 {c : γ → D} {g : Int → Int → V} {f : Int → Int → γ} (h : ∀ A H i j, Fz K A H (g i j) (c (f i j))) : Op2 K (rI0 g) cI cI c (fun _ _ => True) f := fun A H x y v w Q _ z1 z2 _ k => by
  cases z1.int_inv
  cases z2.int_inv
  exact ⟨x, y, rfl, rfl, k _ H (Fr.refl _ _) (h A H x y)⟩
theorem v_I {c : γ → D} {C : Int → Int → Prop} {g : Int → Int → V} {f : Int → Int → γ} (h : ∀ A H i j, Fz K A H (g i j) (c (f i j))) : Op2 K (rI C g) cI cI c C f := fun A H x y v w Q _ z1 z2 hc k => by
  cases z1.int_inv
  cases z2.int_inv
  exact ⟨x, y, rfl, rfl, hc, k _ H (Fr.refl _ _) (h A H x y)⟩
theorem v_add : Op2 K (rI0 fun i j => .int (i + j)) cI cI cI (fun _ _ => True) (fun i j => i + j) := v_I0 fun _ _ _ _ => .int _
theorem v_sub : Op2 K (rI0 fun i j => .int (i - j)) cI cI cI (fun _ _ => True) (fun i j => i - j) := v_I0 fun _ _ _ _ => .int _
theorem v_mul : Op2 K (rI CMul fun i j => .int (i * j)) cI cI cI CMul (fun i j => i * j) := v_I fun _ _ _ _ => .int _
theorem v_fdiv : Op2 K (rI CDivW fun i j => .int (i / j)) cI cI cI CDivW (fun i j => i / j) := v_I fun _ _ _ _ => .int _
theorem v_mod : Op2 K (rI (fun _ j => 0 < j) fun i j => .int (i % j)) cI cI cI (fun _ j => 0 < j) (fun i j => i % j) := v_I fun _ _ _ _ => .int _
theorem v_pow : Op2 K (rI CPow fun i j => .int (i ^ j.toNat)) cI cI cI CPow (fun i j => i ^ j.toNat) := v_I fun _ _ _ _ => .int _
theorem v_lt : Op2 K (rI0 fun i j => .bl (decide (i < j))) cI cI cB (fun _ _ => True) (fun i j => decide (i < j)) := v_I0 fun _ _ _ _ => .bl _
theorem v_le : Op2 K (rI0 fun i j => .bl (decide (i ≤ j))) cI cI cB (fun _ _ => True) (fun i j => decide (i ≤ j)) := v_I0 fun _ _ _ _ => .bl _
theorem v_gt : Op2 K (rI0 fun i j => .bl (decide (j < i))) cI cI cB (fun _ _ => True) (fun i j => decide (j < i)) := v_I0 fun _ _ _ _ => .bl _
theorem v_ge : Op2 K (rI0 fun i j => .bl (decide (j ≤ i))) cI cI cB (fun _ _ => True) (fun i j => decide (j ≤ i)) := v_I0 fun _ _ _ _ => .bl _
theorem v_eqI : Op2 K rEq cI cI cB (fun _ _ => True) (fun i j => decide (i = j)) := fun A H x y v w Q _ z1 z2 _ k => by
  cases z1.int_inv
  cases z2.int_inv
  refine ⟨rfl, k _ H (Fr.refl _ _) ?_⟩
  have e : decide (V.int x = V.int y) = decide (x = y) := decide_eq_decide.mpr ⟨fun h => V.int.inj h, fun h => by rw [h]⟩
  rw [e]
  exact .bl _
theorem v_neI : Op2 K rNe cI cI cB (fun _ _ => True) (fun i j => !decide (i = j)) := fun A H x y v w Q _ z1 z2 _ k => by
  cases z1.int_inv
  cases z2.int_inv
  refine ⟨rfl, k _ H (Fr.refl _ _) ?_⟩
  have e : decide (V.int x = V.int y) = decide (x = y) := decide_eq_decide.mpr ⟨fun h => V.int.inj h, fun h => by rw [h]⟩
  rw [e]
  exact .bl _
theorem v_eqB : Op2 K rEq cB cB cB (fun _ _ => True) (fun i j => decide (i = j)) := fun A H x y v w Q _ z1 z2 _ k => by
  cases z1.bl_inv
  cases z2.bl_inv
  refine ⟨rfl, k _ H (Fr.refl _ _) ?_⟩
  have e : decide (V.bl x = V.bl y) = decide (x = y) := decide_eq_decide.mpr ⟨fun h => V.bl.inj h, fun h => by rw [h]⟩
  rw [e]
  exact .bl _
theorem v_neB : Op2 K rNe cB cB cB (fun _ _ => True) (fun i j => !decide (i = j)) := fun A H x y v w Q _ z1 z2 _ k => by
  cases z1.bl_inv
  cases z2.bl_inv
  refine ⟨rfl, k _ H (Fr.refl _ _) ?_⟩
  have e : decide (V.bl x = V.bl y) = decide (x = y) := decide_eq_decide.mpr ⟨fun h => V.bl.inj h, fun h => by rw [h]⟩
  rw [e]
  exact .bl _
theorem v_eqS : Op2 K rEq cS cS cB (fun _ _ => True) (fun i j => decide (i = j)) := fun A H x y v w Q _ z1 z2 _ k => by
  cases z1.str_inv
  cases z2.str_inv
  refine ⟨rfl, k _ H (Fr.refl _ _) ?_⟩
  have e : decide (V.str x = V.str y) = decide (x = y) := decide_eq_decide.mpr ⟨fun h => V.str.inj h, fun h => by rw [h]⟩
  rw [e]
  exact .bl _
theorem v_neS : Op2 K rNe cS cS cB (fun _ _ => True) (fun i j => !decide (i = j)) := fun A H x y v w Q _ z1 z2 _ k => by
  cases z1.str_inv
  cases z2.str_inv
  refine ⟨rfl, k _ H (Fr.refl _ _) ?_⟩
  have e : decide (V.str x = V.str y) = decide (x = y) := decide_eq_decide.mpr ⟨fun h => V.str.inj h, fun h => by rw [h]⟩
  rw [e]
  exact .bl _
theorem v_neg : Op1 K (rU fun i => .int (-i)) cI cI (fun _ => True) (fun i => -i) := fun A H x v Q _ z1 _ k => by
  cases z1.int_inv
  exact ⟨x, rfl, k _ H (Fr.refl _ _) (.int _)⟩
end

/-! ### sequences: lists and tuples -/
/-- c is a list's or a tuple's codec, its items' one ce -/
def IsSq {α : Type} (c : List α → D) (ce : α → D) : Prop := (∀ xs, c xs = .list (xs.map ce)) ∨ ∀ xs, c xs = .tuple (xs.map ce)
theorem sq_L {α : Type} {ce : α → D} : IsSq (cL ce) ce := .inl fun _ => rfl
theorem sq_T {α : Type} {ce : α → D} : IsSq (cT ce) ce := .inr fun _ => rfl
section
variable {K : Frag} {A : List Addr} {H : Hp} {v : V} {α β γ : Type}
theorem IsSq.inv {c : List α → D} {ce : α → D} (h : IsSq c ce) {xs : List α} (z : Fz K A H v (c xs)) : ∃ a vs, v = .ref a ∧ (SqL K H a vs ∨ SqT K H a vs) ∧ FzL K A H vs (xs.map ce) ∧ vs.length = xs.length ∧ vs.length ≤ szN := by
  rcases h with h | h
  · rw [h] at z
    obtain ⟨a, vs, e, n, l⟩ := z.lst_inv
    exact ⟨a, vs, e, .inl n.sq, l, by simpa using l.length, n.2⟩
  · rw [h] at z
    obtain ⟨a, vs, e, n, l⟩ := z.tup_inv
    exact ⟨a, vs, e, .inr n.sq, l, by simpa using l.length, n.sz⟩
theorem fzl1 {ds : List D} {vs : List V} {d : D} (h : FzL K A H vs [d]) : ∃ v, vs = [v] ∧ Fz K A H v d := by
  cases h with | cons a b => cases b; exact ⟨_, rfl, a⟩
theorem fzl2 {ds : List D} {vs : List V} {d d' : D} (h : FzL K A H vs [d, d']) : ∃ v w, vs = [v, w] ∧ Fz K A H v d ∧ Fz K A H w d' := by
  cases h with | cons a b => cases b with | cons a' b' => cases b'; exact ⟨_, _, rfl, a, a'⟩
theorem fzl_ints : ∀ {vs : List V} {xs : List Int}, FzL K A H vs (xs.map cI) → vs = xs.map V.int
  | _, [], .nil => rfl
  | _, x :: xs, .cons a b => by rw [a.int_inv, fzl_ints b]; rfl
theorem fzl_bls : ∀ {vs : List V} {xs : List Bool}, FzL K A H vs (xs.map cB) → vs = xs.map V.bl
  | _, [], .nil => rfl
  | _, x :: xs, .cons a b => by rw [a.bl_inv, fzl_bls b]; rfl
theorem fzl_strs : ∀ {vs : List V} {xs : List Str}, FzL K A H vs (xs.map cS) → vs = xs.map V.str
  | _, [], .nil => rfl
  | _, x :: xs, .cons a b => by rw [a.str_inv, fzl_strs b]; rfl
theorem ints_fzl : ∀ (xs : List Int), FzL K A H (xs.map V.int) (xs.map cI)
  | [] => .nil
  | x :: xs => .cons (.int x) (ints_fzl xs)

/-- len -/
def rLenQ (K : Frag) : List V → Hp → VK → Prop := fun xs H Q => ∃ p ys, xs = [.ref p] ∧ (SqL K H p ys ∨ SqT K H p ys) ∧ Q (.int ys.length) H
theorem v_len {c : List α → D} {ce : α → D} (hc : IsSq c ce) : OpL K (rLenQ K) (ac c an) cI (fun _ => True) (fun q => (q.1.length : Int)) := fun A H q vs Q _ z _ k => by
  obtain ⟨v, rfl, z1⟩ := fzl1 (ds := []) z
  obtain ⟨a, ws, rfl, hs, l, e, sz⟩ := hc.inv z1
  refine ⟨a, ws, rfl, hs, k _ H (Fr.refl _ _) ?_⟩
  rw [e]
  exact .int _
theorem v_lenS : OpL K (fun xs H Q => ∃ z, xs = [.str z] ∧ z.length ≤ sizeLine ∧ Q (.int z.length) H) (ac cS an) cI (fun q => q.1.length ≤ 16777216) (fun q => (q.1.length : Int)) := fun A H q vs Q _ z hc k => by
  obtain ⟨v, rfl, z1⟩ := fzl1 (ds := []) z
  cases z1.str_inv
  exact ⟨_, rfl, by rw [sizeLine_eq]; exact hc, k _ H (Fr.refl _ _) (.int _)⟩
/-- abs, int, max, min of two -/
theorem v_abs : OpL K (fun xs H Q => ∃ i, xs = [.int i] ∧ Q (.int (if i < 0 then -i else i)) H) (ac cI an) cI (fun _ => True) (fun q => (q.1.natAbs : Int)) := fun A H q vs Q _ z _ k => by
  obtain ⟨v, rfl, z1⟩ := fzl1 (ds := []) z
  cases z1.int_inv
  refine ⟨_, rfl, k _ H (Fr.refl _ _) ?_⟩
  have e : (if q.1 < 0 then -q.1 else q.1) = (q.1.natAbs : Int) := by split <;> omega
  rw [e]
  exact .int _
theorem v_int : OpL K (fun xs H Q => (∃ i, xs = [.int i] ∧ Q (.int i) H) ∨ ∃ k, xs = [.bl k] ∧ Q (.int (if k then 1 else 0)) H) (ac cI an) cI (fun _ => True) (fun q => q.1) := fun A H q vs Q _ z _ k => by
  obtain ⟨v, rfl, z1⟩ := fzl1 (ds := []) z
  cases z1.int_inv
  exact .inl ⟨_, rfl, k _ H (Fr.refl _ _) (.int _)⟩
theorem v_max2 : OpL K (fun xs H Q => ∃ i j, xs = [.int i, .int j] ∧ Q (.int (if j > i then j else i)) H) (ac cI (ac cI an)) cI (fun _ => True) (fun q => max q.1 q.2.1) := fun A H q vs Q _ z _ k => by
  obtain ⟨v, w, rfl, z1, z2⟩ := fzl2 (ds := []) z
  cases z1.int_inv
  cases z2.int_inv
  refine ⟨_, _, rfl, k _ H (Fr.refl _ _) ?_⟩
  have e : (if q.2.1 > q.1 then q.2.1 else q.1) = max q.1 q.2.1 := by split <;> omega
  rw [e]
  exact .int _
theorem v_min2 : OpL K (fun xs H Q => ∃ i j, xs = [.int i, .int j] ∧ Q (.int (if j < i then j else i)) H) (ac cI (ac cI an)) cI (fun _ => True) (fun q => min q.1 q.2.1) := fun A H q vs Q _ z _ k => by
  obtain ⟨v, w, rfl, z1, z2⟩ := fzl2 (ds := []) z
  cases z1.int_inv
  cases z2.int_inv
  refine ⟨_, _, rfl, k _ H (Fr.refl _ _) ?_⟩
  have e : (if q.2.1 < q.1 then q.2.1 else q.1) = min q.1 q.2.1 := by split <;> omega
  rw [e]
  exact .int _
/-- min, max of a list of ints -/
def minI : List Int → Int
  | [] => 0
  | x :: xs => xs.foldl min x
def maxI : List Int → Int
  | [] => 0
  | x :: xs => xs.foldl max x
theorem foldl_min_spec : ∀ (xs : List Int) (x : Int), (xs.foldl min x = x ∨ xs.foldl min x ∈ xs) ∧ xs.foldl min x ≤ x ∧ ∀ y ∈ xs, xs.foldl min x ≤ y
  | [], x => ⟨.inl rfl, Int.le_refl _, fun _ h => by cases h⟩
  | y :: xs, x => by
    obtain ⟨h1, h2, h3⟩ := foldl_min_spec xs (min x y)
    simp only [List.foldl_cons, List.mem_cons]
    refine ⟨?_, by omega, ?_⟩
    · rcases h1 with h | h
      · by_cases hxy : x ≤ y
        · left; omega
        · right; left; omega
      · right; right; exact h
    · rintro z (rfl | hz)
      · omega
      · exact h3 z hz
theorem foldl_max_spec : ∀ (xs : List Int) (x : Int), (xs.foldl max x = x ∨ xs.foldl max x ∈ xs) ∧ x ≤ xs.foldl max x ∧ ∀ y ∈ xs, y ≤ xs.foldl max x
  | [], x => ⟨.inl rfl, Int.le_refl _, fun _ h => by cases h⟩
  | y :: xs, x => by
    obtain ⟨h1, h2, h3⟩ := foldl_max_spec xs (max x y)
    simp only [List.foldl_cons, List.mem_cons]
    refine ⟨?_, by omega, ?_⟩
    · rcases h1 with h | h
      · by_cases hxy : y ≤ x
        · left; omega
        · right; left; omega
      · right; right; exact h
    · rintro z (rfl | hz)
      · omega
      · exact h3 z hz
theorem minI_mem {xs : List Int} (h : xs ≠ []) : minI xs ∈ xs := by
  cases xs with
  | nil => exact absurd rfl h
  | cons x xs =>
    rcases (foldl_min_spec xs x).1 with e | e
    · show xs.foldl min x ∈ _; rw [e]; exact List.mem_cons_self
    · exact List.mem_cons_of_mem _ e
theorem minI_le {xs : List Int} {y : Int} (h : y ∈ xs) : minI xs ≤ y := by
  cases xs with
  | nil => cases h
  | cons x xs =>
    obtain ⟨_, h2, h3⟩ := foldl_min_spec xs x
    rcases List.mem_cons.mp h with rfl | h
    · exact h2
    · exact h3 y h
theorem maxI_mem {xs : List Int} (h : xs ≠ []) : maxI xs ∈ xs := by
  cases xs with
  | nil => exact absurd rfl h
  | cons x xs =>
    rcases (foldl_max_spec xs x).1 with e | e
    · show xs.foldl max x ∈ _; rw [e]; exact List.mem_cons_self
    · exact List.mem_cons_of_mem _ e
theorem le_maxI {xs : List Int} {y : Int} (h : y ∈ xs) : y ≤ maxI xs := by
  cases xs with
  | nil => cases h
  | cons x xs =>
    obtain ⟨_, h2, h3⟩ := foldl_max_spec xs x
    rcases List.mem_cons.mp h with rfl | h
    · exact h2
    · exact h3 y h
theorem v_minL : OpL K (rMin K) (ac (cL cI) an) cI (fun q => q.1 ≠ []) (fun q => minI q.1) := fun A H q vs Q _ z hc k => by
  obtain ⟨v, rfl, z1⟩ := fzl1 (ds := []) z
  obtain ⟨a, ws, rfl, n, l⟩ := z1.lst_inv
  cases fzl_ints l
  refine ⟨a, q.1, rfl, n.sq, List.length_pos_iff.mpr hc, fun m h1 h2 => k _ H (Fr.refl _ _) ?_⟩
  have e : m = minI q.1 := Int.le_antisymm (h2 _ (minI_mem hc)) (minI_le h1)
  rw [e]
  exact .int _
theorem v_maxL : OpL K (rMax K) (ac (cL cI) an) cI (fun q => q.1 ≠ []) (fun q => maxI q.1) := fun A H q vs Q _ z hc k => by
  obtain ⟨v, rfl, z1⟩ := fzl1 (ds := []) z
  obtain ⟨a, ws, rfl, n, l⟩ := z1.lst_inv
  cases fzl_ints l
  refine ⟨a, q.1, rfl, n.sq, List.length_pos_iff.mpr hc, fun m h1 h2 => k _ H (Fr.refl _ _) ?_⟩
  have e : m = maxI q.1 := Int.le_antisymm (le_maxI h1) (h2 _ (maxI_mem hc))
  rw [e]
  exact .int _
theorem v_sumL : OpL K (rSum K) (ac (cL cI) an) cI (fun _ => True) (fun q => q.1.sum) := fun A H q vs Q _ z hc k => by
  obtain ⟨v, rfl, z1⟩ := fzl1 (ds := []) z
  obtain ⟨a, ws, rfl, n, l⟩ := z1.lst_inv
  cases fzl_ints l
  exact ⟨a, q.1, rfl, n.sq, k _ H (Fr.refl _ _) (.int _)⟩
theorem v_allL : OpL K (rAll K) (ac (cL cB) an) cB (fun _ => True) (fun q => q.1.all id) := fun A H q vs Q _ z hc k => by
  obtain ⟨v, rfl, z1⟩ := fzl1 (ds := []) z
  obtain ⟨a, ws, rfl, n, l⟩ := z1.lst_inv
  cases fzl_bls l
  exact ⟨a, q.1, rfl, n.sq, k _ H (Fr.refl _ _) (.bl _)⟩
theorem v_anyL : OpL K (rAny K) (ac (cL cB) an) cB (fun _ => True) (fun q => q.1.any id) := fun A H q vs Q _ z hc k => by
  obtain ⟨v, rfl, z1⟩ := fzl1 (ds := []) z
  obtain ⟨a, ws, rfl, n, l⟩ := z1.lst_inv
  cases fzl_bls l
  exact ⟨a, q.1, rfl, n.sq, k _ H (Fr.refl _ _) (.bl _)⟩
/-- tuple(..), list(..) -/
def rTupleOf (K : Frag) : List V → Hp → VK → Prop := fun xs H Q => ∃ p ys, xs = [.ref p] ∧ ((SqL K H p ys ∧ ∀ l, H l = none → Q (.ref l) (upd H l (.tup ys))) ∨ (SqT K H p ys ∧ Q (.ref p) H))
def rListOf (K : Frag) : List V → Hp → VK → Prop := fun xs H Q => ∃ p ys, xs = [.ref p] ∧ (SqL K H p ys ∨ SqT K H p ys) ∧ ∀ l, H l = none → Q (.ref l) (upd H l (.lst ys))
theorem v_tuple {c : List α → D} {ce : α → D} (hc : IsSq c ce) : OpL K (rTupleOf K) (ac c an) (cT ce) (fun _ => True) (fun q => q.1) := fun A H q vs Q t z _ k => by
  obtain ⟨v, rfl, z1⟩ := fzl1 (ds := []) z
  rcases hc with h | h
  · have z2 : Fz K A H v (.list (q.1.map ce)) := by rw [← h]; exact z1
    obtain ⟨a, ws, rfl, n, l⟩ := z2.lst_inv
    exact ⟨a, ws, rfl, .inl ⟨n.sq, fun p hp => k _ _ (Fr.new hp) (.tup (.inl ⟨t.new hp, upd_same, n.2⟩) (l.fr (Fr.new hp)))⟩⟩
  · have z2 : Fz K A H v (.tuple (q.1.map ce)) := by rw [← h]; exact z1
    obtain ⟨a, ws, rfl, n, l⟩ := z2.tup_inv
    exact ⟨a, ws, rfl, .inr ⟨n.sq, k _ H (Fr.refl _ _) (.tup n l)⟩⟩
theorem v_list {c : List α → D} {ce : α → D} (hc : IsSq c ce) : OpL K (rListOf K) (ac c an) (cL ce) (fun _ => True) (fun q => q.1) := fun A H q vs Q t z _ k => by
  obtain ⟨v, rfl, z1⟩ := fzl1 (ds := []) z
  obtain ⟨a, ws, rfl, hs, l, e, sz⟩ := hc.inv z1
  exact ⟨a, ws, rfl, hs, fun p hp => k _ _ (Fr.new hp) (.lst ⟨⟨t.new hp, upd_same⟩, sz⟩ (l.fr (Fr.new hp)))⟩

/-! ### an item by its place -/
def ixD [Inhabited α] (xs : List α) (i : Int) : α := (atI xs i).getD default
theorem atI_map {f : α → β} {xs : List α} {i : Int} : atI (xs.map f) i = (atI xs i).map f := by
  unfold atI
  rw [List.length_map]
  cases ixN xs.length i with
  | none => rfl
  | some j => simp
theorem FzL.atI {vs : List V} {ds : List D} {i : Int} {d : D} (h : FzL K A H vs ds) (e : L2.atI ds i = some d) : ∃ v, L2.atI vs i = some v ∧ Fz K A H v d := by
  unfold L2.atI at e ⊢
  rw [← h.length] at e
  cases q : ixN vs.length i with
  | none => rw [q] at e; simp at e
  | some j =>
    rw [q] at e
    obtain ⟨v, e1, z⟩ := h.get' (i := j) (d := d) (by simpa using e)
    exact ⟨v, by simpa using e1, z⟩
def CIx {α : Type} (xs : List α) (i : Int) : Prop := -(xs.length : Int) ≤ i ∧ i < xs.length
theorem CIx.at [Inhabited α] {xs : List α} {i : Int} (h : CIx xs i) : atI xs i = some (ixD xs i) := by
  obtain ⟨h1, h2⟩ := h
  unfold ixD atI ixN
  by_cases h0 : 0 ≤ i
  · rw [if_pos h0, if_pos h2]
    have : i.toNat < xs.length := by omega
    simp [this]
  · rw [if_neg h0, if_pos h1]
    have : (i + xs.length).toNat < xs.length := by omega
    simp [this]
theorem v_ixL [Inhabited α] {ce : α → D} : Op2 K (rIxL K) (cL ce) cI ce CIx ixD := fun A H x y v w Q t z1 z2 hc k => by
  obtain ⟨a, vs, rfl, n, l⟩ := z1.lst_inv
  cases z2.int_inv
  obtain ⟨u, e, z⟩ := l.atI (i := y) (d := ce (ixD x y)) (by rw [atI_map, hc.at]; rfl)
  exact ⟨a, vs, y, u, rfl, rfl, n.sq, e, k _ H (Fr.refl _ _) z⟩
theorem v_ixT [Inhabited α] {ce : α → D} : Op2 K (rIxT K) (cT ce) cI ce CIx ixD := fun A H x y v w Q t z1 z2 hc k => by
  obtain ⟨a, vs, rfl, n, l⟩ := z1.tup_inv
  cases z2.int_inv
  obtain ⟨u, e, z⟩ := l.atI (i := y) (d := ce (ixD x y)) (by rw [atI_map, hc.at]; rfl)
  exact ⟨a, vs, y, u, rfl, rfl, n.sq, e, k _ H (Fr.refl _ _) z⟩
/-- a sign of a text -/
def ixS (x : Str) (i : Int) : Str := ⟨#[ixD x.cps.toList i]⟩
theorem v_ixS : Op2 K rIxS cS cI cS (fun x i => x.length ≤ 16777216 ∧ CIx x.cps.toList i) ixS := fun A H x y v w Q t z1 z2 hc k => by
  cases z1.str_inv
  cases z2.int_inv
  exact ⟨x, y, _, rfl, rfl, by rw [sizeLine_eq]; exact hc.1, hc.2.at, k _ H (Fr.refl _ _) (.str _)⟩
end
/-- the n-th part of a tuple of a known form -/
def rPrj (K : Frag) (n : Int) : R2 := fun x y H Q => y = .int n ∧ ∃ p xs v, x = .ref p ∧ SqT K H p xs ∧ atI xs n = some v ∧ Q v H
section
variable {X : Cx} {B : Bd} {ow : List Nat} {E α β γ : Type} {Γ : E → List (Option D)} {p s : Bool} {e : Expr} {pos : Pos} {G : E → Prop} {d : E → α} {u : E → E}
theorem d_prj {b : Expr} (n : Int) {c : α → D} {cb : β → D} (g : α → β) (hc : ∀ x, ∃ ds, c x = .tuple ds ∧ atI ds n = some (cb (g x))) (h : De X B ow Γ p s e c G d u)
    (hb : De X B ow Γ true true b cI (fun _ => True) (fun _ => n) (fun ε => ε)) (hx : PlainIx b := by exact fun _ _ => rfl) : De X B ow Γ p s (.Subscript e b pos) cb G (fun ε => g (d ε)) u :=
  ⟨(pe_ix (pos := pos) ix_tup h.pe hb.pe hx).weaken fun σ H Q ⟨H0, ε, rl, g1, k⟩ => ⟨H0, ε, rl, g1, fun v H1 f1 r1 z1 => ⟨H0, u ε, r1, trivial, fun w H2 f2 r2 z2 => by
    obtain ⟨ds, e1, e2⟩ := hc (d ε)
    rw [e1] at z1
    obtain ⟨a, vs, rfl, nd, l⟩ := z1.tup_inv
    cases z2.int_inv
    obtain ⟨v', e3, z⟩ := l.atI e2
    have f2' : Fr [] H1 H2 := f2
    exact ⟨a, vs, n, v', rfl, rfl, (nd.fr f2'.nil).sq, e3, k _ H2 (f1.trans f2'.nil) r2 (z.fr f2'.nil)⟩⟩⟩⟩
theorem d_neg1 {n : Int} {j p1 p2} : De X B ow Γ true true (.UnaryOp .USub (.Constant (.int n) j p1) p2) cI (fun _ => True) (fun _ => -n) (fun ε => ε) := (d_un un_neg v_neg d_int).is (fun _ _ => ⟨trivial, trivial⟩) fun _ _ => rfl
end
end Y
namespace Y
open PySem PySem.Spec PyProof.Rows L2

/-! ### defs, called where nothing is being shown (no repr runs) -/
structure FnG (P : Program) (w : World) (K : Frag) (mg : Str → Option Value) (base : Heap) (k : Nat) (f : Addr) (fd : FuncData) (ps : List Str) (sp : Sp) : Prop where
  len : ∀ vs H Q E, sp vs H Q E → vs.length = ps.length
  run : ∀ (A : Around) (outer : List Env) (s : Shared) (H : Hp) (args : Args) (us : List Value) (vs : List V) (Q : VK) (E : XK), Room k A → A.guards = some [] → Env0 P w K mg base A outer s H →
    BindsTo s fd args (ps.zip us) → Vals vs us → sp vs H Q E → codeAny (model P w) A (.call (.ref f) args) (CR CX0 outer P w H s Q E) s
theorem FnG.mono {P : Program} {w : World} {K : Frag} {mg : Str → Option Value} {base : Heap} {j k : Nat} {f : Addr} {fd : FuncData} {ps : List Str} {sp : Sp} (F : FnG P w K mg base j f fd ps sp) (h : j ≤ k) : FnG P w K mg base k f fd ps sp :=
  ⟨F.len, fun A outer s H args us vs Q E hr => F.run A outer s H args us vs Q E (hr.mono h)⟩
theorem FnG.imp {P : Program} {w : World} {K : Frag} {mg : Str → Option Value} {base : Heap} {k : Nat} {f : Addr} {fd : FuncData} {ps : List Str} {sp sp' : Sp} (F : FnG P w K mg base k f fd ps sp) (h : ∀ vs H Q E, sp' vs H Q E → sp vs H Q E) :
    FnG P w K mg base k f fd ps sp' :=
  ⟨fun vs H Q E q => F.len vs H Q E (h vs H Q E q), fun A outer s H args us vs Q E hr hg he hb hv q => F.run A outer s H args us vs Q E hr hg he hb hv (h vs H Q E q)⟩

section
variable {P : Program} {w : World} {K : Frag} {mg : Str → Option Value} {base : Heap} {k : Nat} {f : Addr} {fd : FuncData} {x qual : Str} {st : Stmt} {N ps : List Str} {sp : Sp}
/-- a def by its body -/
theorem fnG (F : Fun K x qual st f fd) (S : FnScope N ps (defScope st)) (len : ∀ vs H Q E, sp vs H Q E → vs.length = ps.length)
    (hbody : ∀ (cdv : Value) (A : Around) (outer : List Env) (s : Shared) (H : Hp) (vs : List V) (Q : VK) (E : XK), Room k (A.deeper (envOfC qual (defScope st) s.heap.objs.size f cdv)) → A.guards = some [] → sp vs H Q E →
      ∃ t, PSs (cxOf CX0 P w K mg base N qual (defScope st) f cdv A outer s H E).nox (defBody st) t ∧ t { nx := fun _ H' => Q .non H', rt := Q } (start N vs) H) : FnG P w K mg base (k + 1) f fd ps sp := by
  obtain ⟨oc, od, kV, doc, pm, an, cdv, ct, osl, rfl, lk, hcd⟩ := F.ex
  constructor
  · exact len
  intro A outer s H args us vs Q E hr hg e0 hb r hsp
  have hl := len _ _ _ _ hsp
  have KX : K.In s.heap := e0.mod.kin.keeps fun b o e => (e0.bs b o e).1
  have lim : s.heap.NoLimit := e0.mod.nolimit.keeps fun b o e => (e0.bs b o e).1
  have hkd : ∀ y ∈ ps.zip us, (defScope st).names.lookup y.1 = some .local ∨ ((defScope st).names.lookup y.1 = some .cell ∧ ((cellsFrom (s.heap.objs.size + 1) (defScope st).names []).lookup y.1).isSome = true) := by
    rintro ⟨n, v⟩ hy
    rcases S.par n (List.of_mem_zip hy).1 with q | q
    · exact .inl q
    · exact .inr ⟨q, PySem.W.cellsFrom_some _ _ _ (.inl q)⟩
  refine codeAny_call_function hr.depth (KX _ _ lk) rfl S.co S.gen rfl (PySem.W.codeRec_of KX hcd) (hb _ _ _ _ ?_)
  refine wpAny_newFunctionEnv_cells S.kind hkd fun env he s1 y => ?_
  subst he
  refine ⟨lim.keeps y.toInCall.keep, codeAny_func ?_⟩
  obtain ⟨t, ht0, hq⟩ := hbody cdv A outer s H vs Q E (hr.deeper _) hg hsp
  have ht := ht0.nox
  have I := inv_start (CX := CX0) (mg := mg) (base := base) (E := E) S hr.hd e0 hl r y
  refine wpAny_mono (ht.run [] s1 (start N vs) H _ I hq) (fun fl s' hs => ?_) fun e s' hs => hs
  cases fl with
  | ret u =>
    obtain ⟨v, σ', H', J, rv, q⟩ := hs
    exact ⟨v, H', J.os, J.bare, J.base, J.hok, rv, q⟩
  | next =>
    obtain ⟨σ', H', J, q⟩ := hs
    exact ⟨V.non, H', J.os, J.bare, J.base, J.hok, rfl, q⟩
  | brk => obtain ⟨_, _, _, q⟩ := hs; exact False.elim q
  | cont => obtain ⟨_, _, _, q⟩ := hs; exact False.elim q
end
section
variable {X : Cx} {k : Nat} {f : Addr} {fd : FuncData} {ps : List Str} {sp : Sp} {x : Str} {p pos : Pos} {e : Expr} {es : List Expr} {t : TA}
theorem runG {pins : List (Addr × Obj)} {σ : L2.St} {H : Hp} {s : Shared} {Q : VK} {us : List Value} {vs : List V} (F : FnG X.prog X.w X.K X.mg X.base k f fd ps sp) (hr : Room k X.A) (hgd : X.A.guards = some []) (hb : Binds X.K fd ps [])
    (I : Inv X pins σ H s) (r : Vals vs us) (h : sp vs H Q E0) : wpAny (model X.prog X.w) X.A (call (.ref f) us) (EP X pins σ Q) X.xe s := by
  have hl : us.length = ps.length := by rw [← r.length]; exact F.len _ _ _ _ h
  have hb' := hb s us I.kIn (by simpa using hl)
  rw [List.append_nil] at hb'
  refine wpAny_call (codeAny_mono (F.run X.A X.stack s H ⟨us, []⟩ us vs Q E0 hr hgd I.env0 hb' r h) fun r s' hq => ?_)
  cases r with
  | error e => exact (show False from hq).elim
  | ok fl =>
    cases fl with
    | ret u => exact I.after hq
    | next => exact False.elim hq
    | brk => exact False.elim hq
    | cont => exact False.elim hq
def tCallG (sp : Sp) (t : TA) : TE := fun σ H Q => t σ H fun vs H1 => sp vs H1 Q E0
theorem pe_callG (F : FnG X.prog X.w X.K X.mg X.base k f fd ps sp) (hr : Room k X.A) (hgd : X.A.guards = some []) (hm : X.mg x = some (.ref f)) (hk : PySem.W.keepIn X.K (.ref f) = true) (hb : Binds X.K fd ps []) (ha : PA X (e :: es) t)
    (hg : Gl X x := by rfl) (hdb : (x == ("__debug__" : Str)) = false := by decide) (he : starEach (e :: es) X.env = (false, eval e X.env) :: starEach es X.env := by rfl) (hpl : (backTo pos (starEach es X.env)).any (·.1) = false := by rfl) :
    PE X (.Call (.Name x p) (e :: es) [] pos) (tCallG sp t) := by
  constructor
  intro pins s σ H Q I h
  refine wpAny_Call_Name_kw (ld_glob I hg hm ?_ hdb)
  refine PySem.W.callWith_K (h₀ := X.base) I.ok.mod.kin hk (thn (ha.run pos pins s σ H _ I h) fun us s1 ⟨vs, H1, I1, r, q⟩ => ⟨I1.kIn, ?_⟩) he hpl
  exact runG F hr hgd hb I1 r q
end
end Y
namespace Y
open PySem PySem.Spec L2

/-! ### promises -/
section
variable {α β τ : Type}
def spP (K : Frag) (cs : α → List D) (c : β → D) (G : α → Prop) (f : α → β) : Sp := fun vs H Q _ => ∃ (A : List Addr) (a : α), Tr A H ∧ FzL K A H vs (cs a) ∧ G a ∧ ∀ v H', Fr [] H H' → Fz K A H' v (c (f a)) → Q v H'
/-- the first argument a list that may be changed -/
def spS (K : Frag) (cs : α → List D) (ci : τ → List D) (c : β → D) (G : α × τ → Prop) (f : α × τ → β × τ) : Sp := fun vs H Q _ => ∃ (A : List Addr) (p : Addr) (us ws : List V) (a : α) (t : τ), Tr A H ∧ p ∉ A ∧ vs = .ref p :: ws ∧ (H p = some (.lst us) ∧ us.length ≤ szN) ∧
  FzL K (A ++ [p]) H us (ci t) ∧ FzL K (A ++ [p]) H ws (cs a) ∧ G (a, t) ∧ ∀ v H' us', Fr [p] H H' → H' p = some (.lst us') → us'.length ≤ szN → FzL K (A ++ [p]) H' us' (ci (f (a, t)).2) → Fz K (A ++ [p]) H' v (c (f (a, t)).1) → Q v H'
end

/-! ### slots set -/
section
variable {K : Frag} {B : Bd} {H0 H H' : Hp} {ow : List Nat} {σ : L2.St} {γ : List (Option D)}
theorem oa_set {i : Nat} {x : Option V} (h : i ∉ ow) : oa (σ.set i x) ow = oa σ ow := by
  unfold oa
  induction ow with
  | nil => rfl
  | cons j l ih =>
    have hj : i ≠ j := fun e => h (by rw [e]; exact List.mem_cons_self)
    rw [List.filterMap_cons, List.filterMap_cons, List.getElem?_set_ne hj, ih fun z => h (List.mem_cons_of_mem _ z)]
theorem set_inv {α : Type} {l : List (Option α)} {i j : Nat} {x y : Option α} (h : (l.set i x)[j]? = some y) : (i = j ∧ x = y ∧ i < l.length) ∨ (i ≠ j ∧ l[j]? = some y) := by
  by_cases e : i = j
  · subst e
    have hl : i < l.length := by
      have := (List.getElem?_eq_some_iff.mp h).1
      simpa using this
    rw [List.getElem?_set_self hl] at h
    exact .inl ⟨rfl, by injection h, hl⟩
  · rw [List.getElem?_set_ne e] at h
    exact .inr ⟨e, h⟩
/-- a frozen value into a slot -/
theorem Rel.set {i : Nat} {v : V} {d : D} (r : Rel K B H0 ow σ H γ) (hi : i ∉ ow) (z : Fz K (B.full σ ow) H v d) : Rel K B H0 ow (σ.set i (some v)) H (γ.set i (some d)) := by
  have eo : oa (σ.set i (some v)) ow = oa σ ow := oa_set hi
  have ef : B.full (σ.set i (some v)) ow = B.full σ ow := by unfold Bd.full; rw [eo]
  have nj : ∀ {j : Nat}, j ∈ ow → i ≠ j := fun hj e => hi (e ▸ hj)
  refine ⟨by simpa using r.len, fun j k a hj hk e1 e2 => ?_, fun j d' hj e => ?_, fun j d' hj e => ?_, by rw [eo]; exact r.trk, r.fr, by rw [eo]; exact r.new, r.a0, by rw [eo]; exact r.xt, fun p hp => ?_⟩
  · rw [List.getElem?_set_ne (nj hj)] at e1
    rw [List.getElem?_set_ne (nj hk)] at e2
    exact r.one j k a hj hk e1 e2
  · rw [ef]
    rcases set_inv e with ⟨rfl, e', hl⟩ | ⟨ne, e'⟩
    · have hl' : i < σ.length := by rw [r.len]; exact hl
      injection e' with e'
      subst e'
      exact ⟨v, by rw [List.getElem?_set_self hl'], z⟩
    · obtain ⟨w, h1, h2⟩ := r.fz j d' hj e'
      exact ⟨w, by rw [List.getElem?_set_ne ne]; exact h1, h2⟩
  · rw [ef]
    rw [List.getElem?_set_ne (nj hj)] at e
    obtain ⟨a, vs, ds, h1, h2⟩ := r.own j d' hj e
    exact ⟨a, vs, ds, by rw [List.getElem?_set_ne (nj hj)]; exact h1, h2⟩
  · obtain ⟨h1, h2⟩ := r.io p hp
    exact ⟨h1, by rw [List.getElem?_set_ne (nj h1)]; exact h2⟩
theorem mem_full {a : Addr} : a ∈ B.full σ ow ↔ a ∈ B.base ∨ a ∈ oa σ ow := List.mem_append
/-- fewer slots are one's own: those left out are forgotten, or frozen -/
theorem Rel.drop {ow' : List Nat} {γ' : List (Option D)} (r : Rel K B H0 ow σ H γ) (hs : ∀ i ∈ ow', i ∈ ow) (hio : B.io ≠ none → 0 ∈ ow') (w : Wk γ' γ) (hd : ∀ i ∈ ow, i ∉ ow' → γ'[i]? = some none) : Rel K B H0 ow' σ H γ' := by
  have so : ∀ a ∈ oa σ ow', a ∈ oa σ ow := fun a h => by
    obtain ⟨i, h1, h2⟩ := mem_oa.mp h
    exact mem_oa.mpr ⟨i, hs i h1, h2⟩
  have sf : ∀ a ∈ B.full σ ow', a ∈ B.full σ ow := fun a h => mem_full.mpr ((mem_full.mp h).imp id (so a))
  have r := r.wk w
  refine ⟨r.len, fun i j a hi hj => r.one i j a (hs i hi) (hs j hj), fun i d hi e => ?_, fun i d hi e => ?_, fun a h => r.trk a (so a h), r.fr, fun a h => r.new a (so a h), r.a0, fun a h => ⟨(r.xt a h).1, fun z => (r.xt a h).2 (so a z)⟩, fun p hp => ⟨hio (by rw [hp]; simp), (r.io p hp).2⟩⟩
  · by_cases hi' : i ∈ ow
    · rw [hd i hi' hi] at e; cases e
    · obtain ⟨v, e1, z⟩ := r.fz i d hi' e
      exact ⟨v, e1, z.sub sf⟩
  · obtain ⟨a, vs, ds, e1, e2, e3, e4⟩ := r.own i d (hs i hi) e
    exact ⟨a, vs, ds, e1, e2, e3, e4.sub sf⟩
/-- a list of one's own is changed no more -/
theorem Rel.freeze {ow' : List Nat} (r : Rel K B H0 ow σ H γ) (hs : ∀ i ∈ ow', i ∈ ow) (hio : B.io ≠ none → 0 ∈ ow') : Rel K B H0 ow' σ H γ := by
  have so : ∀ a ∈ oa σ ow', a ∈ oa σ ow := fun a h => by
    obtain ⟨i, h1, h2⟩ := mem_oa.mp h
    exact mem_oa.mpr ⟨i, hs i h1, h2⟩
  have sf : ∀ a ∈ B.full σ ow', a ∈ B.full σ ow := fun a h => mem_full.mpr ((mem_full.mp h).imp id (so a))
  refine ⟨r.len, fun i j a hi hj => r.one i j a (hs i hi) (hs j hj), fun i d hi e => ?_, fun i d hi e => ?_, fun a h => r.trk a (so a h), r.fr, fun a h => r.new a (so a h), r.a0, fun a h => ⟨(r.xt a h).1, fun z => (r.xt a h).2 (so a z)⟩, fun p hp => ⟨hio (by rw [hp]; simp), (r.io p hp).2⟩⟩
  · by_cases hi' : i ∈ ow
    · obtain ⟨a, vs, ds, e1, e2, e3, e4⟩ := r.own i d hi' e
      rw [e2]
      refine ⟨_, e1, .lst ⟨⟨fun q => ?_, e3.1⟩, e3.2⟩ (e4.sub sf)⟩
      have ha : a ∈ oa σ ow := mem_oa.mpr ⟨i, hi', e1⟩
      rcases mem_full.mp q with q | q
      · exact r.apart a ha q
      · obtain ⟨j, hj, ej⟩ := mem_oa.mp q
        exact hi (r.one i j a hi' (hs j hj) e1 ej ▸ hj)
    · obtain ⟨v, e1, z⟩ := r.fz i d hi' e
      exact ⟨v, e1, z.sub sf⟩
  · obtain ⟨a, vs, ds, e1, e2, e3, e4⟩ := r.own i d (hs i hi) e
    exact ⟨a, vs, ds, e1, e2, e3, e4.sub sf⟩
/-- a new list, known to nobody, into a slot of one's own -/
theorem Rel.setOwn {i : Nat} {q : Addr} {vs : List V} {ds : List D} {ow' : List Nat} (r : Rel K (B.plus q) H0 ow σ H γ) (hq : H q = some (.lst vs)) (hz : vs.length ≤ szN) (hn : H0 q = none) (hb : q ∉ B.base) (z : FzL K ((B.plus q).full σ ow) H vs ds)
    (hi : i < γ.length) (h' : ∀ j, j ∈ ow' ↔ j ∈ ow ∨ j = i) (h0 : B.io ≠ none → i ≠ 0) : Rel K B H0 ow' (σ.set i (some (.ref q))) H (γ.set i (some (.list ds))) := by
  have hl : i < σ.length := by rw [r.len]; exact hi
  have nq : ∀ a ∈ oa σ ow, a ≠ q := fun a h e => (r.xt q (by simp [Bd.plus])).2 (e ▸ h)
  have so : ∀ a ∈ oa (σ.set i (some (.ref q))) ow', a = q ∨ a ∈ oa σ ow := fun a h => by
    obtain ⟨j, h1, h2⟩ := mem_oa.mp h
    rcases set_inv h2 with ⟨rfl, e, _⟩ | ⟨ne, e⟩
    · left; injection e with e; injection e with e; exact e.symm
    · right
      rcases (h' j).mp h1 with h | h
      · exact mem_oa.mpr ⟨j, h, e⟩
      · exact absurd h.symm ne
  have sf : ∀ a ∈ B.full (σ.set i (some (.ref q))) ow', a ∈ (B.plus q).full σ ow := fun a h => by
    simp only [Bd.full, Bd.base, Bd.plus, List.mem_append, List.mem_cons] at h ⊢
    rcases h with (h | h) | h
    · exact .inl (.inl h)
    · exact .inl (.inr (.inr h))
    · rcases so a h with h | h
      · exact .inl (.inr (.inl h))
      · exact .inr h
  refine ⟨by simpa using r.len, fun j k a hj hk e1 e2 => ?_, fun j d' hj e => ?_, fun j d' hj e => ?_, fun a h => ?_, r.fr, fun a h => ?_, r.a0, fun a h => ?_, fun p hp => ?_⟩
  · rcases set_inv e1 with ⟨rfl, e3, _⟩ | ⟨ne, e3⟩
    · rcases set_inv e2 with ⟨rfl, _, _⟩ | ⟨ne2, e4⟩
      · rfl
      · injection e3 with e3; injection e3 with e3; subst e3
        rcases (h' k).mp hk with h | h
        · exact absurd rfl (nq _ (mem_oa.mpr ⟨k, h, e4⟩))
        · exact h.symm
    · rcases set_inv e2 with ⟨rfl, e4, _⟩ | ⟨ne2, e4⟩
      · injection e4 with e4; injection e4 with e4; subst e4
        rcases (h' j).mp hj with h | h
        · exact absurd rfl (nq _ (mem_oa.mpr ⟨j, h, e3⟩))
        · exact h
      · rcases (h' j).mp hj with h | h
        · rcases (h' k).mp hk with h2 | h2
          · exact r.one j k a h h2 e3 e4
          · exact absurd h2.symm ne2
        · exact absurd h.symm ne
  · have hj2 : j ∉ ow := fun z => hj ((h' j).mpr (.inl z))
    have hji : i ≠ j := fun z => hj ((h' j).mpr (.inr z.symm))
    rw [List.getElem?_set_ne hji] at e
    obtain ⟨w, h1, h2⟩ := r.fz j d' hj2 e
    exact ⟨w, by rw [List.getElem?_set_ne hji]; exact h1, h2.sub sf⟩
  · by_cases hji : i = j
    · subst hji
      rw [List.getElem?_set_self hi] at e
      injection e with e; injection e with e; subst e
      exact ⟨q, vs, ds, by rw [List.getElem?_set_self hl], rfl, ⟨hq, hz⟩, z.sub sf⟩
    · rw [List.getElem?_set_ne hji] at e
      rcases (h' j).mp hj with h | h
      · obtain ⟨a, vs', ds', e1, e2, e3, e4⟩ := r.own j d' h e
        exact ⟨a, vs', ds', by rw [List.getElem?_set_ne hji]; exact e1, e2, e3, e4.sub sf⟩
      · exact absurd h.symm hji
  · rcases so a h with rfl | h
    · exact ⟨vs, hq⟩
    · exact r.trk a h
  · rcases so a h with rfl | h
    · exact .inl hn
    · exact r.new a h
  · refine ⟨(r.xt a (List.mem_cons_of_mem _ h)).1, fun z2 => ?_⟩
    rcases so a z2 with rfl | z2
    · exact hb (List.mem_append_right _ h)
    · exact (r.xt a (List.mem_cons_of_mem _ h)).2 z2
  · obtain ⟨h1, h2⟩ := r.io p hp
    have hi0 : i ≠ 0 := h0 (by rw [hp]; simp)
    exact ⟨(h' 0).mpr (.inl h1), by rw [List.getElem?_set_ne hi0]; exact h2⟩
/-- a list of one's own is written -/
theorem Rel.write {i : Nat} {q : Addr} {vs : List V} {ds : List D} (r : Rel K B H0 ow σ H γ) (hi : i ∈ ow) (hq : σ[i]? = some (some (.ref q))) (hf : Fr [q] H H') (hv : H' q = some (.lst vs)) (hz : vs.length ≤ szN) (z : FzL K (B.full σ ow) H' vs ds) :
    Rel K B H0 ow σ H' (γ.set i (some (.list ds))) := by
  have qo : q ∈ oa σ ow := mem_oa.mpr ⟨i, hi, hq⟩
  have qf : q ∈ B.full σ ow := mem_full.mpr (.inr qo)
  have f' : Fr (B.full σ ow) H H' := hf.mono fun x hx => by rw [List.mem_singleton.mp hx]; exact qf
  have ne1 : ∀ {a : Addr}, a ≠ q → a ∉ [q] := fun h z => h (List.mem_singleton.mp z)
  refine ⟨by simpa using r.len, r.one, fun j d' hj e => ?_, fun j d' hj e => ?_, fun a h => ?_, fun b o e n => ?_, r.new, r.a0, fun a h => ?_, r.io⟩
  · have hji : i ≠ j := fun z => hj (z ▸ hi)
    rw [List.getElem?_set_ne hji] at e
    obtain ⟨w, h1, h2⟩ := r.fz j d' hj e
    exact ⟨w, h1, h2.fr f'⟩
  · by_cases hji : i = j
    · subst hji
      rcases set_inv e with ⟨_, e, _⟩ | ⟨ne, _⟩
      · injection e with e; subst e
        exact ⟨q, vs, ds, hq, rfl, ⟨hv, hz⟩, z⟩
      · exact absurd rfl ne
    · rw [List.getElem?_set_ne hji] at e
      obtain ⟨a, vs', ds', e1, e2, e3, e4⟩ := r.own j d' hj e
      have na : a ≠ q := fun e => hji (r.one i j q hi hj hq (e ▸ e1))
      exact ⟨a, vs', ds', e1, e2, ⟨hf _ _ e3.1 (ne1 na), e3.2⟩, e4.fr f'⟩
  · by_cases e : a = q
    · rw [e]; exact ⟨vs, hv⟩
    · obtain ⟨xs, e2⟩ := r.trk a h
      exact ⟨xs, hf _ _ e2 (ne1 e)⟩
  · have nb : b ≠ q := fun z2 => by
      subst z2
      rcases r.new b qo with h | h
      · rw [h] at e; cases e
      · exact n h
    exact hf b o (r.fr b o e n) (ne1 nb)
  · refine ⟨?_, (r.xt a h).2⟩
    have nb : a ≠ q := fun z2 => (r.xt a h).2 (z2 ▸ qo)
    have := (r.xt a h).1
    cases e : H a with
    | none => exact absurd e this
    | some o => rw [hf a o e (ne1 nb)]; simp
end

/-! ### calls -/
section
variable {X : Cx} {B : Bd} {ow : List Nat} {E α β τ : Type} {Γ : E → List (Option D)} {p s : Bool} {e : Expr} {es : List Expr} {pos px py : Pos} {G : E → Prop} {d : E → α} {u : E → E} {k : Nat} {f : Addr} {fd : FuncData} {ps : List Str} {x y : Str}
  {cs : α → List D} {c : β → D} {Gf : α → Prop} {fm : α → β}
theorem d_call (F : FnG X.prog X.w X.K X.mg X.base k f fd ps (spP X.K cs c Gf fm)) (hr : Room k X.A) (hgd : X.A.guards = some []) (hm : X.mg x = some (.ref f)) (hk : PySem.W.keepIn X.K (.ref f) = true) (hb : Binds X.K fd ps []) (h : DA X B ow Γ p s (e :: es) cs G d u)
    (hg : Gl X x := by rfl) (hdb : (x == ("__debug__" : Str)) = false := by decide) (he : starEach (e :: es) X.env = (false, eval e X.env) :: starEach es X.env := by rfl) (hpl : (backTo pos (starEach es X.env)).any (·.1) = false := by rfl) :
    De X B ow Γ p s (.Call (.Name x px) (e :: es) [] pos) c (fun ε => G ε ∧ Gf (d ε)) (fun ε => fm (d ε)) u :=
  ⟨(pe_callG F hr hgd hm hk hb h.pa hg hdb he hpl).weaken fun σ H Q ⟨H0, ε, rl, ⟨g1, g2⟩, kk⟩ => ⟨H0, ε, rl, g1, fun vs H1 f1 r1 z1 =>
    ⟨_, d ε, r1.tr s, z1, g2, fun v H' f' z' => kk v H' (f1.trans f'.nil) (r1.grow f') z'⟩⟩⟩
variable {ci : τ → List D} {GS : α × τ → Prop} {fS : α × τ → β × τ}
theorem d_callS (j : Nat) (gt : E → τ) (put : E → τ → E) (hget : ∀ ε, (Γ ε)[j]? = some (some (.list (ci (gt ε))))) (hput : ∀ ε t, Γ (put ε t) = (Γ ε).set j (some (.list (ci t)))) (F : FnG X.prog X.w X.K X.mg X.base k f fd ps (spS X.K cs ci c GS fS))
    (hr : Room k X.A) (hgd : X.A.guards = some []) (hm : X.mg x = some (.ref f)) (hk : PySem.W.keepIn X.K (.ref f) = true) (hb : Binds X.K fd ps []) (h : DA X B ow Γ p true es cs G d u) (hj : j ∈ ow := by decide) (hN : X.N[j]? = some y := by rfl)
    (hv : Vis X.env.scope y := by first | exact Or.inl rfl | exact Or.inr (Or.inl rfl) | exact Or.inr (Or.inr rfl)) (hd : (y == ("__debug__" : Str)) = false := by decide) (hcd : (y == ("__classdict__" : Str)) = false := by decide)
    (hst : starEach (.Name y py :: es) X.env = (false, eval (.Name y py) X.env) :: starEach es X.env := by rfl)
    (hg : Gl X x := by rfl) (hdb : (x == ("__debug__" : Str)) = false := by decide) (hpl : (backTo pos (starEach es X.env)).any (·.1) = false := by rfl) :
    De X B ow Γ false true (.Call (.Name x px) (.Name y py :: es) [] pos) c (fun ε => G ε ∧ GS (d ε, gt (u ε))) (fun ε => (fS (d ε, gt (u ε))).1) (fun ε => put (u ε) (fS (d ε, gt (u ε))).2) :=
  ⟨(pe_callG F hr hgd hm hk hb (pa_cons (pe_var hN hv hd hcd) h.pa hst) hg hdb hst hpl).weaken fun σ H Q ⟨H0, ε, rl, ⟨g1, g2⟩, kk⟩ => by
    obtain ⟨a, vs, ds, e1, e2, e3, e4⟩ := rl.own j _ hj (hget ε)
    refine ⟨_, e1, H0, ε, rl, g1, fun ws H1 f1 r1 z1 => ?_⟩
    obtain ⟨a', us, ds', e1', e2', e3', e4'⟩ := r1.own j _ hj (hget (u ε))
    have ea : a' = a := by rw [e1] at e1'; injection e1' with q; injection q with q; injection q with q; exact q.symm
    subst ea
    injection e2' with e2'
    have ho : a' ∈ oa σ ow := mem_oa.mpr ⟨j, hj, e1⟩
    have s1 : ∀ b ∈ (B.full σ ow).filter (fun b => decide (b ≠ a')) ++ [a'], b ∈ B.full σ ow := fun b hb => by
      rcases List.mem_append.mp hb with h | h
      · exact (List.mem_filter.mp h).1
      · rw [List.mem_singleton.mp h]; exact mem_full.mpr (.inr ho)
    have s2 : ∀ b ∈ B.full σ ow, b ∈ (B.full σ ow).filter (fun b => decide (b ≠ a')) ++ [a'] := fun b hb => by
      by_cases q : b = a'
      · subst q; exact List.mem_append_right _ (List.mem_singleton.mpr rfl)
      · exact List.mem_append_left _ (List.mem_filter.mpr ⟨hb, decide_eq_true q⟩)
    refine ⟨(B.full σ ow).filter (fun b => decide (b ≠ a')), a', us, ws, d ε, gt (u ε), fun b hb => r1.tracked b (List.mem_filter.mp hb).1, fun q => by simpa using (List.mem_filter.mp q).2, rfl, e3', ?_, FzL.sub s1 z1, g2, fun v H' us' f' h' hz z2 z3 => ?_⟩
    · rw [e2']; exact e4'.sub s1
    · refine kk v H' (Fr.trans (A := oa σ ow) ?_ (f'.mono fun b hb => by rw [List.mem_singleton.mp hb]; exact ho)) ?_ (z3.sub s2)
      · cases p with
        | true => exact Fr.nil f1
        | false => exact f1
      · rw [hput]
        exact r1.write hj e1 f' h' hz (z2.sub s2)⟩
end
end Y
namespace Y
open PySem PySem.Spec L2

/-! ### a new list -/
section
variable {E α β : Type}
def tFs (K : Frag) (B : Bd) (ow : List Nat) (Γ : E → List (Option D)) (p : Bool) (c : α → D) (G : E → Prop) (d : E → List α) (u : E → E) : TE := fun σ H Q =>
  ∃ H0 ε, Rel K B H0 ow σ H (Γ ε) ∧ G ε ∧ ∀ q H' vs, H q = none → Fr (cond p [] (oa σ ow)) H H' → Rel K (B.plus q) H0 ow σ H' (Γ (u ε)) → H' q = some (.lst vs) → vs.length ≤ szN → FzL K ((B.plus q).full σ ow) H' vs ((d ε).map c) → Q (.ref q) H'
structure DL (X : Cx) (B : Bd) (ow : List Nat) (Γ : E → List (Option D)) (p : Bool) (e : Expr) (c : α → D) (G : E → Prop) (d : E → List α) (u : E → E) : Prop where
  pe : PE X e (tFs X.K B ow Γ p c G d u)
end
theorem Rel.h0 {K : Frag} {B : Bd} {H0 H : Hp} {ow : List Nat} {σ : L2.St} {γ : List (Option D)} (r : Rel K B H0 ow σ H γ) {q : Addr} (h : H q = none) : H0 q = none ∨ q ∈ B.io.toList := by
  by_cases hq : q ∈ B.io.toList
  · exact .inr hq
  · left
    cases e : H0 q with
    | none => rfl
    | some o => rw [r.fr q o e hq] at h; cases h
theorem Rel.notio {K : Frag} {B : Bd} {H0 H : Hp} {ow : List Nat} {σ : L2.St} {γ : List (Option D)} (r : Rel K B H0 ow σ H γ) {q : Addr} (h : H q = none) : q ∉ B.io.toList := fun hq => by
  cases hb : B.io with
  | none => rw [hb] at hq; simp at hq
  | some p =>
    rw [hb] at hq
    have e : q = p := by simpa using hq
    obtain ⟨h1, h2⟩ := r.io p hb
    obtain ⟨xs, e2⟩ := r.trk p (mem_oa.mpr ⟨0, h1, h2⟩)
    rw [e, e2] at h; cases h
section
variable {X : Cx} {B : Bd} {ow : List Nat} {E α β γ : Type} {Γ : E → List (Option D)} {p s : Bool} {e : Expr} {es : List Expr} {pos : Pos} {c : α → D} {G : E → Prop} {d : E → List α} {u : E → E}
theorem DL.de (h : DL X B ow Γ p e c G d u) : De X B ow Γ p true e (cL c) G d u := ⟨h.pe.weaken fun σ H Q ⟨H0, ε, rl, g, k⟩ => ⟨H0, ε, rl, g, fun q H' vs hq f r hv hz z => k _ H' f r.unplus (by
  refine .lst ⟨⟨fun h => ?_, hv⟩, hz⟩ (z.sub full_plus)
  rcases mem_full.mp h with h | h
  · exact rl.base_trk q h hq
  · exact (r.xt q (by simp [Bd.plus])).2 h)⟩⟩
/-- forms that make a list of values -/
theorem DL.of {t : TE} {m : L2.St → Hp → (List V → Hp → Prop) → Prop} (ht : PE X e t) (h : ∀ σ H Q, m σ H (fun vs H1 => ∀ q, H1 q = none → Q (.ref q) (upd H1 q (.lst vs))) → t σ H Q)
    (hm : ∀ σ H (H0 : Hp) ε Q, Rel X.K B H0 ow σ H (Γ ε) → G ε → (∀ vs H1, Fr (cond p [] (oa σ ow)) H H1 → Rel X.K B H0 ow σ H1 (Γ (u ε)) → vs.length ≤ szN → FzL X.K (B.full σ ow) H1 vs ((d ε).map c) → Q vs H1) → m σ H Q)
    (hk : ∀ σ H H1, Fr (cond p [] (oa σ ow)) H H1 → ∀ q, H1 q = none → H q = none) : DL X B ow Γ p e c G d u :=
  ⟨ht.weaken fun σ H Q ⟨H0, ε, rl, g, k⟩ => h σ H Q (hm σ H H0 ε _ rl g fun vs H1 f1 r1 hz z1 q hq => k q _ vs (hk σ H H1 f1 q hq) (f1.trans (Fr.new hq)) (r1.plus hq) upd_same hz (by
    have z2 : FzL X.K (q :: B.full σ ow) H1 vs ((d ε).map c) := z1.more hq
    refine (z2.sub fun x hx => ?_).fr (Fr.new hq)
    simp only [Bd.full, Bd.base, Bd.plus, List.mem_append, List.mem_cons] at hx ⊢
    rcases hx with (h | h | h) | h
    · exact .inr (.inl (.inl h))
    · exact .inl h
    · exact .inr (.inl (.inr h))
    · exact .inr (.inr h)))⟩
theorem tracked_back {H H1 : Hp} {A : List Addr} (hA : ∀ a ∈ A, H1 a ≠ none) (f : Fr A H H1) {q : Addr} (hq : H1 q = none) : H q = none := by
  cases e : H q with
  | none => rfl
  | some o => rw [f q o e fun z => hA q z hq] at hq; cases hq
end

/-! ### statements -/
inductive Out (N R S : Type) where
  | nx (n : N) | rt (r : R) | bk (s : S) | ct (s : S)
@[reducible] def Out.bind {N M R S : Type} (o : Out N R S) (k : N → Out M R S) : Out M R S := match o with
  | .nx n => k n
  | .rt r => .rt r
  | .bk s => .bk s
  | .ct s => .ct s
def EX {R : Type} (K : Frag) (B : Bd) (cr : R → D) (ci : R → List D) (H0 : Hp) (r : R) (v : V) (H' : Hp) : Prop :=
  Fr B.io.toList H0 H' ∧ Fz K (B.base ++ B.io.toList) H' v (cr r) ∧ ∀ p, B.io = some p → ∃ us, (H' p = some (.lst us) ∧ us.length ≤ szN) ∧ FzL K (B.base ++ B.io.toList) H' us (ci r)
section
variable {E N R S : Type}
def tSS (K : Frag) (B : Bd) (ow : List Nat) (Γ : E → List (Option D)) (cr : R → D) (ci : R → List D) (owS : List Nat) (ΓS : S → List (Option D)) (G : E → Prop) (d : E → Out N R S) (ow' : List Nat) (Γ' : N → List (Option D)) : TS := fun Dn σ H =>
  ∃ H0 ε, Rel K B H0 ow σ H (Γ ε) ∧ G ε ∧ match d ε with
    | .nx n => ∀ σ' H', Rel K B H0 ow' σ' H' (Γ' n) → Dn.nx σ' H'
    | .rt r => ∀ v H', EX K B cr ci H0 r v H' → Dn.rt v H'
    | .bk s => ∀ σ' H', Rel K B H0 owS σ' H' (ΓS s) → Dn.bk σ' H'
    | .ct s => ∀ σ' H', Rel K B H0 owS σ' H' (ΓS s) → Dn.ct σ' H'
structure Ds (X : Cx) (B : Bd) (ow : List Nat) (Γ : E → List (Option D)) (cr : R → D) (ci : R → List D) (owS : List Nat) (ΓS : S → List (Option D)) (st : Stmt) (G : E → Prop) (d : E → Out N R S) (ow' : List Nat) (Γ' : N → List (Option D)) : Prop where
  ps : PS X st (tSS X.K B ow Γ cr ci owS ΓS G d ow' Γ')
structure Dss (X : Cx) (B : Bd) (ow : List Nat) (Γ : E → List (Option D)) (cr : R → D) (ci : R → List D) (owS : List Nat) (ΓS : S → List (Option D)) (sts : List Stmt) (G : E → Prop) (d : E → Out N R S) (ow' : List Nat) (Γ' : N → List (Option D)) : Prop where
  pss : PSs X sts (tSS X.K B ow Γ cr ci owS ΓS G d ow' Γ')
end
section
variable {X : Cx} {B : Bd} {ow ow1 ow2 ow' owS : List Nat} {E E2 N N1 R S α β τ : Type} {Γ : E → List (Option D)} {Γ1 : N1 → List (Option D)} {Γ' : N → List (Option D)} {ΓS : S → List (Option D)} {cr : R → D} {ci : R → List D}
  {st : Stmt} {sts : List Stmt} {G G1 : E → Prop} {G2 : N1 → Prop} {d : E → Out N R S} {d1 : E → Out N1 R S} {d2 : N1 → Out N R S} {pos px : Pos} {e : Expr} {p s : Bool} {u : E → E}
theorem s_nil : Dss X B ow Γ cr ci owS ΓS [] (fun _ => True) (fun ε => .nx ε) ow Γ := ⟨pss_nil.weaken fun Dn σ H ⟨H0, ε, rl, _, k⟩ => k σ H rl⟩
theorem s_one (h : Ds X B ow Γ cr ci owS ΓS st G d ow' Γ') : Dss X B ow Γ cr ci owS ΓS [st] G d ow' Γ' := ⟨pss_one h.ps⟩
/-- a statement that goes on, the rest -/
theorem s_cons {f : E → N1} (h1 : Ds X B ow Γ cr ci owS ΓS st G1 (fun ε => .nx (f ε)) ow1 Γ1) (h2 : Dss X B ow1 Γ1 cr ci owS ΓS sts G2 d2 ow' Γ') : Dss X B ow Γ cr ci owS ΓS (st :: sts) (fun ε => G1 ε ∧ G2 (f ε)) (fun ε => d2 (f ε)) ow' Γ' :=
  ⟨(pss_cons h1.ps h2.pss).weaken fun Dn σ H ⟨H0, ε, rl, ⟨g1, g2⟩, k⟩ => ⟨H0, ε, rl, g1, fun σ' H' r' => ⟨H0, f ε, r', g2, k⟩⟩⟩
/-- a statement that may leave, the rest -/
theorem s_consM (h1 : Ds X B ow Γ cr ci owS ΓS st G1 d1 ow1 Γ1) (h2 : Dss X B ow1 Γ1 cr ci owS ΓS sts G2 d2 ow' Γ') : Dss X B ow Γ cr ci owS ΓS (st :: sts) (fun ε => G1 ε ∧ ∀ n, d1 ε = .nx n → G2 n) (fun ε => (d1 ε).bind d2) ow' Γ' :=
  ⟨(pss_cons h1.ps h2.pss).weaken fun Dn σ H ⟨H0, ε, rl, ⟨g1, g2⟩, k⟩ => ⟨H0, ε, rl, g1, by
    cases h : d1 ε with
    | nx n => simp only [h, Out.bind] at k; exact fun σ' H' r' => ⟨H0, n, r', g2 n h, k⟩
    | rt r => simp only [h, Out.bind] at k; exact k
    | bk r => simp only [h, Out.bind] at k; exact k
    | ct r => simp only [h, Out.bind] at k; exact k⟩⟩
/-- the slots told otherwise ahead of it -/
theorem s_conv {Γ2 : E2 → List (Option D)} {G : E2 → Prop} {d : E2 → Out N R S} (f : E → E2) (hc : ∀ (H0 : Hp) ε σ H, Rel X.K B H0 ow σ H (Γ ε) → Rel X.K B H0 ow2 σ H (Γ2 (f ε))) (h : Dss X B ow2 Γ2 cr ci owS ΓS sts G d ow' Γ') :
    Dss X B ow Γ cr ci owS ΓS sts (fun ε => G (f ε)) (fun ε => d (f ε)) ow' Γ' :=
  ⟨h.pss.weaken fun Dn σ H ⟨H0, ε, rl, g, k⟩ => ⟨H0, f ε, hc H0 ε σ H rl, g, k⟩⟩
theorem Dss.is {d' : E → Out N R S} {G' : E → Prop} (h : Dss X B ow Γ cr ci owS ΓS sts G d ow' Γ') (hg : ∀ ε, G' ε → G ε) (hd : ∀ ε, G' ε → d ε = d' ε) : Dss X B ow Γ cr ci owS ΓS sts G' d' ow' Γ' :=
  ⟨h.pss.weaken fun Dn σ H ⟨H0, ε, rl, g, k⟩ => ⟨H0, ε, rl, hg ε g, by rw [hd ε g]; exact k⟩⟩
/-- what follows is told with fewer slots -/
theorem Dss.wk {f : E → N} {N2 : Type} {Γ2 : N2 → List (Option D)} (g : E → N2) (hc : ∀ (H0 : Hp) ε σ H, Rel X.K B H0 ow' σ H (Γ' (f ε)) → Rel X.K B H0 ow2 σ H (Γ2 (g ε))) (h : Dss X B ow Γ cr ci owS ΓS sts G (fun ε => .nx (f ε)) ow' Γ') : Dss X B ow Γ cr ci owS ΓS sts G (fun ε => .nx (g ε)) ow2 Γ2 :=
  ⟨h.pss.weaken fun Dn σ H ⟨H0, ε, rl, gg, k⟩ => ⟨H0, ε, rl, gg, fun σ' H' r' => k σ' H' (hc H0 ε σ' H' r')⟩⟩
/-- never reached -/
theorem s_no : Ds X B ow Γ cr ci owS ΓS st (fun _ => False) d ow' Γ' := ⟨ps_never.weaken fun Dn σ H ⟨_, _, _, g, _⟩ => g⟩
theorem ss_no : Dss X B ow Γ cr ci owS ΓS sts (fun _ => False) d ow' Γ' := ⟨pss_never.weaken fun Dn σ H ⟨_, _, _, g, _⟩ => g⟩
theorem s_pass : Ds X B ow Γ cr ci owS ΓS (.Pass pos) (fun _ => True) (fun ε => .nx ε) ow Γ := ⟨ps_pass.weaken fun Dn σ H ⟨H0, ε, rl, _, k⟩ => k σ H rl⟩

/-! stores -/
theorem s_asg {x : Str} {c : α → D} {dv : E → α} (i : Nat) (he : De X B ow Γ p true e c G dv u) (hio : i ∉ ow := by decide) (hi : X.N[i]? = some x := by rfl) (hx : Loc X.env.scope x := by first | exact .inl rfl | exact .inr rfl) (hN : X.N.Nodup := by assumption)
    (hs : swapsWith e (some (.Name x px)) pos.line X.env = pure false := by rfl) (hf : X.fn x = true ∨ X.env.scope.names.lookup x = some .local := by first | exact .inl rfl | exact .inr rfl) :
    Ds X B ow Γ cr ci owS ΓS (.Assign [.Name x px] e pos) G (fun ε => .nx (u ε, dv ε)) ow (fun q : E × α => (Γ q.1).set i (some (c q.2))) :=
  ⟨(ps_set (pos' := px) (pos := pos) hN hi hx he.pe hs hf).weaken fun Dn σ H ⟨H0, ε, rl, g, k⟩ => ⟨H0, ε, rl, g, fun v H' f r z => k _ H' (r.set hio z)⟩⟩
theorem s_own {x : Str} {c : α → D} {dv : E → List α} (i : Nat) (he : DL X B ow Γ p e c G dv u) (hl : ∀ ε, i < (Γ ε).length) (h' : ∀ j, j ∈ ow' ↔ j ∈ ow ∨ j = i) (h0 : B.io ≠ none → i ≠ 0) (hi : X.N[i]? = some x := by rfl) (hx : Loc X.env.scope x := by first | exact .inl rfl | exact .inr rfl)
    (hN : X.N.Nodup := by assumption) (hs : swapsWith e (some (.Name x px)) pos.line X.env = pure false := by rfl) (hf : X.fn x = true ∨ X.env.scope.names.lookup x = some .local := by first | exact .inl rfl | exact .inr rfl) :
    Ds X B ow Γ cr ci owS ΓS (.Assign [.Name x px] e pos) G (fun ε => .nx (u ε, dv ε)) ow' (fun q : E × List α => (Γ q.1).set i (some (.list (q.2.map c)))) :=
  ⟨(ps_set (pos' := px) (pos := pos) hN hi hx he.pe hs hf).weaken fun Dn σ H ⟨H0, ε, rl, g, k⟩ => ⟨H0, ε, rl, g, fun q H' vs hq f r hv hz z => k _ H' (r.setOwn hv hz (by
    rcases rl.h0 hq with h | h
    · exact h
    · exact absurd h (rl.notio hq)) (fun h => rl.base_trk q h hq) z (hl _) h' h0)⟩⟩
theorem s_par {x y : Str} {a b : Expr} {cs : τ → List D} {ca : α → D} {cb : β → D} {dv : E → τ} {ga : τ → α} {gb : τ → β} {py pt : Pos} {kt k2 pt2} (i j : Nat) (h : DA X B ow Γ p true [a, b] cs G dv u) (hcs : ∀ t, cs t = [ca (ga t), cb (gb t)])
    (hw : swappedStores [.Tuple [.Name x px, .Name y py] kt pt] (.Tuple [a, b] k2 pt2) X.env = pure (some [x, y])) (hij : i ≠ j := by decide) (hio : i ∉ ow := by decide) (hjo : j ∉ ow := by decide)
    (hi : X.N[i]? = some x := by rfl) (hj : X.N[j]? = some y := by rfl) (hx : X.env.scope.names.lookup x = some .local := by rfl) (hy : X.env.scope.names.lookup y = some .local := by rfl) (hN : X.N.Nodup := by assumption) (hc : X.calm = true := by rfl)
    (hs : swapsWithSole [.Tuple [.Name x px, .Name y py] kt pt] (.Tuple [a, b] k2 pt2) pos.line X.env = pure false := by rfl) :
    Ds X B ow Γ cr ci owS ΓS (.Assign [.Tuple [.Name x px, .Name y py] kt pt] (.Tuple [a, b] k2 pt2) pos) G (fun ε => .nx ((u ε, ga (dv ε)), gb (dv ε))) ow (fun q : (E × α) × β => ((Γ q.1.1).set i (some (ca q.1.2))).set j (some (cb q.2))) :=
  ⟨(ps_par hc hN hi hj hij hx hy h.pa hw hs).weaken fun Dn σ H ⟨H0, ε, rl, g, k⟩ => ⟨H0, ε, rl, g, fun vs H' f r z => by
    have z' : FzL X.K (B.full σ ow) H' vs [ca (ga (dv ε)), cb (gb (dv ε))] := by rw [← hcs]; exact z
    obtain ⟨v, w, rfl, z1, z2⟩ := fzl2 (ds := []) z'
    refine ⟨v, w, rfl, k _ H' ((r.set hio z1).set hjo ?_)⟩
    unfold Bd.full
    rw [oa_set hio]
    exact z2⟩⟩
/-- x += e of ints -/
theorem s_aug {x : Str} {op : Operator} {f : Int → Int → Int} {gx : E → Int} {dv : E → Int} (i : Nat) (ho : PIp X op (ipI f)) (hg : ∀ ε, (Γ ε)[i]? = some (some (cI (gx ε)))) (he : De X B ow Γ true true e cI G dv (fun ε => ε)) (hio : i ∉ ow := by decide) (hi : X.N[i]? = some x := by rfl)
    (hx : Loc X.env.scope x := by first | exact .inl rfl | exact .inr rfl) (hN : X.N.Nodup := by assumption) (hf : X.fn x = true ∨ X.env.scope.names.lookup x = some .local := by first | exact .inl rfl | exact .inr rfl) :
    Ds X B ow Γ cr ci owS ΓS (.AugAssign (.Name x px) op e pos) G (fun ε => .nx (ε, f (gx ε) (dv ε))) ow (fun q : E × Int => (Γ q.1).set i (some (cI q.2))) :=
  ⟨(ps_aug (pos' := px) (pos := pos) hN hi hx he.pe ho hf).weaken fun Dn σ H ⟨H0, ε, rl, g, k⟩ => by
    obtain ⟨v, e1, z1⟩ := rl.fz i _ hio (hg ε)
    cases z1.int_inv
    refine ⟨_, e1, H0, ε, rl, g, fun w H' f' r z2 => ?_⟩
    cases z2.int_inv
    exact ⟨_, _, rfl, rfl, k _ H' (r.set hio (.int _))⟩⟩
theorem s_drop {c : α → D} {dv : E → α} (he : De X B ow Γ p s e c G dv u) (hs : swapsWith e none pos.line X.env = pure false := by rfl) : Ds X B ow Γ cr ci owS ΓS (.Expr e pos) G (fun ε => .nx (u ε)) ow Γ :=
  ⟨(ps_expr he.pe hs).weaken fun Dn σ H ⟨H0, ε, rl, g, k⟩ => ⟨H0, ε, rl, g, fun v H' f r z => k _ H' r⟩⟩
theorem s_ret {c : α → D} {dv : E → α} {r : α → E → R} (hcr : ∀ a ε, cr (r a ε) = c a) (hb : B.io = none) (he : De X B ow Γ p s e c G dv u) : Ds X B ow Γ cr ci owS ΓS (.Return (some e) pos) G (fun ε => .rt (r (dv ε) (u ε))) ow' Γ' :=
  ⟨(ps_ret he.pe).weaken fun Dn σ H ⟨H0, ε, rl, g, k⟩ => ⟨H0, ε, rl, g, fun v H' f r' z => k v H' ⟨r'.fr, by
    rw [hcr, hb]
    refine z.sub fun a ha => ?_
    have ha' : a ∈ B.base := by simpa using ha
    cases s with
    | true => exact List.mem_append_left _ ha'
    | false => exact ha', fun p hp => by rw [hb] at hp; cases hp⟩⟩⟩
theorem s_retS {c : α → D} {dv : E → α} {r : α → E → R} (hcr : ∀ a ε, cr (r a ε) = c a) (hci : ∀ a ε, (Γ ε)[0]? = some (some (.list (ci (r a ε))))) (he : De X B ow Γ p true e c G dv u) : Ds X B ow Γ cr ci owS ΓS (.Return (some e) pos) G (fun ε => .rt (r (dv ε) (u ε))) ow' Γ' :=
  ⟨(ps_ret he.pe).weaken fun Dn σ H ⟨H0, ε, rl, g, k⟩ => ⟨H0, ε, rl, g, fun v H' f r' z => by
    have sub : ∀ a ∈ B.base ++ B.io.toList, a ∈ B.full σ ow := fun a ha => by
      rcases List.mem_append.mp ha with ha | ha
      · exact List.mem_append_left _ ha
      · cases hb : B.io with
        | none => rw [hb] at ha; simp at ha
        | some q =>
          rw [hb] at ha
          have e : a = q := by simpa using ha
          obtain ⟨h1, h2⟩ := r'.io q hb
          rw [e]
          exact mem_full.mpr (.inr (mem_oa.mpr ⟨0, h1, h2⟩))
    refine k v H' ⟨r'.fr, by rw [hcr]; exact z.sub sub, fun q hq => ?_⟩
    obtain ⟨h1, h2⟩ := r'.io q hq
    obtain ⟨a, vs, ds, e1, e2, e3, e4⟩ := r'.own 0 _ h1 (hci (dv ε) (u ε))
    rw [h2] at e1
    injection e1 with e1; injection e1 with e1; injection e1 with e1
    injection e2 with e2
    subst e1
    exact ⟨vs, e3, by rw [e2]; exact e4.sub sub⟩⟩⟩
variable {t : E → Bool} {a b : List Stmt} {Na Nb M : Type} {Γa : Na → List (Option D)} {Γb : Nb → List (Option D)} {ΓM : M → List (Option D)} {Ga Gb : E → Prop} {owa owb : List Nat} {fa fb : E → M}
/-- if, both ways going on, joined -/
theorem s_if (ht : Dt X B ow Γ p e G t (fun ε => ε)) (ha : Dss X B ow Γ cr ci owS ΓS a Ga (fun ε => .nx (fa ε)) ow' ΓM) (hb : Dss X B ow Γ cr ci owS ΓS b Gb (fun ε => .nx (fb ε)) ow' ΓM) :
    Ds X B ow Γ cr ci owS ΓS (.If e a b pos) (fun ε => G ε ∧ (t ε = true → Ga ε) ∧ (t ε = false → Gb ε)) (fun ε => .nx (if t ε = true then fa ε else fb ε)) ow' ΓM :=
  ⟨(ps_if ht.pt ha.pss hb.pss).weaken fun Dn σ H ⟨H0, ε, rl, ⟨g, g1, g2⟩, k⟩ => ⟨H0, ε, rl, g, fun H' f r => by
    cases h : t ε with
    | true =>
      rw [if_pos rfl]
      exact ⟨H0, ε, r, g1 h, fun σ' H' r' => k σ' H' (by rw [if_pos h]; exact r')⟩
    | false =>
      rw [if_neg Bool.false_ne_true]
      exact ⟨H0, ε, r, g2 h, fun σ' H' r' => k σ' H' (by rw [if_neg (by rw [h]; exact Bool.false_ne_true)]; exact r')⟩⟩⟩
/-- if, any ways -/
theorem s_ifM {da db : E → Out N R S} (ht : Dt X B ow Γ p e G t u) (ha : Dss X B ow Γ cr ci owS ΓS a Ga da ow' Γ') (hb : Dss X B ow Γ cr ci owS ΓS b Gb db ow' Γ') :
    Ds X B ow Γ cr ci owS ΓS (.If e a b pos) (fun ε => G ε ∧ (t ε = true → Ga (u ε)) ∧ (t ε = false → Gb (u ε))) (fun ε => if t ε = true then da (u ε) else db (u ε)) ow' Γ' :=
  ⟨(ps_if ht.pt ha.pss hb.pss).weaken fun Dn σ H ⟨H0, ε, rl, ⟨g, g1, g2⟩, k⟩ => ⟨H0, ε, rl, g, fun H' f r => by
    cases h : t ε with
    | true =>
      simp only [h, if_true] at k
      rw [if_pos rfl]
      exact ⟨H0, _, r, g1 h, k⟩
    | false =>
      simp only [h, Bool.false_eq_true, if_false] at k
      rw [if_neg Bool.false_ne_true]
      exact ⟨H0, _, r, g2 h, k⟩⟩⟩
/-- if c: (leaves), then the rest: as an if over both -/
theorem s_ifR {da db : E → Out N R S} (ht : Dt X B ow Γ p e G t u) (ha : Dss X B ow Γ cr ci owS ΓS a Ga da ow' Γ') (hleave : ∀ ε n, da ε ≠ .nx n) (hb : Dss X B ow Γ cr ci owS ΓS sts Gb db ow' Γ') :
    Dss X B ow Γ cr ci owS ΓS (.If e a [] pos :: sts) (fun ε => G ε ∧ (t ε = true → Ga (u ε)) ∧ (t ε = false → Gb (u ε))) (fun ε => if t ε = true then da (u ε) else db (u ε)) ow' Γ' :=
  ⟨(pss_cons (ps_if ht.pt ha.pss pss_nil) hb.pss).weaken fun Dn σ H ⟨H0, ε, rl, ⟨g, g1, g2⟩, k⟩ => ⟨H0, ε, rl, g, fun H' f r => by
    cases h : t ε with
    | true =>
      simp only [h, if_true] at k
      rw [if_pos rfl]
      refine ⟨H0, _, r, g1 h, ?_⟩
      cases q : da (u ε) with
      | nx n => exact absurd q (hleave _ n)
      | rt r => simp only [q] at k; exact k
      | bk r => simp only [q] at k; exact k
      | ct r => simp only [q] at k; exact k
    | false =>
      simp only [h, Bool.false_eq_true, if_false] at k
      rw [if_neg Bool.false_ne_true]
      exact ⟨H0, _, r, g2 h, k⟩⟩⟩
/-- if c: raise .., then the rest -/
theorem s_ifX {db : E → Out N R S} (ht : Dt X B ow Γ p e G t u) (hb : Dss X B ow Γ cr ci owS ΓS sts Gb db ow' Γ') :
    Dss X B ow Γ cr ci owS ΓS (.If e a [] pos :: sts) (fun ε => (G ε ∧ t ε = false) ∧ Gb (u ε)) (fun ε => db (u ε)) ow' Γ' :=
  ⟨(pss_cons (ps_if ht.pt pss_never pss_nil) hb.pss).weaken fun Dn σ H ⟨H0, ε, rl, ⟨⟨g, g1⟩, g2⟩, k⟩ => ⟨H0, ε, rl, g, fun H' f r => by
    rw [g1]
    show (if false = true then _ else _)
    rw [if_neg Bool.false_ne_true]
    exact ⟨H0, _, r, g2, k⟩⟩⟩
end
end Y
namespace Y
open PySem PySem.Spec PyProof.Rows L2

/-! ### enumerate(tuple) -/
def ItE (K : Frag) (a : Addr) : It :=
  ⟨fun i H => ∃ (xs : List V) (x : V), SqT K H a xs ∧ xs[i]? = some x, fun i H v H' => ∃ T x, v = .ref T ∧ H T = none ∧ H' = upd H T (.tup [.int (i : Nat), x]) ∧ ∀ xs, SqT K H a xs → xs[i]? = some x, fun i H => ∃ xs : List V, SqT K H a xs ∧ xs.length ≤ i⟩
theorem turn_enT {P : Program} {w : World} {K : Frag} {elts : List Expr} {kk : Nat} {tpos : Pos} (a e it : Addr) (hat : a ≠ it) (hae : a ≠ e) :
    Turn P w K (.Tuple elts kk tpos) (ItE K a) [e, it] e (fun i h => (∃ old, IsEnum h e it ((i : Nat) : Int) old) ∧ h.IsTupleIter it a i ∧ e ≠ it) where
  mem := List.mem_cons_self
  obj := fun i h st b hb => by
    obtain ⟨⟨old, he⟩, ⟨o, ho, hc, hd⟩, _⟩ := st
    rcases List.mem_cons.mp hb with z | hb
    · rw [z]; exact ⟨_, he, fun v q => nomatch q⟩
    · rw [List.mem_singleton.mp hb]; exact ⟨o, ho, fun v q => by rw [hd] at q; cases q⟩
  keep := fun i h h' st k => let ⟨⟨old, he⟩, hi, hne⟩ := st; ⟨⟨old, k e (by simp) _ he⟩, hi.at fun o q => k it (by simp) o q, hne⟩
  item := by
    intro X hP hw hK hc i pins s σ H E I hf st hg
    subst hP hw hK
    obtain ⟨⟨old, he⟩, hit, hne⟩ := st
    obtain ⟨xs, x, hq, hx⟩ := hg
    obtain ⟨its, rv, p, hz⟩ := I.tuple hq
    obtain ⟨u, hu, ru⟩ := rv.get hx
    have hel := Heap.lt_size he
    have hil : it < s.heap.objs.size := by obtain ⟨_, q, _⟩ := hit; exact Heap.lt_size q
    have hlt : i < its.toArray.size := by
      have h1 := rv.length
      have h2 := (List.getElem?_eq_some_iff.mp hx).1
      simp only [List.size_toArray]; omega
    have hcl : X.A.in1.handled = none := I.ok.hd hc
    refine wpAny_pyNext_enum_itemD (Draws.tuple hcl it a hat its.toArray) he ⟨hit, show s.heap.IsTuple a its.toArray from p⟩ hlt hne (fun z => by
      rcases List.mem_cons.mp z with z | z
      · exact hne z
      · exact hae (List.mem_singleton.mp z).symm) fun x' h' tk hx' ho st' hT hsz hk => ?_
    have ex : x' = u := by
      have : its.toArray[i]? = some u := by simpa using hu
      rw [this] at hx'; injection hx' with hx'; exact hx'.symm
    subst ex
    refine ⟨_, rfl, wpAny_letOwnedTupleGo_enum (s := { s with heap := h', toks := tk + 1 }) ho fun h'' he' sb => ?_⟩
    have hT2 : h''.get? s.heap.objs.size = some { cls := .type "tuple", data := .seq #[.int i tk, x'] } := (sb.2 _ (Nat.ne_of_gt hel)).trans hT
    have nw : ObjOk X.prog X.w (upd H s.heap.objs.size (.tup [.int (i : Nat), x])) h'' s.heap.objs.size (.tup [.int (i : Nat), x]) :=
      ⟨by show 2 ≤ sizeLine; decide, [.int i tk, x'], .cons ⟨_, rfl⟩ (.cons ru .nil), ⟨_, hT2, rfl, _, rfl⟩⟩
    have I1 := I.turnedNew (t' := tk + 1) (ch := [e, it]) (fun b ob hb q => (sb.2 b (fun z => hb (by simp [z]))).trans (hk b ob (fun z => hb (by simp [z])) (fun z => hb (by simp [z])) q)) hf (Nat.le_refl _) nw
    refine ⟨.ref s.heap.objs.size, _, I1, rfl, ⟨_, x, rfl, I.hok.fresh (Nat.le_refl _), rfl, fun ys hy => by rw [I.tuple_inj hy hq]; exact hx⟩, ⟨⟨x', ?_⟩, st'.1.at fun o q => (sb.2 it (Ne.symm hne)).trans q, hne⟩, fun b hb => ?_⟩
    · have e1 : ((i + 1 : Nat) : Int) = (i : Int) + 1 := by omega
      rw [e1]; exact he'
    · have hb' : b < s.heap.objs.size := by
        rcases List.mem_cons.mp hb with z | z
        · rw [z]; exact hel
        · rw [List.mem_singleton.mp z]; exact hil
      rw [upd_ne (Nat.ne_of_lt hb')]
      exact (hf b hb).1
  done := by
    intro X hP hw hK hc i pins s σ H E I hf st hg
    subst hP hw hK
    obtain ⟨⟨old, he⟩, hit, hne⟩ := st
    obtain ⟨xs, hq, hx⟩ := hg
    obtain ⟨its, rv, p, hz⟩ := I.tuple hq
    obtain ⟨f0, f1, f2, f3, f4, f5⟩ := hf it (by simp)
    have hT : s.TypeIs (.ref e) "enumerate" := ⟨_, he, rfl⟩
    have hcl : X.A.in1.handled = none := I.ok.hd hc
    have hl := rv.length
    unfold pyNext
    refine wpAny_bind (wpAny_attempt (wpAny_callSpecial?_slot (name := Str.ofString "__next__") hT F.slot_enumerate_next
      (wpAny_call_entry F.slot_enumerate_next hT F.entry_enumerate_next ?_ (F.args_enumerate_next_1 _))))
    show wpAny _ _ (field (.ref e) 2 >>= _) _ _ _
    refine wpAny_bind (wpAny_field he rfl (x := .ref it) rfl ?_)
    refine wpAny_bind (wpAny_nextOf_tuple_end hcl hit (show s.heap.IsTuple a its.toArray from p) (by simp; omega) fun h' x he' hx' => ?_)
    obtain ⟨o, ho, hc'⟩ := hx'
    refine wpAny_bind (wpAny_isInstance (T := "StopIteration") (b := true) ⟨o, ho, hc'⟩ isSubtype_stop ?_)
    exact wpAny_pure ⟨rfl, I.turned (t' := s.toks) (fun b o hb q => he' b o hb q) f0 f1 f3 f4 f5⟩
  self := fun A i s Q E st h => let ⟨⟨_, he⟩, _⟩ := st; wpAny_pyIter_enum he h
set_option maxHeartbeats 4000000 in
theorem meets_en_new {v : Value} {o : Obj} {Hh : Heap → Prop} (Bg : Begins v o Hh) :
    Meets (Builtin.«enumerate.__new__» ⟨[.type "enumerate", v], []⟩) (fun _ R s => Hh s.heap ∧
      R (.ok (.ret (.ref (s.heap.push o).objs.size))) { s with heap := (s.heap.push o).push { cls := .type "enumerate", data := .fields #[.none, .bool false, .ref s.heap.objs.size, rawInt 0, .none, .none] } }) := by
  refine .of_wp fun prog w A R s h => ?_
  obtain ⟨hp, g, d, tk, os⟩ := s
  obtain ⟨h1, h⟩ := h
  have hsub := sub_enumerate
  have q1 : ∀ {A' : Around} {E : Value → Shared → Prop} {Q : Value → Shared → Prop}, Q (.ref hp.objs.size) ⟨hp.push o, g, d, tk, os⟩ → wpAny (model prog w) A' (pyIter v) Q E ⟨hp, g, d, tk, os⟩ := fun q => Bg.iter prog w _ _ _ _ h1 q
  wp_walk using q1
  refine wpAny_stack_any fun st => wpAny_pure ?_
  split
  · rename_i c _ _ _ _ _
    cases (c == Value.type "enumerate") <;> (wp_walk using q1; exact ⟨_, rfl, h⟩)
  · wp_walk using q1
    exact ⟨_, rfl, h⟩
def iEnT (K : Frag) (ta : TA) : TI := fun σ H R => ta σ H fun vs H1 => ∃ a xs, vs = [.ref a] ∧ SqT K H1 a xs ∧ R (ItE K a) H1
theorem pi_enT {X : Cx} {e : Expr} {ta : TA} {p pos tpos : Pos} {elts : List Expr} {kk : Nat} (hg : Gl X "enumerate") (hm : X.mg "enumerate" = none) (ha : PA X [e] ta) (hs : starEach [e] X.env = [(false, eval e X.env)] := by rfl) :
    PI X (.Tuple elts kk tpos) (.Call (.Name "enumerate" p) [e] [] pos) (iEnT X.K ta) := by
  constructor
  intro pins s σ H R I h
  refine Call_ (ld_blt I hg hm boot_enumerate (callWith_type1 (thn (ha.run pos pins s σ H _ I h) fun us s1 ⟨vs, H1, I1, r1, q1⟩ => ?_) hs rfl))
  obtain ⟨a, xs, ex, hq, q⟩ := q1
  subst ex
  cases r1 with
  | cons r rr =>
    cases rr
    cases r
    obtain ⟨its, rv, p', hz⟩ := I1.tuple hq
    refine callType_new F.called_enumerate (by decide) (F.typeCall_enumerate_1 _) (F.newCall_enumerate_1 _) (fun obj => F.args_object_init_2 obj _) F.entry_enumerate_new (meets_en_new (begins_tuple a its.toArray)) ⟨show s1.heap.IsTuple a its.toArray from p', ?_⟩
    generalize hob : ({ cls := .type "tuple_iterator", data := .fields #[.ref a, .int 0 0] } : Obj) = ob
    have hfr : ob.isFreed = false := by rw [← hob]; rfl
    have hz1 : (s1.heap.push ob).objs.size = s1.heap.objs.size + 1 := Heap.size_push ..
    show _ ∧ _
    rw [hz1]
    have he : IsEnum ((s1.heap.push ob).push { cls := .type "enumerate", data := .fields #[.none, .bool false, .ref s1.heap.objs.size, rawInt 0, .none, .none] }) (s1.heap.objs.size + 1) s1.heap.objs.size 0 .none := by
      have := Heap.get?_push_size (s1.heap.push ob) (o := { cls := .type "enumerate", data := .fields #[.none, .bool false, .ref s1.heap.objs.size, rawInt 0, .none, .none] }) rfl
      rw [hz1] at this; exact this
    have hit : ((s1.heap.push ob).push { cls := .type "enumerate", data := .fields #[.none, .bool false, .ref s1.heap.objs.size, rawInt 0, .none, .none] }).IsTupleIter s1.heap.objs.size a 0 := ⟨ob, Heap.get?_push_of_some _ (Heap.get?_push_size _ hfr), by rw [← hob], by rw [← hob]; rfl⟩
    refine ⟨⟨_, he, rfl⟩, wpAny_pyIter_enum he ?_⟩
    have I2 := I1.kept (t' := s1.toks) (h' := (s1.heap.push ob).push { cls := .type "enumerate", data := .fields #[.none, .bool false, .ref s1.heap.objs.size, rawInt 0, .none, .none] }) fun b o e => Heap.get?_push_of_some _ (Heap.get?_push_of_some _ e)
    have hal : a < s1.heap.objs.size := p'.lt
    refine ⟨s1.heap.objs.size + 1, [s1.heap.objs.size + 1, s1.heap.objs.size], _, _, H1, rfl, I2, turn_enT a (s1.heap.objs.size + 1) s1.heap.objs.size (Nat.ne_of_lt hal) (Nat.ne_of_lt (Nat.lt_succ_of_lt hal)), ⟨⟨.none, he⟩, hit, Nat.succ_ne_self _⟩, fun b hb => ?_, q⟩
    have hle : s1.heap.objs.size ≤ b := by
      rcases List.mem_cons.mp hb with z | z
      · rw [z]; exact Nat.le_add_right _ _
      · rw [List.mem_singleton.mp z]; exact Nat.le_refl _
    exact I1.fpOk hle (I1.hok.fresh hle)
end Y
namespace Y
open PySem PySem.Spec L2

/-! ### what is walked -/
/-- at turn i the i-th of xs is given -/
def Yd {α : Type} (K : Frag) (A : List Addr) (H1 : Hp) (c : α → D) (xs : List α) : Nat → Hp → V → Hp → Prop := fun i H x H' => Fr [] H H' ∧ ∃ a, xs[i]? = some a ∧ ∀ A', (∀ b ∈ A', b ∈ A ∨ H1 b = none) → Fr (A ++ A') H1 H → Tr A' H → Fz K A' H' x (c a)
section
variable {E α : Type}
def tIs (K : Frag) (B : Bd) (ow : List Nat) (Γ : E → List (Option D)) (p : Bool) (c : α → D) (G : E → Prop) (xs : E → List α) (u : E → E) : TI := fun σ H R =>
  ∃ H0 ε, Rel K B H0 ow σ H (Γ ε) ∧ G ε ∧ ∀ J H1, Fr (cond p [] (oa σ ow)) H H1 → Rel K B H0 ow σ H1 (Γ (u ε)) → Walk J (xs ε).length (Fr (B.full σ ow) H1) (Yd K (B.full σ ow) H1 c (xs ε)) → (xs ε).length ≤ szN → R J H1
structure DI (X : Cx) (B : Bd) (ow : List Nat) (Γ : E → List (Option D)) (p : Bool) (tg e : Expr) (c : α → D) (G : E → Prop) (xs : E → List α) (u : E → E) : Prop where
  pi : PI X tg e (tIs X.K B ow Γ p c G xs u)
end
theorem _root_.L2.PI.weaken {X : Cx} {tg e : Expr} {t t' : TI} (h : PI X tg e t) (w : ∀ σ H Q, t' σ H Q → t σ H Q) : PI X tg e t' := ⟨fun pins s σ H Q I q => h.run pins s σ H Q I (w σ H Q q)⟩
section
variable {X : Cx} {B : Bd} {ow : List Nat} {E α β : Type} {Γ : E → List (Option D)} {p : Bool} {tg e e2 : Expr} {pos px : Pos} {c : α → D} {cb : β → D} {G : E → Prop} {d : E → List α} {u : E → E}
theorem yfr {K : Frag} {A A' : List Addr} {H H1 : Hp} {v : V} {x : D} (z : Fz K A H1 v x) (s : ∀ b ∈ A', b ∈ A ∨ H1 b = none) (f : Fr (A ++ A') H1 H) : Fz K A' H v x :=
  ((z.any (A' := A ++ A') fun b hb => (List.mem_append.mp hb).elim .inl (s b)).fr f).sub fun b hb => List.mem_append_right _ hb
theorem yd_at {K : Frag} {A : List Addr} {H1 : Hp} {xs : List α} {vs : List V} (l : FzL K A H1 vs (xs.map c)) {i : Nat} {H H' : Hp} {x : V} (h : YAt vs i H x H') : Yd K A H1 c xs i H x H' := by
  obtain ⟨rfl, e⟩ := h
  refine ⟨Fr.refl _ _, ?_⟩
  obtain ⟨d, h1, z⟩ := l.get e
  rw [List.getElem?_map] at h1
  cases h2 : xs[i]? with
  | none => rw [h2] at h1; cases h1
  | some a =>
    rw [h2] at h1
    injection h1 with h1
    refine ⟨a, rfl, fun A' s f t => ?_⟩
    rw [h1]
    exact yfr z s f
theorem i_lst (h : De X B ow Γ p true e (cL c) G d u) : DI X B ow Γ p tg e c G d u :=
  ⟨(pi_list h.pe).weaken fun σ H R ⟨H0, ε, rl, g, k⟩ => ⟨H0, ε, rl, g, fun v H1 f r z => by
    obtain ⟨a, vs, rfl, n, l⟩ := z.lst_inv
    have hl : vs.length = (d ε).length := by simpa using l.length
    refine ⟨a, rfl, ⟨vs, n.sq⟩, ?_⟩
    rw [← hl] at k
    exact k _ H1 f r (walk_list.mono (fun H' f' => .inl (.inl (f' _ _ n.1.2 n.1.1))) fun i H x H' _ _ y => yd_at l y) n.2⟩⟩
theorem i_tup (h : De X B ow Γ p true e (cT c) G d u) : DI X B ow Γ p tg e c G d u :=
  ⟨(pi_tup h.pe).weaken fun σ H R ⟨H0, ε, rl, g, k⟩ => ⟨H0, ε, rl, g, fun v H1 f r z => by
    obtain ⟨a, vs, rfl, n, l⟩ := z.tup_inv
    have hl : vs.length = (d ε).length := by simpa using l.length
    refine ⟨a, rfl, ⟨vs, n.sq⟩, ?_⟩
    rw [← hl] at k
    exact k _ H1 f r (walk_tup.mono (fun H' f' => (n.fr f').sq) fun i H x H' _ _ y => yd_at l y) n.sz⟩⟩
/-- range -/
def rng (a b : Int) : List Int := (List.range (b - a).toNat).map fun (i : Nat) => a + (i : Int)
theorem rng_length (a b : Int) : (rng a b).length = (b - a).toNat := by unfold rng; simp
theorem rng_get (a b : Int) (i : Nat) (h : i < (b - a).toNat) : (rng a b)[i]? = some (a + (i : Int)) := by unfold rng; simp [h]
theorem yd_rng {K : Frag} {A : List Addr} {H1 : Hp} {a b : Int} {i : Nat} {H H' : Hp} {x : V} (hi : i < (b - a).toNat) (h : YFn (fun i => .int (a + (i : Nat))) i H x H') : Yd K A H1 cI (rng a b) i H x H' := by
  obtain ⟨rfl, e⟩ := h
  exact ⟨Fr.refl _ _, _, rng_get a b i hi, fun A' _ _ _ => by rw [e]; exact .int _⟩
def CRg (a b : Int) : Prop := -1000000000000000000 ≤ a ∧ a ≤ 1000000000000000000 ∧ -1000000000000000000 ≤ b ∧ b ≤ 1000000000000000000 ∧ b - a ≤ 16777216
theorem i_rng1 {dn : E → Int} (h : DA X B ow Γ p true [e] (ac cI an) G (fun ε => (dn ε, ())) u) (hm : X.mg "range" = none) (hg : Gl X "range" := by rfl) (hs : starEach [e] X.env = [(false, eval e X.env)] := by rfl) :
    DI X B ow Γ p tg (.Call (.Name "range" px) [e] [] pos) cI (fun ε => G ε ∧ CRg 0 (dn ε)) (fun ε => rng 0 (dn ε)) u :=
  ⟨(pi_range1 hg hm h.pa hs).weaken fun σ H R ⟨H0, ε, rl, ⟨g, hb⟩, k⟩ => ⟨H0, ε, rl, g, fun vs H1 f r z => by
    obtain ⟨v, rfl, z1⟩ := fzl1 (ds := []) z
    cases z1.int_inv
    obtain ⟨_, _, b1, b2, b3⟩ := hb
    refine ⟨dn ε, rfl, by omega, by omega, ?_⟩
    rw [rng_length] at k
    have e0 : (dn ε - 0).toNat = (dn ε).toNat := by congr 1; omega
    rw [e0] at k
    exact k _ H1 f r (walk_range.mono (fun _ _ => trivial) fun i H x H' hi _ y => yd_rng (by omega) y) (by show _ ≤ 16777216; omega)⟩⟩
theorem i_rng2 {da db : E → Int} (h : DA X B ow Γ p true [e, e2] (ac cI (ac cI an)) G (fun ε => (da ε, db ε, ())) u) (hm : X.mg "range" = none) (hg : Gl X "range" := by rfl) (hs : starEach [e, e2] X.env = [(false, eval e X.env), (false, eval e2 X.env)] := by rfl)
    (hs2 : starEach [e2] X.env = [(false, eval e2 X.env)] := by rfl) :
    DI X B ow Γ p tg (.Call (.Name "range" px) [e, e2] [] pos) cI (fun ε => G ε ∧ CRg (da ε) (db ε)) (fun ε => rng (da ε) (db ε)) u :=
  ⟨(pi_range2 hg hm h.pa hs hs2).weaken fun σ H R ⟨H0, ε, rl, ⟨g, hb⟩, k⟩ => ⟨H0, ε, rl, g, fun vs H1 f r z => by
    obtain ⟨v, w, rfl, z1, z2⟩ := fzl2 (ds := []) z
    cases z1.int_inv
    cases z2.int_inv
    obtain ⟨a1, a2, b1, b2, b3⟩ := hb
    refine ⟨da ε, db ε, rfl, ⟨by omega, by omega, by omega, by omega⟩, ?_⟩
    rw [rng_length] at k
    exact k _ H1 f r (walk_range.mono (fun _ _ => trivial) fun i H x H' hi _ y => yd_rng hi y) (by show _ ≤ 16777216; omega)⟩⟩
/-- enumerate, zip -/
def enum (xs : List α) : List (Int × α) := xs.zipIdx.map fun q => ((q.2 : Int), q.1)
theorem enum_length (xs : List α) : (enum xs).length = xs.length := by unfold enum; simp
theorem enum_get (xs : List α) (i : Nat) : (enum xs)[i]? = xs[i]?.map fun a => ((i : Int), a) := by
  unfold enum
  rw [List.getElem?_map, List.getElem?_zipIdx]
  cases xs[i]? <;> simp
theorem yd_pair {K : Frag} {A : List Addr} {H1 : Hp} {xs : List (α × β)} {i : Nat} {H H' : Hp} {x : V} {fa fb : Nat → Option V} (hf : Fr A H1 H) (h : YPair fa fb i H x H')
    (k : ∀ va vb, fa i = some va → fb i = some vb → ∃ a b, xs[i]? = some (a, b) ∧ Fz K A H1 va (c a) ∧ Fz K A H1 vb (cb b)) : Yd K A H1 (c2 c cb) xs i H x H' := by
  obtain ⟨T, va, vb, rfl, hT, rfl, e1, e2⟩ := h
  obtain ⟨a, b, e, z1, z2⟩ := k va vb e1 e2
  refine ⟨Fr.new hT, (a, b), e, fun A' s f t => ?_⟩
  exact .tup (.inl ⟨t.new hT, upd_same, by show 2 ≤ szN; decide⟩) (.cons ((yfr z1 s f).fr (Fr.new hT)) (.cons ((yfr z2 s f).fr (Fr.new hT)) .nil))
theorem i_enumL {elts : List Expr} {kk : Nat} {tpos : Pos} (h : De X B ow Γ p true e (cL c) G d u) (hm : X.mg "enumerate" = none) (hg : Gl X "enumerate" := by rfl) (hs : starEach [e] X.env = [(false, eval e X.env)] := by rfl)
    (hst : starEach (e :: []) X.env = (false, eval e X.env) :: starEach [] X.env := by rfl) :
    DI X B ow Γ p (.Tuple elts kk tpos) (.Call (.Name "enumerate" px) [e] [] pos) (c2 cI c) G (fun ε => enum (d ε)) u :=
  ⟨(pi_enum hg hm (pa_cons h.pe pa_nil hst) hs).weaken fun σ H R ⟨H0, ε, rl, g, k⟩ => ⟨H0, ε, rl, g, fun v H1 f r z => by
    obtain ⟨a, vs, rfl, n, l⟩ := z.lst_inv
    have hl : vs.length = (d ε).length := by simpa using l.length
    refine ⟨a, vs, rfl, n.sq, ?_⟩
    rw [enum_length, ← hl] at k
    refine k _ H1 f r (walk_enum.mono (fun H' f' => .inl (.inl (f' _ _ n.1.2 n.1.1))) fun i H x H' _ f' y => yd_pair f' y fun va vb e1 e2 => ?_) n.2
    injection e1 with e1
    obtain ⟨d', h1, z1⟩ := l.get e2
    rw [List.getElem?_map] at h1
    cases h2 : (d ε)[i]? with
    | none => rw [h2] at h1; cases h1
    | some a' =>
      rw [h2] at h1
      injection h1 with h1
      exact ⟨(i : Int), a', by rw [enum_get, h2]; rfl, by rw [← e1]; exact .int _, by rw [h1]; exact z1⟩⟩⟩
theorem walk_enT {K : Frag} {a : Addr} {xs : List V} : Walk (ItE K a) xs.length (fun H => SqT K H a xs) (YPair (fun i => some (.int (i : Nat))) (fun i => xs[i]?)) := by
  refine ⟨fun i _ hi q => ⟨xs, xs[i], q, by simp [hi]⟩, fun _ q => ⟨xs, q, Nat.le_refl _⟩, fun i H v H' _ q y => ?_⟩
  obtain ⟨T, x, h1, h2, h3, h4⟩ := y
  exact ⟨T, _, x, h1, h2, h3, rfl, h4 xs q⟩
theorem i_enumT {elts : List Expr} {kk : Nat} {tpos : Pos} (h : De X B ow Γ p true e (cT c) G d u) (hm : X.mg "enumerate" = none) (hg : Gl X "enumerate" := by rfl) (hs : starEach [e] X.env = [(false, eval e X.env)] := by rfl)
    (hst : starEach (e :: []) X.env = (false, eval e X.env) :: starEach [] X.env := by rfl) :
    DI X B ow Γ p (.Tuple elts kk tpos) (.Call (.Name "enumerate" px) [e] [] pos) (c2 cI c) G (fun ε => enum (d ε)) u :=
  ⟨(pi_enT hg hm (pa_cons h.pe pa_nil hst) hs).weaken fun σ H R ⟨H0, ε, rl, g, k⟩ => ⟨H0, ε, rl, g, fun v H1 f r z => by
    obtain ⟨a, vs, rfl, n, l⟩ := z.tup_inv
    have hl : vs.length = (d ε).length := by simpa using l.length
    refine ⟨a, vs, rfl, n.sq, ?_⟩
    rw [enum_length, ← hl] at k
    refine k _ H1 f r (walk_enT.mono (fun H' f' => (n.fr f').sq) fun i H x H' _ f' y => yd_pair f' y fun va vb e1 e2 => ?_) n.sz
    injection e1 with e1
    obtain ⟨d', h1, z1⟩ := l.get e2
    rw [List.getElem?_map] at h1
    cases h2 : (d ε)[i]? with
    | none => rw [h2] at h1; cases h1
    | some a' =>
      rw [h2] at h1
      injection h1 with h1
      exact ⟨(i : Int), a', by rw [enum_get, h2]; rfl, by rw [← e1]; exact .int _, by rw [h1]; exact z1⟩⟩⟩
end

theorem fzl3 {K : Frag} {A : List Addr} {H : Hp} {vs : List V} {d d' d'' : D} (h : FzL K A H vs [d, d', d'']) : ∃ v w u, vs = [v, w, u] ∧ Fz K A H v d ∧ Fz K A H w d' ∧ Fz K A H u d'' := by
  cases h with | cons a b => cases b with | cons a' b' => cases b' with | cons a'' b'' => cases b''; exact ⟨_, _, _, rfl, a, a', a''⟩
/-! ### targets -/
def wipeG (γ : List (Option D)) : List Nat → List (Option D)
  | [] => γ
  | v :: vs => (wipeG γ vs).set v none
/-- the target takes a value told by c, the slots are then told by Γt -/
def TgR (K : Frag) {α : Type} (c : α → D) (js : List Nat) (g : TG) (f : α → List (Option D) → List (Option D)) : Prop :=
  ∀ (B : Bd) (H0 : Hp) (ow : List Nat) (σ : L2.St) (H : Hp) (γ : List (Option D)) (v : V) (a : α) (Q : L2.St → Hp → Prop), (∀ j ∈ js, j ∉ ow) → Rel K B H0 ow σ H γ → Fz K (B.full σ ow) H v (c a) →
    (∀ σ', Rel K B H0 ow σ' H (f a γ) → (∀ i, i ∉ js → σ'[i]? = σ[i]?) → σ'.length = σ.length → Q σ' H) → g v σ H Q
section
variable {K : Frag} {α β γ' δ : Type}
theorem tg_name {c : α → D} (j : Nat) : TgR K c [j] (gName j) fun a γ => γ.set j (some (c a)) := fun B H0 ow σ H γ v a Q hj r z k =>
  k _ (r.set (hj j (by simp)) z) (fun i hi => by rw [List.getElem?_set_ne (fun e => hi (by simp [e]))]) (by simp)
theorem tg_pair {ca : α → D} {cb : β → D} (i j : Nat) : TgR K (c2 ca cb) [i, j] (gTup K 2 (gCons (gName i) (gCons (gName j) gNil))) fun q γ => (γ.set i (some (ca q.1))).set j (some (cb q.2)) := fun B H0 ow σ H γ v q Q hj r z k => by
  obtain ⟨a, xs, rfl, n, l⟩ := z.tup_inv
  obtain ⟨x, y, rfl, z1, z2⟩ := fzl2 (ds := []) l
  have r1 := r.set (hj i (by simp)) z1
  refine ⟨a, _, rfl, n.sq, rfl, x, _, rfl, y, [], rfl, rfl, k _ (r1.set (hj j (by simp)) ?_) (fun m hm => ?_) (by simp)⟩
  · unfold Bd.full
    rw [oa_set (hj i (by simp))]
    exact z2
  · have h1 : i ≠ m := fun e => hm (by simp [e])
    have h2 : j ≠ m := fun e => hm (by simp [e])
    rw [List.getElem?_set_ne h2, List.getElem?_set_ne h1]
theorem tg_three {ca : α → D} {cb : β → D} {cc : γ' → D} (i j l : Nat) : TgR K (c3 ca cb cc) [i, j, l] (gTup K 3 (gCons (gName i) (gCons (gName j) (gCons (gName l) gNil)))) fun q γ => ((γ.set i (some (ca q.1))).set j (some (cb q.2.1))).set l (some (cc q.2.2)) := fun B H0 ow σ H γ v q Q hj r z k => by
  obtain ⟨a, xs, rfl, n, lz⟩ := z.tup_inv
  obtain ⟨x, y, w, rfl, z1, z2, z3⟩ := fzl3 lz
  have r1 := r.set (hj i (by simp)) z1
  have e1 : ∀ u : Option V, oa (σ.set i u) ow = oa σ ow := fun u => oa_set (hj i (by simp))
  have r2 := r1.set (i := j) (v := y) (d := cb q.2.1) (hj j (by simp)) (by unfold Bd.full; rw [e1]; exact z2)
  have e2 : ∀ u w : Option V, oa ((σ.set i u).set j w) ow = oa σ ow := fun u w => by rw [oa_set (hj j (by simp)), e1]
  refine ⟨a, _, rfl, n.sq, rfl, x, _, rfl, y, _, rfl, w, [], rfl, rfl, k _ (r2.set (hj l (by simp)) ?_) (fun m hm => ?_) (by simp)⟩
  · unfold Bd.full
    rw [e2]
    exact z3
  · have h1 : i ≠ m := fun e => hm (by simp [e])
    have h2 : j ≠ m := fun e => hm (by simp [e])
    have h3 : l ≠ m := fun e => hm (by simp [e])
    rw [List.getElem?_set_ne h3, List.getElem?_set_ne h2, List.getElem?_set_ne h1]
end
end Y
namespace Y
open PySem PySem.Spec L2

/-! ### loops, as functions -/
section
variable {T α R S M : Type}
def forO (f : T × α → Out T R T) : T → List α → Out T R S
  | t, [] => .nx t
  | t, x :: xs => match f (t, x) with
    | .nx t' => forO f t' xs
    | .ct t' => forO f t' xs
    | .bk t' => .nx t'
    | .rt r => .rt r
def forG (g : T × α → Prop) (f : T × α → Out T R T) : T → List α → Prop
  | _, [] => True
  | t, x :: xs => g (t, x) ∧ match f (t, x) with
    | .nx t' => forG g f t' xs
    | .ct t' => forG g f t' xs
    | .bk _ => True
    | .rt _ => True
def whO (c : T → Bool) (f : T → Out T R T) : Nat → T → Out T R S
  | 0, t => .nx t
  | n + 1, t => if c t = true then (match f t with
    | .nx t' => whO c f n t'
    | .ct t' => whO c f n t'
    | .bk t' => .nx t'
    | .rt r => .rt r) else .nx t
def whG (gc : T → Prop) (c : T → Bool) (gb : T → Prop) (f : T → Out T R T) : Nat → T → Prop
  | 0, t => gc t ∧ c t = false
  | n + 1, t => gc t ∧ (c t = true → gb t ∧ match f t with
    | .nx t' => whG gc c gb f n t'
    | .ct t' => whG gc c gb f n t'
    | .bk _ => True
    | .rt _ => True)
theorem forO_nx {f : T × α → T} : ∀ (xs : List α) (t : T), forO (S := S) (R := R) (fun q => .nx (f q)) t xs = .nx (xs.foldl (fun t x => f (t, x)) t)
  | [], _ => rfl
  | x :: xs, t => by
    show forO (fun q => .nx (f q)) (f (t, x)) xs = _
    rw [forO_nx xs]; rfl
end

/-- the heap without some addresses -/
def hid (A : List Addr) (H : Hp) : Hp := fun b => if b ∈ A then none else H b
theorem hid_some {A : List Addr} {H : Hp} {b : Addr} {o : HO} (h : hid A H b = some o) : b ∉ A ∧ H b = some o := by
  unfold hid at h
  by_cases e : b ∈ A
  · rw [if_pos e] at h; cases h
  · rw [if_neg e] at h; exact ⟨e, h⟩
theorem hid_of {A : List Addr} {H : Hp} {b : Addr} (h : b ∉ A) : hid A H b = H b := if_neg h
theorem hid_none {A : List Addr} {H : Hp} {b : Addr} (h : hid A H b = none) : b ∈ A ∨ H b = none := by
  by_cases e : b ∈ A
  · exact .inl e
  · rw [hid_of e] at h; exact .inr h
section
variable {K : Frag} {B : Bd} {H0 H1 H : Hp} {ow ow' : List Nat} {σ σ' : L2.St} {γ γ' : List (Option D)}
theorem Rel.ioa (r : Rel K B H0 ow σ H γ) : ∀ a ∈ B.io.toList, a ∈ oa σ ow := fun a h => by
  cases hb : B.io with
  | none => rw [hb] at h; simp at h
  | some p =>
    rw [hb] at h
    have e : a = p := by simpa using h
    obtain ⟨h1, h2⟩ := r.io p hb
    rw [e]
    exact mem_oa.mpr ⟨0, h1, h2⟩
/-- from here on -/
theorem Rel.rest (r : Rel K B H0 ow σ H γ) : Rel K B (hid (oa σ ow) H) ow σ H γ :=
  ⟨r.len, r.one, r.fz, r.own, r.trk, fun b o e n => (hid_some e).2, fun a h => .inl (if_pos h), fun a h => by
    have h1 := r.apart a
    have h2 : a ∉ oa σ ow := fun z => h1 z (List.mem_append_left _ h)
    exact ⟨by rw [hid_of h2]; exact r.base_trk a (List.mem_append_left _ h), (r.a0 a h).2⟩, r.xt, r.io⟩
theorem hid_fr (r : Rel K B H0 ow σ H1 γ) {b : Addr} {o : HO} (e : H0 b = some o) (n : b ∉ B.io.toList) : hid (oa σ ow) H1 b = some o := by
  rw [hid_of]
  · exact r.fr b o e n
  · intro z
    rcases r.new b z with h | h
    · rw [h] at e; cases e
    · exact n h
theorem Rel.rebase (r : Rel K B H0 ow σ H1 γ) (r' : Rel K B (hid (oa σ ow) H1) ow' σ' H γ') : Rel K B H0 ow' σ' H γ' :=
  ⟨r'.len, r'.one, r'.fz, r'.own, r'.trk, fun b o e n => r'.fr b o (hid_fr r e n) n, fun a h => by
    by_cases n : a ∈ B.io.toList
    · exact .inr n
    · left
      cases e : H0 a with
      | none => rfl
      | some o =>
        rcases r'.new a h with z | z
        · rw [hid_fr r e n] at z; cases z
        · exact absurd z n, r.a0, r'.xt, r'.io⟩
theorem EX.rebase {R : Type} {cr : R → D} {ci : R → List D} {q : R} {v : V} (r : Rel K B H0 ow σ H1 γ) (h : EX K B cr ci (hid (oa σ ow) H1) q v H) : EX K B cr ci H0 q v H := ⟨fun b o e n => h.1 b o (hid_fr r e n) n, h.2⟩
theorem Rel.since (r : Rel K B H0 ow σ H1 γ) (r' : Rel K B (hid (oa σ ow) H1) ow' σ' H γ') : Fr (B.full σ ow) H1 H := fun b o e n => by
  have n1 : b ∉ oa σ ow := fun z => n (mem_full.mpr (.inr z))
  exact r'.fr b o (by rw [hid_of n1]; exact e) fun z => n1 (r.ioa b z)
theorem Rel.newer (r : Rel K B H0 ow σ H1 γ) (r' : Rel K B (hid (oa σ ow) H1) ow' σ' H γ') : ∀ b ∈ B.full σ' ow', b ∈ B.full σ ow ∨ H1 b = none := fun b hb => by
  rcases mem_full.mp hb with h | h
  · exact .inl (mem_full.mpr (.inl h))
  · rcases r'.new b h with z | z
    · rcases hid_none z with z | z
      · exact .inl (mem_full.mpr (.inr z))
      · exact .inr z
    · exact .inl (mem_full.mpr (.inr (r.ioa b z)))
end
section
variable {X : Cx} {B : Bd} {ow owS : List Nat} {E L R S α : Type} {Γ : E → List (Option D)} {ΓL : L → List (Option D)} {ΓS : S → List (Option D)} {cr : R → D} {ci : R → List D} {body : List Stmt} {pos : Pos} {tg e : Expr} {p : Bool} {c : α → D} {G : E → Prop} {u : E → E}
  {xs : E → List α} {js : List Nat} {g : TG} {ft : α → List (Option D) → List (Option D)} {gb : L × α → Prop} {db : L × α → Out L R L}
theorem s_for (l0 : E → L) (hi : DI X B ow Γ p tg e c G xs u) (hc0 : ∀ (H0 : Hp) ε σ H, Rel X.K B H0 ow σ H (Γ ε) → Rel X.K B H0 ow σ H (ΓL (l0 ε))) (hg : PG X tg g) (ht : TgR X.K c js g ft) (hjs : ∀ j ∈ js, j ∉ ow)
    (hb : Dss X B ow (fun q : L × α => ft q.2 (ΓL q.1)) cr ci ow ΓL body gb db ow ΓL) (hp : PassesOwn (model X.prog X.w) X.A X.env X.xe) (hcalm : X.calm = true := by rfl) (hs : ∀ x, foldedSetIterable e X.env x = pure x := by intro _; rfl) :
    Ds X B ow Γ cr ci owS ΓS (.For tg e body [] pos) (fun ε => G ε ∧ forG gb db (l0 (u ε)) (xs ε)) (fun ε => forO db (l0 (u ε)) (xs ε)) ow ΓL :=
  ⟨(ps_for hp hcalm hi.pi hg hb.pss hs).weaken fun Dn σ H ⟨H0, ε, rl, ⟨g1, g2⟩, k⟩ => ⟨H0, ε, rl, g1, fun J H1 f1 r1 w hsz => by
    refine for_it w (fun i σ' H' => ∃ t, Rel X.K B (hid (oa σ ow) H1) ow σ' H' (ΓL t) ∧ forG gb db t ((xs ε).drop i) ∧ forO (S := S) db t ((xs ε).drop i) = forO db (l0 (u ε)) (xs ε)) ⟨l0 (u ε), hc0 _ _ _ _ r1.rest, g2, rfl⟩ ?_ ?_ ?_
    · rintro i σ' H' _ ⟨t, r', _, _⟩
      exact r1.since r'
    · rintro i x σ' H' H2 hlt ⟨t, r', hg', ho'⟩ ⟨fy, a, ea, hz⟩
      have hz' := hz (B.full σ' ow) (r1.newer r') ((r1.since r').mono fun b hb => List.mem_append_left _ hb) r'.tracked
      have hd : (xs ε).drop i = a :: (xs ε).drop (i + 1) := by
        obtain ⟨hl, e⟩ := List.getElem?_eq_some_iff.mp ea
        rw [List.drop_eq_getElem_cons hl, e]
      rw [hd] at hg' ho'
      refine ht B _ ow σ' H2 _ x a _ hjs (r'.grow fy) hz' fun σ2 r2 _ _ => ⟨_, (t, a), r2, hg'.1, ?_⟩
      have hg2 := hg'.2
      cases hdb : db (t, a) with
      | nx t' =>
        rw [hdb] at hg2
        have ho2 : forO (S := S) db t' ((xs ε).drop (i + 1)) = forO db (l0 (u ε)) (xs ε) := by rw [← ho', forO, hdb]
        exact fun σ3 H3 r3 => ⟨t', r3, hg2, ho2⟩
      | ct t' =>
        rw [hdb] at hg2
        have ho2 : forO (S := S) db t' ((xs ε).drop (i + 1)) = forO db (l0 (u ε)) (xs ε) := by rw [← ho', forO, hdb]
        exact fun σ3 H3 r3 => ⟨t', r3, hg2, ho2⟩
      | bk t' =>
        have ho2 : (Out.nx t' : Out L R S) = forO db (l0 (u ε)) (xs ε) := by rw [← ho', forO, hdb]
        have k' := k
        simp only [← ho2] at k'
        exact fun σ3 H3 r3 => k' σ3 H3 (r1.rebase r3)
      | rt q =>
        have ho2 : (Out.rt q : Out L R S) = forO db (l0 (u ε)) (xs ε) := by rw [← ho', forO, hdb]
        have k' := k
        simp only [← ho2] at k'
        exact fun v H3 ex => k' v H3 (EX.rebase r1 ex)
    · rintro σ' H' ⟨t, r', _, ho'⟩
      rw [List.drop_length] at ho'
      have ho2 : (Out.nx t : Out L R S) = forO db (l0 (u ε)) (xs ε) := ho'
      have k' := k
      simp only [← ho2] at k'
      exact k' σ' H' (r1.rebase r')⟩⟩

variable {tst : L → Bool} {gt gw : L → Prop} {dw : L → Out L R L}
theorem s_while (fuel : L → Nat) (ht : Dt X B ow ΓL p e gt tst (fun ε => ε)) (hb : Dss X B ow ΓL cr ci ow ΓL body gw dw ow ΓL) (hp : PassesOwn (model X.prog X.w) X.A X.env X.xe) :
    Ds X B ow ΓL cr ci owS ΓS (.While e body [] pos) (fun t => whG gt tst gw dw (fuel t) t) (fun t => whO tst dw (fuel t) t) ow ΓL :=
  ⟨(ps_while hp ht.pt hb.pss).weaken fun Dn σ H ⟨H0, t0, rl, g0, k⟩ => by
    refine ⟨fun m σ' H' => ∃ n t, m = n ∧ Rel X.K B H0 ow σ' H' (ΓL t) ∧ whG gt tst gw dw n t ∧ whO (S := S) tst dw n t = whO tst dw (fuel t0) t0, ⟨fuel t0, fuel t0, t0, rfl, rl, g0, rfl⟩, ?_⟩
    rintro m σ' H' ⟨n, t, rfl, r, hg, ho⟩
    have hgt : gt t := by cases m with | zero => exact hg.1 | succ m => exact hg.1
    refine ⟨H0, t, r, hgt, fun H2 f2 r2 => ?_⟩
    cases ht : tst t with
    | false =>
      rw [if_neg Bool.false_ne_true]
      have ho2 : (Out.nx t : Out L R S) = whO tst dw (fuel t0) t0 := by
        rw [← ho]
        cases m with
        | zero => rfl
        | succ m => rw [whO, ht, if_neg Bool.false_ne_true]
      have k' := k
      simp only [← ho2] at k'
      exact k' σ' H2 r2
    | true =>
      rw [if_pos rfl]
      cases m with
      | zero => rw [hg.2] at ht; cases ht
      | succ m =>
        obtain ⟨hgw, hg2⟩ := hg.2 ht
        rw [whO, ht, if_pos rfl] at ho
        refine ⟨fun σ3 H3 => ∃ t', Rel X.K B H0 ow σ3 H3 (ΓL t') ∧ whG gt tst gw dw m t' ∧ whO (S := S) tst dw m t' = whO tst dw (fuel t0) t0, fun σ3 H3 ⟨t', a, b, c⟩ => ⟨m, Nat.lt_succ_self _, m, t', rfl, a, b, c⟩, H0, t, r2, hgw, ?_⟩
        cases hd : dw t with
        | nx t' => rw [hd] at hg2 ho; exact fun σ3 H3 r3 => ⟨t', r3, hg2, ho⟩
        | ct t' => rw [hd] at hg2 ho; exact fun σ3 H3 r3 => ⟨t', r3, hg2, ho⟩
        | bk t' =>
          rw [hd] at ho
          have k' := k
          have ho2 : (Out.nx t' : Out L R S) = whO tst dw (fuel t0) t0 := ho
          simp only [← ho2] at k'
          exact fun σ3 H3 r3 => k' σ3 H3 r3
        | rt q =>
          rw [hd] at ho
          have k' := k
          have ho2 : (Out.rt q : Out L R S) = whO tst dw (fuel t0) t0 := ho
          simp only [← ho2] at k'
          exact fun v H3 ex => k' v H3 ex⟩
theorem s_break {f : E → S} (hc : ∀ (H0 : Hp) ε σ H, Rel X.K B H0 ow σ H (Γ ε) → Rel X.K B H0 owS σ H (ΓS (f ε))) {ow' : List Nat} {N : Type} {Γ' : N → List (Option D)} : Ds X B ow Γ cr ci owS ΓS (.Break pos) (fun _ => True) (fun ε => .bk (f ε)) ow' Γ' :=
  ⟨ps_break.weaken fun Dn σ H ⟨H0, ε, rl, _, k⟩ => k σ H (hc _ _ _ _ rl)⟩
theorem s_cont {f : E → S} (hc : ∀ (H0 : Hp) ε σ H, Rel X.K B H0 ow σ H (Γ ε) → Rel X.K B H0 owS σ H (ΓS (f ε))) {ow' : List Nat} {N : Type} {Γ' : N → List (Option D)} : Ds X B ow Γ cr ci owS ΓS (.Continue pos) (fun _ => True) (fun ε => .ct (f ε)) ow' Γ' :=
  ⟨ps_continue.weaken fun Dn σ H ⟨H0, ε, rl, _, k⟩ => k σ H (hc _ _ _ _ rl)⟩
end
end Y
namespace Y
open PySem PySem.Spec L2

/-! ### comprehensions -/
section
variable {K : Frag} {B : Bd} {H0 H : Hp} {ow : List Nat} {σ σ' : L2.St} {γ : List (Option D)}
theorem oa_congr (h : ∀ i ∈ ow, σ'[i]? = σ[i]?) : oa σ' ow = oa σ ow := by
  unfold oa
  induction ow with
  | nil => rfl
  | cons j l ih =>
    rw [List.filterMap_cons, List.filterMap_cons, h j List.mem_cons_self, ih fun i hi => h i (List.mem_cons_of_mem _ hi)]
theorem wipe_in {σ : L2.St} {i : Nat} : ∀ {vs : List Nat}, i ∈ vs → i < σ.length → (wipe σ vs)[i]? = some none
  | v :: vs, h, hl => by
    unfold wipe
    by_cases e : v = i
    · subst e
      rw [List.getElem?_set_self (by rw [wipe_length]; exact hl)]
    · rw [List.getElem?_set_ne e]
      exact wipe_in ((List.mem_cons.mp h).resolve_left fun z => e z.symm) hl
theorem wipe_eq {vs js : List Nat} (hl : σ'.length = σ.length) (hj : ∀ j ∈ js, j ∈ vs) (h : ∀ i, i ∉ js → σ'[i]? = (wipe σ vs)[i]?) : wipe σ' vs = wipe σ vs := by
  apply List.ext_getElem?
  intro i
  by_cases hi : i ∈ vs
  · by_cases hlt : i < σ.length
    · rw [wipe_in hi hlt, wipe_in hi (by rw [hl]; exact hlt)]
    · rw [List.getElem?_eq_none (by rw [wipe_length]; omega), List.getElem?_eq_none (by rw [wipe_length]; omega)]
  · rw [wipe_out hi, h i fun z => hi (hj i z)]
theorem wipeG_length (γ : List (Option D)) : ∀ vs : List Nat, (wipeG γ vs).length = γ.length
  | [] => rfl
  | v :: vs => by unfold wipeG; rw [List.length_set, wipeG_length γ vs]
theorem wipeG_some {i : Nat} {d : D} : ∀ {vs : List Nat}, (wipeG γ vs)[i]? = some (some d) → γ[i]? = some (some d) ∧ i ∉ vs
  | [], h => ⟨h, by simp⟩
  | v :: vs, h => by
    unfold wipeG at h
    rcases set_inv h with ⟨_, e, _⟩ | ⟨ne, e⟩
    · cases e
    · obtain ⟨a, b⟩ := wipeG_some e
      exact ⟨a, fun z => (List.mem_cons.mp z).elim (fun q => ne q.symm) b⟩
theorem Rel.wipe {vs : List Nat} (r : Rel K B H0 ow σ H γ) (hv : ∀ i ∈ vs, i ∉ ow) : Rel K B H0 ow (L2.wipe σ vs) H (wipeG γ vs) := by
  have hs : ∀ i ∈ ow, (L2.wipe σ vs)[i]? = σ[i]? := fun i hi => wipe_out fun z => hv i z hi
  have eo : oa (L2.wipe σ vs) ow = oa σ ow := oa_congr hs
  have ef : B.full (L2.wipe σ vs) ow = B.full σ ow := by unfold Bd.full; rw [eo]
  refine ⟨by rw [wipe_length, wipeG_length]; exact r.len, fun i j a hi hj e1 e2 => r.one i j a hi hj (by rw [← hs i hi]; exact e1) (by rw [← hs j hj]; exact e2), fun i d hi e => ?_, fun i d hi e => ?_, by rw [eo]; exact r.trk, r.fr, by rw [eo]; exact r.new, r.a0, by rw [eo]; exact r.xt, fun p hp => ?_⟩
  · obtain ⟨e1, n⟩ := wipeG_some e
    obtain ⟨v, e2, z⟩ := r.fz i d hi e1
    exact ⟨v, by rw [wipe_out n]; exact e2, by rw [ef]; exact z⟩
  · obtain ⟨e1, n⟩ := wipeG_some e
    obtain ⟨a, ws, ds, h1, h2, h3, h4⟩ := r.own i d hi e1
    exact ⟨a, ws, ds, by rw [hs i hi]; exact h1, h2, h3, by rw [ef]; exact h4⟩
  · obtain ⟨h1, h2⟩ := r.io p hp
    exact ⟨h1, by rw [hs 0 h1]; exact h2⟩
end
theorem made_succ {α β : Type} {xs : List α} {i : Nat} {a : α} (t : α → Bool) (f : α → β) (h : xs[i]? = some a) : ((xs.take (i + 1)).filter t).map f = ((xs.take i).filter t).map f ++ (if t a = true then [f a] else []) := by
  rw [List.take_add_one, h, List.filter_append, List.map_append]
  congr 1
  cases ht : t a <;> simp [ht]
def tTB {E : Type} (K : Frag) (ow : List Nat) (Γ : E → List (Option D)) (G : E → Prop) (d : E → Bool) : TT := fun σ H Q => ∃ B', tTs K B' ow Γ true G d (fun q => q) σ H Q
def tSB {E β : Type} (K : Frag) (ow : List Nat) (Γ : E → List (Option D)) (ce : β → D) (G : E → Prop) (d : E → β) : TE := fun σ H Q => ∃ B', tS K B' ow Γ true true ce G d (fun q => q) σ H Q
section
variable {X : Cx} {B : Bd} {ow owS : List Nat} {E R S α β : Type} {Γ : E → List (Option D)} {ΓS : S → List (Option D)} {cr : R → D} {ci : R → List D} {pos spos py : Pos} {tg e elt : Expr} {ifs : List Expr} {c : α → D} {ce : β → D} {G : E → Prop}
  {xs : E → List α} {js vs : List Nat} {g : TG} {ft : α → List (Option D) → List (Option D)} {tt : E × α → Bool} {Gt Ge : E × α → Prop} {de : E × α → β} {own : List (Str × Nat)} {scope : Scope} {pe : Bool} {y : Str}
/-- the reading of a pure comprehension -/
theorem lc_pure (ht : TgR X.K c js g ft) (hjv : ∀ j ∈ js, j ∈ vs) (hvo : ∀ j ∈ vs, j ∉ ow) {σ : L2.St} {H : Hp} {Q : VK}
    (h : tFs X.K B ow Γ true ce (fun ε => G ε ∧ ∀ x ∈ xs ε, Gt (ε, x) ∧ (tt (ε, x) = true → Ge (ε, x))) (fun ε => ((xs ε).filter fun x => tt (ε, x)).map fun x => de (ε, x)) (fun ε => ε) σ H Q) :
    tLc (tIs X.K B ow Γ true c G xs (fun ε => ε)) g (tTB X.K ow (fun q : E × α => ft q.2 (wipeG (Γ q.1) vs)) Gt tt) (tSB X.K ow (fun q : E × α => ft q.2 (wipeG (Γ q.1) vs)) ce Ge de) vs σ H Q := by
  obtain ⟨H0, ε, rl, ⟨g1, g2⟩, k⟩ := h
  refine ⟨H0, ε, rl, g1, fun J H1 f1 r1 w hsz Dl hD => ?_⟩
  have f1' : Fr [] H H1 := f1
  have h0 : H0 Dl = none := (r1.h0 hD).resolve_right (r1.notio hD)
  refine lc_it w (g := g) (tt := tTB X.K ow (fun q : E × α => ft q.2 (wipeG (Γ q.1) vs)) Gt tt) (te := tSB X.K ow (fun q : E × α => ft q.2 (wipeG (Γ q.1) vs)) ce Ge de) (vs := vs) (σ := σ) (Qd := fun H => Q (.ref Dl) H) (fun i H' => Rel X.K (B.plus Dl) H0 ow σ H' (Γ ε) ∧ Fr [] H1 H' ∧ ∃ ws, H' Dl = some (.lst ws) ∧ FzL X.K ((B.plus Dl).full σ ow) H' ws (((((xs ε).take i).filter fun x => tt (ε, x)).map fun x => de (ε, x)).map ce))
    ⟨r1.plus hD, Fr.new hD, [], upd_same, by simpa using FzL.nil⟩ (fun i H' _ p => p.2.1.nil) ?_ ?_
  · rintro i x H' H2 hlt ⟨r', f', ws, hw, hz⟩ ⟨fy, a, ea, hy⟩
    have hmem : a ∈ xs ε := List.mem_of_getElem? ea
    have hA : ∀ b ∈ (B.plus Dl).full σ ow, b ∈ B.full σ ow ∨ H1 b = none := fun b hb => by
      simp only [Bd.full, Bd.base, Bd.plus, List.mem_append, List.mem_cons] at hb ⊢
      rcases hb with (h | h | h) | h
      · exact .inl (.inl (.inl h))
      · rw [h]; exact .inr hD
      · exact .inl (.inl (.inr h))
      · exact .inl (.inr h)
    have zx := hy _ hA (Fr.nil f') r'.tracked
    have r2 := r'.grow fy
    have ew : oa (wipe σ vs) ow = oa σ ow := oa_congr fun i hi => wipe_out fun z => hvo i z hi
    have ef : (B.plus Dl).full (wipe σ vs) ow = (B.plus Dl).full σ ow := by unfold Bd.full; rw [ew]
    refine ht (B.plus Dl) H0 ow (wipe σ vs) H2 (wipeG (Γ ε) vs) x a _ (fun j hj => hvo j (hjv j hj)) (r2.wipe hvo) (by rw [ef]; exact zx) fun σ2 r3 hs2 hl2 => ?_
    refine ⟨wipe_eq (by rw [hl2, wipe_length]) hjv hs2, B.plus Dl, H0, (ε, a), r3, (g2 a hmem).1, fun H3 f3 r4 => ?_⟩
    have f3' : Fr [] H2 H3 := f3
    have fall : Fr [] H' H3 := fy.trans f3'
    have eo2 : oa σ2 ow = oa σ ow := (oa_congr fun i hi => hs2 i fun z => hvo i (hjv i z) hi).trans ew
    have hlen : ws.length ≤ i := by
      have h1 := hz.length
      have h2 := List.length_filter_le (fun x => tt (ε, x)) ((xs ε).take i)
      have h3 : ((xs ε).take i).length ≤ i := by rw [List.length_take]; exact Nat.min_le_left _ _
      simp only [List.length_map] at h1
      omega
    show (if tt (ε, a) = true then _ else _)
    cases hb : tt (ε, a) with
    | false =>
      rw [if_neg Bool.false_ne_true]
      refine ⟨r'.grow fall, f'.trans fall, ws, fall _ _ hw (by simp), ?_⟩
      rw [made_succ _ _ ea, hb, if_neg Bool.false_ne_true, List.append_nil]
      exact hz.fr fall.nil
    | true =>
      rw [if_pos rfl]
      refine ⟨B.plus Dl, H0, (ε, a), r4, (g2 a hmem).2 hb, fun v H4 f4 r5 z5 => ⟨ws, ?_, ?_, ?_⟩⟩
      · have f4' : Fr [] H3 H4 := f4
        exact (fall.trans f4') _ _ hw (by simp)
      · rw [sizeLine_eq]
        have : (xs ε).length ≤ 16777216 := hsz
        omega
      · have f4' : Fr [] H3 H4 := f4
        have fa : Fr [] H' H4 := fall.trans f4'
        have hDx : Dl ∈ (B.plus Dl).ex := by simp [Bd.plus]
        have hDf : Dl ∈ (B.plus Dl).full σ ow := List.mem_append_left _ (List.mem_append_right _ hDx)
        refine ⟨(r'.grow fa).writeEx hDx (r1.notio hD) h0, fun b o eb nb => ?_, ws ++ [v], upd_same, ?_⟩
        · have hbD : b ≠ Dl := fun z => by rw [z, hD] at eb; cases eb
          rw [upd_ne hbD]
          exact (f'.trans fa) b o eb nb
        · rw [made_succ _ _ ea, hb, if_pos rfl, List.map_append]
          have z5' : Fz X.K ((B.plus Dl).full σ ow) H4 v (ce (de (ε, a))) := by
            have z6 : Fz X.K ((B.plus Dl).full σ2 ow) H4 v (ce (de (ε, a))) := z5
            unfold Bd.full at z6 ⊢
            rw [eo2] at z6
            exact z6
          exact ((hz.fr fa.nil).fr (Fr.at hDf)).append (.cons (z5'.fr (Fr.at hDf)) .nil)
  · rintro H' ⟨r', f', ws, hw, hz⟩
    rw [List.take_length] at hz
    refine k Dl H' ws (f1'.back hD) (f1'.trans f') r' hw ?_ hz
    have h1 := hz.length
    have h2 := List.length_filter_le (fun x => tt (ε, x)) (xs ε)
    simp only [List.length_map] at h1
    have : (xs ε).length ≤ 16777216 := hsz
    show ws.length ≤ 16777216
    omega
/-- a clause's tests -/
structure DT (X : Cx) (ow : List Nat) {E : Type} (Γ : E → List (Option D)) (ifs : List Expr) (G : E → Prop) (d : E → Bool) : Prop where
  pts : PTs X ifs (tTB X.K ow Γ G d)
theorem dt_nil {E : Type} {Γ : E → List (Option D)} : DT X ow Γ [] (fun _ => True) (fun _ => true) := ⟨⟨fun pins s σ H Q I ⟨B', H0, ε, r, _, k⟩ => pts_nil.run pins s σ H Q I (k H (Fr.refl _ _) r)⟩⟩
theorem dt_one {E : Type} {Γ : E → List (Option D)} {c : Expr} {G : E → Prop} {d : E → Bool} (h : ∀ B', Dt X B' ow Γ true c G d (fun q => q)) : DT X ow Γ [c] G d :=
  ⟨pts_one ⟨fun pins s σ H Q I ⟨B', q⟩ => (h B').pt.run pins s σ H Q I q⟩⟩
theorem d_lc (hi : DI X B ow Γ true tg e c G xs (fun ε => ε)) (ok : BlkOk X.N X.env.scope scope own) (ht : TgR X.K c js g ft) (hg : ∀ (s : Shared) (H : Hp) (C : Addr) (cl : List (Str × Addr)) (fp : List Addr), PG (X.blk s H scope (compEnvC scope cl C X.env) fp) tg g)
    (hT : ∀ (s : Shared) (H : Hp) (C : Addr) (cl : List (Str × Addr)) (fp : List Addr), DT (X.blk s H scope (compEnvC scope cl C X.env) fp) ow (fun q : E × α => ft q.2 (wipeG (Γ q.1) (own.map (·.2)))) ifs Gt tt)
    (hE : ∀ (s : Shared) (H : Hp) (C : Addr) (cl : List (Str × Addr)) (fp : List Addr) (B' : Bd), De (X.blk s H scope (compEnvC scope cl C X.env) fp) B' ow (fun q : E × α => ft q.2 (wipeG (Γ q.1) (own.map (·.2)))) true true elt ce Ge de (fun q => q))
    (hjv : ∀ j ∈ js, j ∈ own.map (·.2) := by decide) (hvo : ∀ j ∈ own.map (·.2), j ∉ ow := by decide) (hN : X.N.Nodup := by assumption) (hc : X.calm = true := by rfl) (hs : ∀ x, foldedSetIterable e X.env x = pure x := by intro _; rfl) :
    DL X B ow Γ true (.ListComp elt [⟨tg, e, ifs, 0⟩] scope pos) ce (fun ε => G ε ∧ ∀ x ∈ xs ε, Gt (ε, x) ∧ (tt (ε, x) = true → Ge (ε, x))) (fun ε => ((xs ε).filter fun x => tt (ε, x)).map fun x => de (ε, x)) (fun ε => ε) :=
  ⟨(pe_lc hc hN hi.pi ok hg (fun s H C cl fp => (hT s H C cl fp).pts) (fun s H C cl fp => ⟨fun pins s' σ H' Q I ⟨B', q⟩ => (hE s H C cl fp B').pe.run pins s' σ H' Q I q⟩) hs).weaken fun σ H Q h => lc_pure ht hjv hvo h⟩
/-- name = [..] on one line: a frozen list | one of one's own -/
theorem s_asgLc (i : Nat) (hsw : swapsWith (.ListComp elt [⟨tg, e, ifs, 0⟩] scope pos) (some (.Name y py)) spos.line X.env = pure true) (hi : DI X B ow Γ true tg e c G xs (fun ε => ε)) (ok : BlkOk X.N X.env.scope scope own) (ht : TgR X.K c js g ft)
    (hg : ∀ (s : Shared) (H : Hp) (C : Addr) (cl : List (Str × Addr)) (fp : List Addr), PG (X.blk s H scope (compEnvC scope cl C X.env) fp) tg g)
    (hT : ∀ (s : Shared) (H : Hp) (C : Addr) (cl : List (Str × Addr)) (fp : List Addr), DT (X.blk s H scope (compEnvC scope cl C X.env) fp) ow (fun q : E × α => ft q.2 (wipeG (Γ q.1) (own.map (·.2)))) ifs Gt tt)
    (hE : ∀ (s : Shared) (H : Hp) (C : Addr) (cl : List (Str × Addr)) (fp : List Addr) (B' : Bd), De (X.blk s H scope (compEnvC scope cl C X.env) fp) B' ow (fun q : E × α => ft q.2 (wipeG (Γ q.1) (own.map (·.2)))) true true elt ce Ge de (fun q => q))
    (hio : i ∉ ow := by decide) (hjv : ∀ j ∈ js, j ∈ own.map (·.2) := by decide) (hvo : ∀ j ∈ own.map (·.2), j ∉ ow := by decide) (hy : X.N[i]? = some y := by rfl) (hyl : X.env.scope.names.lookup y = some .local := by rfl)
    (hN : X.N.Nodup := by assumption) (hc : X.calm = true := by rfl) (hs : ∀ x, foldedSetIterable e X.env x = pure x := by intro _; rfl) :
    Ds X B ow Γ cr ci owS ΓS (.Assign [.Name y py] (.ListComp elt [⟨tg, e, ifs, 0⟩] scope pos) spos) (fun ε => G ε ∧ ∀ x ∈ xs ε, Gt (ε, x) ∧ (tt (ε, x) = true → Ge (ε, x))) (fun ε => .nx (ε, ((xs ε).filter fun x => tt (ε, x)).map fun x => de (ε, x))) ow
      (fun q : E × List β => (Γ q.1).set i (some (cL ce q.2))) :=
  ⟨(ps_setLc (te := tSB X.K ow (fun q : E × α => ft q.2 (wipeG (Γ q.1) (own.map (·.2)))) ce Ge de) hc hN hy hyl hsw hi.pi ok hg (fun s H C cl fp => (hT s H C cl fp).pts) (fun s H C cl fp => ⟨fun pins s' σ H' Q I ⟨B', q⟩ => (hE s H C cl fp B').pe.run pins s' σ H' Q I q⟩) hs).weaken fun Dn σ H ⟨H0, ε, rl, g, k⟩ => by
    refine lc_pure (Q := fun x H1 => Dn.nx (σ.set i (some x)) H1) ht hjv hvo ⟨H0, ε, rl, g, fun q H' vs hq f r hv hz z => ?_⟩
    have z2 : Fz X.K (B.full σ ow) H' (.ref q) (cL ce (((xs ε).filter fun x => tt (ε, x)).map fun x => de (ε, x))) := by
      refine .lst ⟨⟨fun h => ?_, hv⟩, hz⟩ (z.sub full_plus)
      rcases mem_full.mp h with h | h
      · exact rl.base_trk q h hq
      · exact (r.xt q (by simp [Bd.plus])).2 h
    exact k _ H' (r.unplus.set hio z2)⟩
theorem s_ownLc (i : Nat) (hsw : swapsWith (.ListComp elt [⟨tg, e, ifs, 0⟩] scope pos) (some (.Name y py)) spos.line X.env = pure true) (hi : DI X B ow Γ true tg e c G xs (fun ε => ε)) (ok : BlkOk X.N X.env.scope scope own) (ht : TgR X.K c js g ft)
    (hg : ∀ (s : Shared) (H : Hp) (C : Addr) (cl : List (Str × Addr)) (fp : List Addr), PG (X.blk s H scope (compEnvC scope cl C X.env) fp) tg g)
    (hT : ∀ (s : Shared) (H : Hp) (C : Addr) (cl : List (Str × Addr)) (fp : List Addr), DT (X.blk s H scope (compEnvC scope cl C X.env) fp) ow (fun q : E × α => ft q.2 (wipeG (Γ q.1) (own.map (·.2)))) ifs Gt tt)
    (hE : ∀ (s : Shared) (H : Hp) (C : Addr) (cl : List (Str × Addr)) (fp : List Addr) (B' : Bd), De (X.blk s H scope (compEnvC scope cl C X.env) fp) B' ow (fun q : E × α => ft q.2 (wipeG (Γ q.1) (own.map (·.2)))) true true elt ce Ge de (fun q => q))
    {ow' : List Nat} (hl : ∀ ε, i < (Γ ε).length) (h' : ∀ j, j ∈ ow' ↔ j ∈ ow ∨ j = i) (h0 : B.io ≠ none → i ≠ 0) (hjv : ∀ j ∈ js, j ∈ own.map (·.2) := by decide) (hvo : ∀ j ∈ own.map (·.2), j ∉ ow := by decide) (hy : X.N[i]? = some y := by rfl)
    (hyl : X.env.scope.names.lookup y = some .local := by rfl) (hN : X.N.Nodup := by assumption) (hc : X.calm = true := by rfl) (hs : ∀ x, foldedSetIterable e X.env x = pure x := by intro _; rfl) :
    Ds X B ow Γ cr ci owS ΓS (.Assign [.Name y py] (.ListComp elt [⟨tg, e, ifs, 0⟩] scope pos) spos) (fun ε => G ε ∧ ∀ x ∈ xs ε, Gt (ε, x) ∧ (tt (ε, x) = true → Ge (ε, x))) (fun ε => .nx (ε, ((xs ε).filter fun x => tt (ε, x)).map fun x => de (ε, x))) ow'
      (fun q : E × List β => (Γ q.1).set i (some (.list (q.2.map ce)))) :=
  ⟨(ps_setLc (te := tSB X.K ow (fun q : E × α => ft q.2 (wipeG (Γ q.1) (own.map (·.2)))) ce Ge de) hc hN hy hyl hsw hi.pi ok hg (fun s H C cl fp => (hT s H C cl fp).pts) (fun s H C cl fp => ⟨fun pins s' σ H' Q I ⟨B', q⟩ => (hE s H C cl fp B').pe.run pins s' σ H' Q I q⟩) hs).weaken fun Dn σ H ⟨H0, ε, rl, g, k⟩ =>
    lc_pure (Q := fun x H1 => Dn.nx (σ.set i (some x)) H1) ht hjv hvo ⟨H0, ε, rl, g, fun q H' vs hq f r hv hz z => k _ H' (r.setOwn hv hz ((rl.h0 hq).resolve_right (rl.notio hq)) (fun h => rl.base_trk q h hq) z (hl _) h' h0)⟩⟩
end
end Y
namespace Y
open PySem PySem.Spec L2

/-! ### more expressions -/
section
variable {X : Cx} {B : Bd} {ow : List Nat} {E α β γ : Type} {Γ : E → List (Option D)} {p p1 p2 p3 s : Bool} {e e1 e2 e3 : Expr} {pos : Pos} {c : α → D} {G G1 G2 G3 : E → Prop} {d d1 d2 : E → α} {t t1 t2 : E → Bool} {u : E → E}
theorem d_if (hc : Dt X B ow Γ true e G t (fun ε => ε)) (h1 : De X B ow Γ true s e1 c G1 d1 (fun ε => ε)) (h2 : De X B ow Γ true s e2 c G2 d2 (fun ε => ε)) :
    De X B ow Γ true s (.IfExp e e1 e2 pos) c (fun ε => G ε ∧ (t ε = true → G1 ε) ∧ (t ε = false → G2 ε)) (fun ε => if t ε = true then d1 ε else d2 ε) (fun ε => ε) :=
  ⟨(pe_ifExp hc.pt h1.pe h2.pe).weaken fun σ H Q ⟨H0, ε, rl, ⟨g, g1, g2⟩, k⟩ => ⟨H0, ε, rl, g, fun H1 f1 r1 => by
    have f1' : Fr [] H H1 := f1
    cases h : t ε with
    | true =>
      show tS X.K B ow Γ true s c G1 d1 (fun ε => ε) σ H1 Q
      simp only [h, if_true] at k
      exact ⟨H0, ε, r1, g1 h, fun v H2 f2 r2 z2 => k v H2 (f1'.trans f2) r2 z2⟩
    | false =>
      show tS X.K B ow Γ true s c G2 d2 (fun ε => ε) σ H1 Q
      simp only [h, Bool.false_eq_true, if_false] at k
      exact ⟨H0, ε, r1, g2 h, fun v H2 f2 r2 z2 => k v H2 (f1'.trans f2) r2 z2⟩⟩⟩
theorem d_and {es : List Expr} (h1 : De X B ow Γ p1 true e1 cB G1 t1 (fun ε => ε)) (h2 : De X B ow Γ p2 true (.BoolOp .And (e2 :: es) pos) cB G2 t2 (fun ε => ε)) :
    De X B ow Γ (p1 && p2) true (.BoolOp .And (e1 :: e2 :: es) pos) cB (fun ε => G1 ε ∧ (t1 ε = true → G2 ε)) (fun ε => t1 ε && t2 ε) (fun ε => ε) :=
  ⟨(pe_and h1.pe h2.pe).weaken fun σ H Q ⟨H0, ε, rl, ⟨g1, g2⟩, k⟩ => ⟨H0, ε, rl, g1, fun v H1 f1 r1 z1 => ⟨_, z1.bl_inv, by
    cases h : t1 ε with
    | true =>
      rw [if_pos rfl]
      refine ⟨H0, ε, r1, g2 h, fun w H2 f2 r2 z2 => k w H2 ((cond_fr f1 p2).trans (cond_fr2 f2 p1)) r2 ?_⟩
      simpa [h] using z2
    | false =>
      rw [if_neg Bool.false_ne_true]
      refine k _ H1 (cond_fr f1 p2) r1 ?_
      simp only [h, Bool.false_and]
      exact .bl _⟩⟩⟩
theorem d_or {es : List Expr} (h1 : De X B ow Γ p1 true e1 cB G1 t1 (fun ε => ε)) (h2 : De X B ow Γ p2 true (.BoolOp .Or (e2 :: es) pos) cB G2 t2 (fun ε => ε)) :
    De X B ow Γ (p1 && p2) true (.BoolOp .Or (e1 :: e2 :: es) pos) cB (fun ε => G1 ε ∧ (t1 ε = false → G2 ε)) (fun ε => t1 ε || t2 ε) (fun ε => ε) :=
  ⟨(pe_or h1.pe h2.pe).weaken fun σ H Q ⟨H0, ε, rl, ⟨g1, g2⟩, k⟩ => ⟨H0, ε, rl, g1, fun v H1 f1 r1 z1 => ⟨_, z1.bl_inv, by
    cases h : t1 ε with
    | true =>
      rw [if_pos rfl]
      refine k _ H1 (cond_fr f1 p2) r1 ?_
      simp only [h, Bool.true_or]
      exact .bl _
    | false =>
      rw [if_neg Bool.false_ne_true]
      refine ⟨H0, ε, r1, g2 h, fun w H2 f2 r2 z2 => k w H2 ((cond_fr f1 p2).trans (cond_fr2 f2 p1)) r2 ?_⟩
      simpa [h] using z2⟩⟩⟩
theorem d_one {op} (h : De X B ow Γ p s e c G d u) : De X B ow Γ p s (.BoolOp op [e] pos) c G d u := ⟨pe_one h.pe⟩
theorem d_not (h : De X B ow Γ p s e cB G t u) : De X B ow Γ p s (.UnaryOp .Not e pos) cB G (fun ε => !t ε) u :=
  ⟨(pe_not h.pe).weaken fun σ H Q ⟨H0, ε, rl, g, k⟩ => ⟨H0, ε, rl, g, fun v H1 f1 r1 z1 => ⟨_, z1.bl_inv, k _ H1 f1 r1 (.bl _)⟩⟩⟩
/-- tests of pure parts -/
theorem w_andP {es : List Expr} (h1 : Dt X B ow Γ p1 e1 G1 t1 (fun ε => ε)) (h2 : Dw X B ow Γ p2 (.BoolOp .And (e2 :: es) pos) G2 t2 (fun ε => ε)) :
    Dw X B ow Γ (p1 && p2) (.BoolOp .And (e1 :: e2 :: es) pos) (fun ε => G1 ε ∧ (t1 ε = true → G2 ε)) (fun ε => t1 ε && t2 ε) (fun ε => ε) := (w_and h1 h2).pure fun _ => ite_same _
theorem w_orP {es : List Expr} (h1 : Dt X B ow Γ p1 e1 G1 t1 (fun ε => ε)) (h2 : Dw X B ow Γ p2 (.BoolOp .Or (e2 :: es) pos) G2 t2 (fun ε => ε)) :
    Dw X B ow Γ (p1 && p2) (.BoolOp .Or (e1 :: e2 :: es) pos) (fun ε => G1 ε ∧ (t1 ε = false → G2 ε)) (fun ε => t1 ε || t2 ε) (fun ε => ε) := (w_or h1 h2).pure fun _ => ite_same _
/-- a op b op' c of ints -/
theorem d_chain {op op' : CmpOp} {r r' : R2} {f f' : Int → Int → Bool} {a b b' : E → Int} (ho : OpR X (compareOp op) r) (ho' : OpR X (compareOp op') r') (hv : Op2 X.K r cI cI cB (fun _ _ => True) f) (hv' : Op2 X.K r' cI cI cB (fun _ _ => True) f')
    (h1 : De X B ow Γ true s e1 cI G1 a (fun ε => ε)) (h2 : De X B ow Γ true s e2 cI G2 b (fun ε => ε)) (h3 : De X B ow Γ true s e3 cI G3 b' (fun ε => ε)) (hm : lastMarks [op, op'] [e2, e3] = false := by with_unfolding_all rfl) :
    De X B ow Γ true s (.Compare e1 [op, op'] [e2, e3] pos) cB (fun ε => G1 ε ∧ G2 ε ∧ (f (a ε) (b ε) = true → G3 ε)) (fun ε => f (a ε) (b ε) && f' (b ε) (b' ε)) (fun ε => ε) :=
  ⟨(pe_chain ho ho' h1.pe h2.pe h3.pe hm).weaken fun σ H Q ⟨H0, ε, rl, ⟨g1, g2, g3⟩, k⟩ => ⟨H0, ε, rl, g1, fun v H1 f1 r1 z1 => ⟨H0, ε, r1, g2, fun w H2 f2 r2 z2 => by
    have f1' : Fr [] H H1 := f1
    have f2' : Fr [] H1 H2 := f2
    refine hv _ H2 (a ε) (b ε) v w _ (r2.tr s) (z1.fr f2'.nil) z2 trivial fun z H3 f3 z3 => ⟨_, z3.bl_inv, ?_⟩
    have r3 := r2.grow f3
    cases h : f (a ε) (b ε) with
    | false =>
      rw [if_neg Bool.false_ne_true]
      refine k _ H3 ((f1'.trans f2').trans f3) r3 ?_
      simp only [h, Bool.false_and]
      exact .bl _
    | true =>
      rw [if_pos rfl]
      refine ⟨H0, ε, r3, g3 h, fun w' H4 f4 r4 z4 => ?_⟩
      have f4' : Fr [] H3 H4 := f4
      refine hv' _ H4 (b ε) (b' ε) w w' _ (r4.tr s) ((z2.fr f3.nil).fr f4'.nil) z4 trivial fun z' H5 f5 z5 => k _ H5 ((((f1'.trans f2').trans f3).trans f4').trans f5) (r4.grow f5) ?_
      simpa [h] using z5⟩⟩⟩
theorem t_chain {op op' : CmpOp} {r r' : R2} {f f' : Int → Int → Bool} {a b b' : E → Int} (ho : OpR X (compareOp op) r) (ho' : OpR X (compareOp op') r') (hv : Op2 X.K r cI cI cB (fun _ _ => True) f) (hv' : Op2 X.K r' cI cI cB (fun _ _ => True) f')
    (h1 : De X B ow Γ true s e1 cI G1 a (fun ε => ε)) (h2 : De X B ow Γ true s e2 cI G2 b (fun ε => ε)) (h3 : De X B ow Γ true s e3 cI G3 b' (fun ε => ε)) (hm : lastMarks [op, op'] [e2, e3] = false := by with_unfolding_all rfl) :
    Dt X B ow Γ true (.Compare e1 [op, op'] [e2, e3] pos) (fun ε => G1 ε ∧ G2 ε ∧ (f (a ε) (b ε) = true → G3 ε)) (fun ε => f (a ε) (b ε) && f' (b ε) (b' ε)) (fun ε => ε) :=
  ⟨(pt_chain ho ho' h1.pe h2.pe h3.pe hm).weaken fun σ H Q ⟨H0, ε, rl, ⟨g1, g2, g3⟩, k⟩ => ⟨H0, ε, rl, g1, fun v H1 f1 r1 z1 => ⟨H0, ε, r1, g2, fun w H2 f2 r2 z2 => by
    have f1' : Fr [] H H1 := f1
    have f2' : Fr [] H1 H2 := f2
    refine hv _ H2 (a ε) (b ε) v w _ (r2.tr s) (z1.fr f2'.nil) z2 trivial fun z H3 f3 z3 => ⟨_, z3.bl_inv, ?_⟩
    have r3 := r2.grow f3
    cases h : f (a ε) (b ε) with
    | false =>
      rw [if_neg Bool.false_ne_true]
      simp only [h, Bool.false_and] at k
      exact ⟨false, rfl, k H3 ((f1'.trans f2').trans f3) r3⟩
    | true =>
      rw [if_pos rfl]
      simp only [h, Bool.true_and] at k
      refine ⟨H0, ε, r3, g3 h, fun w' H4 f4 r4 z4 => ?_⟩
      have f4' : Fr [] H3 H4 := f4
      exact hv' _ H4 (b ε) (b' ε) w w' _ (r4.tr s) ((z2.fr f3.nil).fr f4'.nil) z4 trivial fun z' H5 f5 z5 => ⟨_, z5.bl_inv, k H5 ((((f1'.trans f2').trans f3).trans f4').trans f5) (r4.grow f5)⟩⟩⟩⟩
/-- the truth of a value -/
theorem t_truth {b : α → Bool} (h : De X B ow Γ p s e c G d u) (hb : ∀ (A : List Addr) (H : Hp) (v : V) (x : α), Fz X.K A H v (c x) → TruV X.K v H (b x)) (he : ∀ whole, isTrue e X.env whole = (do let v ← whole; standAt e.pos; holding [v] (truthy v)) := by intro _; rfl) :
    Dt X B ow Γ p e G (fun ε => b (d ε)) u :=
  ⟨(pt_truth h.pe he).weaken fun σ H Q ⟨H0, ε, rl, g, k⟩ => ⟨H0, ε, rl, g, fun v H1 f1 r1 z1 => ⟨_, hb _ H1 v _ z1, k H1 f1 r1⟩⟩⟩
end
section
variable {K : Frag} {A : List Addr} {H : Hp} {v : V} {α β : Type}
theorem tru_int (A : List Addr) (H : Hp) (v : V) (x : Int) (z : Fz K A H v (cI x)) : TruV K v H (x != 0) := by cases z.int_inv; rfl
theorem tru_list {c : List α → D} {ce : α → D} (hc : IsSq c ce) (A : List Addr) (H : Hp) (v : V) (x : List α) (z : Fz K A H v (c x)) : TruV K v H (!x.isEmpty) := by
  rcases hc with h | h
  · rw [h] at z
    obtain ⟨a, vs, rfl, n, l⟩ := z.lst_inv
    refine .inl ⟨vs, n.sq, ?_⟩
    have := l.length
    cases vs <;> cases x <;> simp at this ⊢
  · rw [h] at z
    obtain ⟨a, vs, rfl, n, l⟩ := z.tup_inv
    refine .inr (.inl ⟨vs, n.sq, ?_⟩)
    have := l.length
    cases vs <;> cases x <;> simp at this ⊢
/-- is None -/
def rIsNon : R2 := fun x y H Q => y = .non ∧ Q (.bl (decide (x = .non))) H
def rNotNon : R2 := fun x y H Q => y = .non ∧ Q (.bl (!decide (x = .non))) H
theorem fz_non {c : α → D} (hc : ∀ x, c x ≠ .none) {o : Option α} (z : Fz K A H v (cO c o)) : decide (v = .non) = o.isNone := by
  cases o with
  | none => cases z.non_inv; rfl
  | some x =>
    have z' : Fz K A H v (c x) := z
    refine decide_eq_false fun e => ?_
    subst e
    have := hc x
    generalize c x = d at z' this
    cases z'
    exact this rfl
theorem v_isO {c : α → D} (hc : ∀ x, c x ≠ .none) : Op2 K rIsNon (cO c) cN cB (fun _ _ => True) (fun o _ => o.isNone) := fun A H x y v w Q _ z1 z2 _ k => by
  cases z2.non_inv
  exact ⟨rfl, k _ H (Fr.refl _ _) (by rw [fz_non hc z1]; exact .bl _)⟩
theorem v_notO {c : α → D} (hc : ∀ x, c x ≠ .none) : Op2 K rNotNon (cO c) cN cB (fun _ _ => True) (fun o _ => !o.isNone) := fun A H x y v w Q _ z1 z2 _ k => by
  cases z2.non_inv
  exact ⟨rfl, k _ H (Fr.refl _ _) (by rw [fz_non hc z1]; exact .bl _)⟩
/-- a value that is never None -/
theorem v_isX {c : α → D} (hc : ∀ x, c x ≠ .none) : Op2 K rIsNon c cN cB (fun _ _ => True) (fun _ _ => false) := fun A H x y v w Q _ z1 z2 _ k => by
  cases z2.non_inv
  have e : decide (v = .non) = false := decide_eq_false fun e => by
    subst e
    have := hc x
    generalize c x = d at z1 this
    cases z1
    exact this rfl
  exact ⟨rfl, k _ H (Fr.refl _ _) (by rw [e]; exact .bl _)⟩
theorem v_notX {c : α → D} (hc : ∀ x, c x ≠ .none) : Op2 K rNotNon c cN cB (fun _ _ => True) (fun _ _ => true) := fun A H x y v w Q _ z1 z2 _ k => by
  cases z2.non_inv
  have e : decide (v = .non) = false := decide_eq_false fun e => by
    subst e
    have := hc x
    generalize c x = d at z1 this
    cases z1
    exact this rfl
  exact ⟨rfl, k _ H (Fr.refl _ _) (by rw [e]; exact .bl _)⟩
theorem v_isN : Op2 K rIsNon cN cN cB (fun _ _ => True) (fun _ _ => true) := fun A H x y v w Q _ z1 z2 _ k => by
  cases z2.non_inv; cases z1.non_inv
  exact ⟨rfl, k _ H (Fr.refl _ _) (.bl _)⟩
theorem v_notN : Op2 K rNotNon cN cN cB (fun _ _ => True) (fun _ _ => false) := fun A H x y v w Q _ z1 z2 _ k => by
  cases z2.non_inv; cases z1.non_inv
  exact ⟨rfl, k _ H (Fr.refl _ _) (.bl _)⟩
/-- data are equal -/
structure Cq (n : Nat) (c : α → D) : Prop where
  lay : ∀ x, (c x).canLay0 = true
  dep : ∀ x, (c x).depth ≤ n
theorem Cq.shaped {n : Nat} {c : α → D} (h : Cq n c) (hn : n ≤ 64) (x : α) : SeqAt.shaped (c x) = true := by
  show ((c x).canLay0 && decide ((c x).depth ≤ 64)) = true
  rw [Bool.and_eq_true]
  exact ⟨h.lay x, decide_eq_true (Nat.le_trans (h.dep x) hn)⟩
theorem cq_I : Cq 0 cI := ⟨fun _ => by simp [PyData.canLay0], fun _ => by simp [PyData.depth]⟩
theorem cq_B : Cq 0 cB := ⟨fun _ => by simp [PyData.canLay0], fun _ => by simp [PyData.depth]⟩
theorem cq_N : Cq 0 cN := ⟨fun _ => by simp [PyData.canLay0], fun _ => by simp [PyData.depth]⟩
theorem canLayAll_map {c : α → D} (h : ∀ x, (c x).canLay0 = true) : ∀ xs : List α, PyData.canLayAll0 (xs.map c) = true
  | [] => by simp [PyData.canLayAll0]
  | x :: xs => by simp [PyData.canLayAll0, h x, canLayAll_map h xs]
theorem depthAll_mapc {n : Nat} {c : α → D} (h : ∀ x, (c x).depth ≤ n) : ∀ xs : List α, PyData.depthAll (xs.map c) ≤ n
  | [] => by simp [PyData.depthAll]
  | x :: xs => by
    have h1 := h x
    have h2 := depthAll_mapc h xs
    simp only [List.map_cons, PyData.depthAll]
    omega
theorem cq_T {n : Nat} {c : α → D} (h : Cq n c) : Cq (n + 1) (cT c) := ⟨fun xs => by simp only [PyData.canLay0]; exact canLayAll_map h.lay xs, fun xs => by
  have := depthAll_mapc h.dep xs
  simp only [PyData.depth]; omega⟩
theorem cq_L {n : Nat} {c : α → D} (h : Cq n c) : Cq (n + 1) (cL c) := ⟨fun xs => by simp only [PyData.canLay0]; exact canLayAll_map h.lay xs, fun xs => by
  have := depthAll_mapc h.dep xs
  simp only [PyData.depth]; omega⟩
theorem cq_O {n : Nat} {c : α → D} (h : Cq n c) : Cq n (cO c) := ⟨fun o => by cases o with | none => simp [cO, PyData.canLay0] | some x => exact h.lay x, fun o => by cases o with | none => simp [cO, PyData.depth] | some x => exact h.dep x⟩
theorem cq_1 {n : Nat} {c : α → D} (h : Cq n c) : Cq (n + 1) (c1 c) := ⟨fun x => by simp [PyData.canLay0, PyData.canLayAll0, h.lay x], fun x => by
  have := h.dep x
  simp only [PyData.depth, PyData.depthAll]; omega⟩
theorem cq_2 {n m : Nat} {c : α → D} {c' : β → D} (h : Cq n c) (h' : Cq m c') : Cq (max n m + 1) (c2 c c') := ⟨fun x => by simp [PyData.canLay0, PyData.canLayAll0, h.lay x.1, h'.lay x.2], fun x => by
  have := h.dep x.1
  have := h'.dep x.2
  simp only [PyData.depth, PyData.depthAll]; omega⟩
theorem cq_3 {n m l : Nat} {γ : Type} {c : α → D} {c' : β → D} {c'' : γ → D} (h : Cq n c) (h' : Cq m c') (h'' : Cq l c'') : Cq (max n (max m l) + 1) (c3 c c' c'') := ⟨fun x => by simp [PyData.canLay0, PyData.canLayAll0, h.lay x.1, h'.lay x.2.1, h''.lay x.2.2], fun x => by
  have := h.dep x.1
  have := h'.dep x.2.1
  have := h''.dep x.2.2
  simp only [PyData.depth, PyData.depthAll]; omega⟩
/-- == of data: any two codecs -/
theorem v_eqD {n m : Nat} {c : α → D} {c' : β → D} (h : Cq n c) (h' : Cq m c') (hn : n ≤ 64 := by decide) (hm : m ≤ 64 := by decide) : Op2 K (rEqD K) c c' cB (fun _ _ => True) (fun x y => PyData.eqv (c x) (c' y)) := fun A H x y v w Q _ z1 z2 _ k =>
  ⟨_, _, z1.dp, z2.dp, h.shaped hn x, h'.shaped hm y, k _ H (Fr.refl _ _) (.bl _)⟩
theorem v_neD {n m : Nat} {c : α → D} {c' : β → D} (h : Cq n c) (h' : Cq m c') (hn : n ≤ 64 := by decide) (hm : m ≤ 64 := by decide) : Op2 K (rNeD K) c c' cB (fun _ _ => True) (fun x y => !PyData.eqv (c x) (c' y)) := fun A H x y v w Q _ z1 z2 _ k =>
  ⟨_, _, z1.dp, z2.dp, h.shaped hn x, h'.shaped hm y, k _ H (Fr.refl _ _) (.bl _)⟩
theorem v_eqG {c : α → D} {c' : β → D} : Op2 K (rEqD K) c c' cB (fun x y => SeqAt.shaped (c x) = true ∧ SeqAt.shaped (c' y) = true) (fun x y => PyData.eqv (c x) (c' y)) := fun A H x y v w Q _ z1 z2 hc k => ⟨_, _, z1.dp, z2.dp, hc.1, hc.2, k _ H (Fr.refl _ _) (.bl _)⟩
theorem v_neG {c : α → D} {c' : β → D} : Op2 K (rNeD K) c c' cB (fun x y => SeqAt.shaped (c x) = true ∧ SeqAt.shaped (c' y) = true) (fun x y => !PyData.eqv (c x) (c' y)) := fun A H x y v w Q _ z1 z2 hc k => ⟨_, _, z1.dp, z2.dp, hc.1, hc.2, k _ H (Fr.refl _ _) (.bl _)⟩
theorem v_eqDy : Op2 K (rEqD K) cD cD cB (fun x y => SeqAt.shaped x = true ∧ SeqAt.shaped y = true) (fun x y => PyData.eqv x y) := fun A H x y v w Q _ z1 z2 hc k => ⟨_, _, z1.dp, z2.dp, hc.1, hc.2, k _ H (Fr.refl _ _) (.bl _)⟩
end

/-! ### slices, sums of tuples, lists -/
section
variable {X : Cx} {B : Bd} {ow : List Nat} {E α β : Type} {Γ : E → List (Option D)} {p s : Bool} {e e1 e2 : Expr} {pos p2 : Pos} {c : α → D} {G G1 G2 : E → Prop} {d : E → List α} {ds : E → Str} {u : E → E}
/-- a part of a slice: pure -/
structure DO (X : Cx) (B : Bd) (ow : List Nat) {E : Type} (Γ : E → List (Option D)) (e : Option Expr) (G : E → Prop) (d : E → Option Int) : Prop where
  po : PO X e (fun σ H Q => ∃ H0 ε, Rel X.K B H0 ow σ H (Γ ε) ∧ G ε ∧ ∀ H', Fr [] H H' → Rel X.K B H0 ow σ H' (Γ ε) → Q (d ε) H')
theorem o_none : DO X B ow Γ none (fun _ => True) (fun _ => none) := ⟨⟨fun pins s σ H Q I ⟨H0, ε, r, _, k⟩ => po_none.run pins s σ H Q I (k H (Fr.refl _ _) r)⟩⟩
theorem o_some {di : E → Int} (h : De X B ow Γ true true e cI G di (fun ε => ε)) : DO X B ow Γ (some e) G (fun ε => some (di ε)) :=
  ⟨⟨fun pins s σ H Q I ⟨H0, ε, r, g, k⟩ => (po_some h.pe).run pins s σ H Q I ⟨H0, ε, r, g, fun v H' f r' z => ⟨_, z.int_inv, k H' f r'⟩⟩⟩⟩
def cut {α : Type} (xs : List α) (lo hi : Option Int) : List α := (xs.drop (HT.sIx xs.length 0 lo)).take (HT.sIx xs.length xs.length hi - HT.sIx xs.length 0 lo)
theorem cut_map {f : α → β} (xs : List α) (lo hi : Option Int) : cut (xs.map f) lo hi = (cut xs lo hi).map f := by unfold cut; rw [List.length_map, List.map_take, List.map_drop]
theorem cut_len (xs : List α) (lo hi : Option Int) : (cut xs lo hi).length ≤ xs.length := by
  unfold cut
  rw [List.length_take, List.length_drop]
  omega
theorem FzL.cut {K : Frag} {A : List Addr} {H : Hp} {vs : List V} {es : List D} (h : FzL K A H vs es) (lo hi : Option Int) : FzL K A H (cutV vs lo hi) (Y.cut es lo hi) := by
  unfold cutV Y.cut
  rw [← h.length]
  exact (h.drop _).take _
variable {lo hi : Option Expr} {dl dh : E → Option Int}
theorem d_slT (h : De X B ow Γ true s e (cT c) G d (fun ε => ε)) (hl : DO X B ow Γ lo G1 dl) (hh : DO X B ow Γ hi G2 dh) : De X B ow Γ true s (.Subscript e (.Slice lo hi none p2) pos) (cT c) (fun ε => G ε ∧ G1 ε ∧ G2 ε) (fun ε => cut (d ε) (dl ε) (dh ε)) (fun ε => ε) :=
  ⟨(pe_slice sl_tupA h.pe hl.po hh.po).weaken fun σ H Q ⟨H0, ε, rl, ⟨g, g1, g2⟩, k⟩ => ⟨H0, ε, rl, g, fun v H1 f1 r1 z1 => ⟨H0, ε, r1, g1, fun H2 f2 r2 => ⟨H0, ε, r2, g2, fun H3 f3 r3 => by
    have f1' : Fr [] H H1 := f1
    have z3 := (z1.fr f2.nil).fr (f3.nil (A := cond s (B.full σ ow) B.base))
    obtain ⟨a, vs, rfl, n, l⟩ := z3.tup_inv
    have fa : Fr [] H H3 := (f1'.trans f2).trans f3
    refine ⟨a, vs, rfl, n.sq, fun hw => k _ H3 fa r3 ?_, fun _ q hq => k _ _ (fa.trans (Fr.new hq)) (r3.grow (Fr.new hq)) ?_⟩
    · have hl : vs.length = (d ε).length := by simpa using l.length
      rw [hl] at hw
      have e : cut (d ε) (dl ε) (dh ε) = d ε := by
        unfold cut
        rw [hw.1, hw.2, List.drop_zero, Nat.sub_zero, List.take_length]
      show Fz _ _ _ _ (cT c (cut (d ε) (dl ε) (dh ε)))
      rw [e]
      exact .tup n l
    · refine .tup (.inl ⟨(r3.tr s).new hq, upd_same, Nat.le_trans (cutV_length _ _ _) n.sz⟩) ?_
      rw [← cut_map]
      exact (l.cut _ _).fr (Fr.new hq)⟩⟩⟩⟩
theorem d_slL (h : De X B ow Γ true true e (cL c) G d (fun ε => ε)) (hl : DO X B ow Γ lo G1 dl) (hh : DO X B ow Γ hi G2 dh) : DL X B ow Γ true (.Subscript e (.Slice lo hi none p2) pos) c (fun ε => G ε ∧ G1 ε ∧ G2 ε) (fun ε => cut (d ε) (dl ε) (dh ε)) (fun ε => ε) :=
  ⟨(pe_slice sl_list h.pe hl.po hh.po).weaken fun σ H Q ⟨H0, ε, rl, ⟨g, g1, g2⟩, k⟩ => ⟨H0, ε, rl, g, fun v H1 f1 r1 z1 => ⟨H0, ε, r1, g1, fun H2 f2 r2 => ⟨H0, ε, r2, g2, fun H3 f3 r3 => by
    have f1' : Fr [] H H1 := f1
    have z3 := (z1.fr f2.nil).fr (f3.nil (A := cond true (B.full σ ow) B.base))
    obtain ⟨a, vs, rfl, n, l⟩ := z3.lst_inv
    have fa : Fr [] H H3 := (f1'.trans f2).trans f3
    refine ⟨a, vs, rfl, n.sq, fun q hq => k q _ _ (fa.back hq) (fa.trans (Fr.new hq)) (r3.plus hq) upd_same (Nat.le_trans (cutV_length _ _ _) n.2) ?_⟩
    rw [← cut_map]
    refine ((((l.cut _ _).more hq).sub fun x hx => ?_).fr (Fr.new hq))
    simp only [Bd.full, Bd.base, Bd.plus, List.mem_append, List.mem_cons, cond_true] at hx ⊢
    rcases hx with (h | h | h) | h
    · exact .inr (.inl (.inl h))
    · exact .inl h
    · exact .inr (.inl (.inr h))
    · exact .inr (.inr h)⟩⟩⟩⟩
theorem d_slS (h : De X B ow Γ true s e cS G ds (fun ε => ε)) (hl : DO X B ow Γ lo G1 dl) (hh : DO X B ow Γ hi G2 dh) : De X B ow Γ true s (.Subscript e (.Slice lo hi none p2) pos) cS (fun ε => G ε ∧ G1 ε ∧ G2 ε ∧ (ds ε).length ≤ 16777216) (fun ε => cutS (ds ε) (dl ε) (dh ε)) (fun ε => ε) :=
  ⟨(pe_slice sl_str h.pe hl.po hh.po).weaken fun σ H Q ⟨H0, ε, rl, ⟨g, g1, g2, g3⟩, k⟩ => ⟨H0, ε, rl, g, fun v H1 f1 r1 z1 => ⟨H0, ε, r1, g1, fun H2 f2 r2 => ⟨H0, ε, r2, g2, fun H3 f3 r3 => by
    have f1' : Fr [] H H1 := f1
    cases z1.str_inv
    exact ⟨_, rfl, by rw [sizeLine_eq]; exact g3, k _ H3 ((f1'.trans f2).trans f3) r3 (.str _)⟩⟩⟩⟩⟩
end
section
variable {K : Frag} {α β : Type}
/-- tuple + tuple -/
theorem v_catT {ce : α → D} : Op2 K (rCatA K) (cT ce) (cT ce) (cT ce) (fun xs ys => xs.length + ys.length ≤ 16777216) (fun xs ys => xs ++ ys) := fun A H x y v w Q t z1 z2 hc k => by
  obtain ⟨a, vs, rfl, n, l⟩ := z1.tup_inv
  obtain ⟨b, ws, rfl, n2, l2⟩ := z2.tup_inv
  have e1 : vs.length = x.length := by simpa using l.length
  have e2 : ws.length = y.length := by simpa using l2.length
  have hl : vs.length + ws.length ≤ 16777216 := by rw [e1, e2]; exact hc
  refine ⟨a, b, vs, ws, rfl, rfl, n.sq, n2.sq, by rw [sizeLine_eq]; exact hl, fun h => k _ H (Fr.refl _ _) ?_, fun _ h => k _ H (Fr.refl _ _) ?_, fun _ _ q hq => k _ _ (Fr.new hq) ?_⟩
  · have : x = [] := List.eq_nil_of_length_eq_zero (by rw [← e1, h]; rfl)
    show Fz K A H _ (cT ce (x ++ y))
    rw [this]
    exact .tup n2 l2
  · have : y = [] := List.eq_nil_of_length_eq_zero (by rw [← e2, h]; rfl)
    show Fz K A H _ (cT ce (x ++ y))
    rw [this, List.append_nil]
    exact .tup n l
  · refine .tup (.inl ⟨t.new hq, upd_same, by rw [List.length_append]; exact hl⟩) ?_
    rw [List.map_append]
    exact (l.append l2).fr (Fr.new hq)
theorem v_catS : Op2 K (fun x y H Q => ∃ i j, x = .str i ∧ y = .str j ∧ i.length + j.length ≤ sizeLine ∧ Q (.str (i ++ j)) H) cS cS cS (fun x y => x.length + y.length ≤ 16777216) (fun x y => x ++ y) := fun A H x y v w Q t z1 z2 hc k => by
  cases z1.str_inv
  cases z2.str_inv
  exact ⟨_, _, rfl, rfl, by rw [sizeLine_eq]; exact hc, k _ H (Fr.refl _ _) (.str _)⟩
end
/-! lists that are new -/
section
variable {X : Cx} {B : Bd} {ow : List Nat} {E α β : Type} {Γ : E → List (Option D)} {p s : Bool} {e e1 e2 : Expr} {es : List Expr} {pos px : Pos} {c : α → D} {G G1 G2 : E → Prop} {d d1 d2 : E → List α} {u : E → E}
theorem fzl_plus {K : Frag} {H : Hp} {σ : L2.St} {q : Addr} {o : HO} {vs : List V} {ys : List D} (hq : H q = none) (z : FzL K (B.full σ ow) H vs ys) : FzL K ((B.plus q).full σ ow) (upd H q o) vs ys := by
  refine ((z.more hq).sub fun x hx => ?_).fr (Fr.new hq)
  simp only [Bd.full, Bd.base, Bd.plus, List.mem_append, List.mem_cons] at hx ⊢
  rcases hx with (h | h | h) | h
  · exact .inr (.inl (.inl h))
  · exact .inl h
  · exact .inr (.inl (.inr h))
  · exact .inr (.inr h)
theorem l_disp {cs : β → List D} {dv : E → β} {g : β → List α} (hc : ∀ x, cs x = (g x).map c) (hl : ∀ x, (g x).length ≤ 1000) (h : DA X B ow Γ true true es cs G dv u) : DL X B ow Γ true (.List es pos) c G (fun ε => g (dv ε)) u :=
  ⟨(pe_lst h.pa).weaken fun σ H Q ⟨H0, ε, rl, gg, k⟩ => ⟨H0, ε, rl, gg, fun vs H1 f1 r1 z1 => by
    have f1' : Fr [] H H1 := f1
    have z1' : FzL X.K (B.full σ ow) H1 vs ((g (dv ε)).map c) := by rw [← hc]; exact z1
    have hz : vs.length ≤ 1000 := by
      have := z1'.length
      rw [List.length_map] at this
      rw [this]; exact hl _
    exact ⟨Nat.le_trans hz (by decide), fun q hq => k q _ vs (f1'.back hq) (f1'.trans (Fr.new hq)) (r1.plus hq) upd_same (Nat.le_trans hz (by decide)) (fzl_plus hq z1')⟩⟩⟩
theorem l_dispX {cs : β → List D} {dv : E → β} {g : β → List α} (hc : ∀ x, cs x = (g x).map c) (hl : ∀ x, (g x).length ≤ 1000) (h : DA X B ow Γ false true es cs G dv u) : De X B ow Γ false true (.List es pos) (cL c) G (fun ε => g (dv ε)) u :=
  (d_lst (ct := fun x => cL c (g x)) (fun x => by rw [hc]) (fun x => by rw [hc, List.length_map]; exact hl x) h).as (c' := cL c) (g := g) fun _ => rfl
theorem l_list {cq : List α → D} (hq' : IsSq cq c) (h : DA X B ow Γ true true [e] (ac cq an) G (fun ε => (d ε, ())) u) (hm : X.mg "list" = none) (hg : Gl X "list" := by rfl) (he : starEach [e] X.env = (false, eval e X.env) :: starEach [] X.env := by rfl)
    (hpl : (backTo pos (starEach [] X.env)).any (·.1) = false := by rfl) : DL X B ow Γ true (.Call (.Name "list" px) [e] [] pos) c G d u :=
  ⟨(pe_callTy call_list_of hg hm (by decide +kernel) h.pa (by decide) (by decide) he hpl).weaken fun σ H Q ⟨H0, ε, rl, gg, k⟩ => ⟨H0, ε, rl, gg, fun vs H1 f1 r1 z1 => by
    have f1' : Fr [] H H1 := f1
    obtain ⟨v, rfl, z⟩ := fzl1 (ds := []) z1
    obtain ⟨a, ws, rfl, hs, l, e, sz⟩ := hq'.inv z
    exact ⟨a, ws, rfl, hs, fun q hq => k q _ ws (f1'.back hq) (f1'.trans (Fr.new hq)) (r1.plus hq) upd_same sz (fzl_plus hq l)⟩⟩⟩
theorem l_cat (h1 : De X B ow Γ true true e1 (cL c) G1 d1 (fun ε => ε)) (h2 : De X B ow Γ true true e2 (cL c) G2 d2 (fun ε => ε)) : DL X B ow Γ true (.BinOp e1 .Add e2 pos) c (fun ε => G1 ε ∧ G2 ε ∧ (d1 ε).length + (d2 ε).length ≤ 16777216) (fun ε => d1 ε ++ d2 ε) (fun ε => ε) :=
  ⟨(pe_op op_cat h1.pe h2.pe).weaken fun σ H Q ⟨H0, ε, rl, ⟨g1, g2, g3⟩, k⟩ => ⟨H0, ε, rl, g1, fun v H1 f1 r1 z1 => ⟨H0, ε, r1, g2, fun w H2 f2 r2 z2 => by
    have f1' : Fr [] H H1 := f1
    have f2' : Fr [] H1 H2 := f2
    obtain ⟨a, vs, rfl, n, l⟩ := (z1.fr f2'.nil).lst_inv
    obtain ⟨b, ws, rfl, n2, l2⟩ := z2.lst_inv
    have e1 : vs.length = (d1 ε).length := by simpa using l.length
    have e2 : ws.length = (d2 ε).length := by simpa using l2.length
    have hl : vs.length + ws.length ≤ 16777216 := by rw [e1, e2]; exact g3
    have fa := f1'.trans f2'
    refine ⟨a, b, vs, ws, rfl, rfl, n.1.2, n2.1.2, by rw [sizeLine_eq]; exact hl, fun q hq => k q _ _ (fa.back hq) (fa.trans (Fr.new hq)) (r2.plus hq) upd_same (by rw [List.length_append]; exact hl) ?_⟩
    rw [List.map_append]
    exact fzl_plus hq (l.append l2)⟩⟩⟩
def repI {α : Type} (xs : List α) (k : Int) : List α := (List.replicate k.toNat xs).flatten
theorem l_rep {dk : E → Int} (h1 : De X B ow Γ true true e1 (cL c) G1 d1 (fun ε => ε)) (h2 : De X B ow Γ true true e2 cI G2 dk (fun ε => ε)) :
    DL X B ow Γ true (.BinOp e1 .Mult e2 pos) c (fun ε => G1 ε ∧ G2 ε ∧ -1000000 ≤ dk ε ∧ dk ε ≤ 1000000 ∧ (d1 ε).length * (dk ε).toNat ≤ 16777216) (fun ε => repI (d1 ε) (dk ε)) (fun ε => ε) :=
  ⟨(pe_op op_rep h1.pe h2.pe).weaken fun σ H Q ⟨H0, ε, rl, ⟨g1, g2, g3, g4, g5⟩, k⟩ => ⟨H0, ε, rl, g1, fun v H1 f1 r1 z1 => ⟨H0, ε, r1, g2, fun w H2 f2 r2 z2 => by
    have f1' : Fr [] H H1 := f1
    have f2' : Fr [] H1 H2 := f2
    obtain ⟨a, vs, rfl, n, l⟩ := (z1.fr f2'.nil).lst_inv
    cases z2.int_inv
    have e1 : vs.length = (d1 ε).length := by simpa using l.length
    have fa := f1'.trans f2'
    have hl : vs.length * (dk ε).toNat ≤ 16777216 := by rw [e1]; exact g5
    refine ⟨a, _, vs, rfl, rfl, n.1.2, by omega, by omega, by rw [sizeLine_eq]; exact hl, fun q hq => k q _ _ (fa.back hq) (fa.trans (Fr.new hq)) (r2.plus hq) upd_same ?_ ?_⟩
    · rw [List.length_flatten, List.map_replicate, List.sum_replicate_nat]
      rw [Nat.mul_comm]
      exact hl
    · have e : (repI (d1 ε) (dk ε)).map c = (List.replicate (dk ε).toNat ((d1 ε).map c)).flatten := by
        unfold repI
        rw [List.map_flatten, List.map_replicate]
      show FzL _ _ _ _ ((repI (d1 ε) (dk ε)).map c)
      rw [e]
      exact fzl_plus hq (l.rep _)⟩⟩⟩
end
end Y
namespace Y
open PySem PySem.Spec PyProof.Rows L2

/-! ### tuple * int, any count -/
theorem tmulS (l : Addr) (items : Array Value) (n : Nat) (dd : Option Addr) (sl : Array (Option Value)) (x : Int) (u : Tok) (c0 : (decide (x < -(2 ^ 63)) || decide (x ≥ 2 ^ 63)) = false) (c1 : (items.isEmpty || x == 1) = true) :
    Meets (Builtin.«tuple.__mul__» ⟨[.ref l, .int x u], []⟩) (fun _ R s => s.heap.get? l = some { cls := .type "tuple", dict := dd, data := .seq items n, slots := sl } ∧ R (.ok (.ret (Value.ref l))) s) :=
  .of_wp fun prog w A R s h => by
    obtain ⟨hp, g, d, tk, os⟩ := s
    obtain ⟨hl, h⟩ := h
    have f1 := AutoSeq1.idx_int
    wp_walk using wpAny_loadPart' hl
    repeat (first
      | exact ⟨_, rfl, h⟩
      | (refine wpAny_ite_false (decide_eq_false (by rw [c0]; exact Bool.false_ne_true)) ?_; wp_walk using wpAny_loadPart' hl)
      | (refine wpAny_ite_true (decide_eq_true c1) ?_; wp_walk using wpAny_loadPart' hl))
theorem tmulE (l : Addr) (items : Array Value) (n : Nat) (dd : Option Addr) (sl : Array (Option Value)) (x : Int) (u : Tok) (c0 : (decide (x < -(2 ^ 63)) || decide (x ≥ 2 ^ 63)) = false) (c1 : (items.isEmpty || x == 1) = false) (c2 : (decide (x ≤ 0) || items.isEmpty) = true) :
    Meets (Builtin.«tuple.__mul__» ⟨[.ref l, .int x u], []⟩) (fun _ R s => s.heap.get? l = some { cls := .type "tuple", dict := dd, data := .seq items n, slots := sl } ∧
      R (.ok (.ret (Value.ref s.heap.objs.size))) { s with heap := s.heap.push { cls := Value.type "tuple", data := Data.seq #[] }, toks := s.toks }) :=
  .of_wp fun prog w A R s h => by
    obtain ⟨hp, g, d, tk, os⟩ := s
    obtain ⟨hl, h⟩ := h
    have f1 := AutoSeq1.idx_int
    wp_walk using wpAny_loadPart' hl
    repeat (first
      | exact ⟨_, rfl, h⟩
      | (refine wpAny_ite_false (decide_eq_false (by rw [c0]; exact Bool.false_ne_true)) ?_; wp_walk using wpAny_loadPart' hl)
      | (refine wpAny_ite_false (decide_eq_false (by rw [c1]; exact Bool.false_ne_true)) ?_; wp_walk using wpAny_loadPart' hl)
      | (refine wpAny_ite_true (decide_eq_true c2) ?_; wp_walk using wpAny_loadPart' hl))

def rRepA (K : Frag) : R2 := fun x y H Q => ∃ l k xs, x = .ref l ∧ y = .int k ∧ SqT K H l xs ∧ -1000000 ≤ k ∧ k ≤ 1000 ∧ xs.length ≤ 1000 ∧ (xs = [] ∨ k = 1 → Q (.ref l) H) ∧ ∀ p, H p = none → Q (.ref p) (upd H p (.tup (List.replicate k.toNat xs).flatten))
section
variable {X : Cx}
theorem op_repTA : OpR X (binaryOp .Mult) (rRepA X.K) := by
  intro pins s σ H x y v u Q I rx ry h
  obtain ⟨l, k, xs, rfl, rfl, hT, hk0, hk1, hz, q1, q2⟩ := h
  by_cases hs : xs = [] ∨ k = 1
  · cases rx
    obtain ⟨t, rfl⟩ := ry
    obtain ⟨its, r, ⟨⟨cls, dd, data, sl⟩, ho, hc, n, hd⟩, hsz⟩ := I.tuple hT
    simp only at hc hd
    subst hc hd
    have hle : its.length = xs.length := r.length.symm
    have c0 : (decide (k < -(2 ^ 63)) || decide (k ≥ 2 ^ 63)) = false := by
      rw [decide_eq_false (by omega), decide_eq_false (by omega)] <;> rfl
    have c1 : (its.toArray.isEmpty || k == 1) = true := by
      rcases hs with e | e
      · subst e
        have : its = [] := List.eq_nil_of_length_eq_zero hle
        subst this
        rfl
      · rw [e]; simp
    refine wpAny_binaryOp_repeat_ref (T := "tuple") (U := "int") (by decide) ⟨_, ho, rfl⟩ (fun s' => typeIs_int s' k t) noFill_tuple_mul F.fills_int_mul F.slot_int_rmul repeat_tuple F.slot_int_index.lookup
      (call_meets F.slot_int_rmul (typeIs_int s k t) F.entry_int_rmul (F.args_int_rmul_2 _ _) (int_rmul_tuple k t l its.toArray n dd sl)
        ⟨ho, rfl, ⟨_, ho, rfl⟩, call_meets F.slot_tuple_mul ⟨_, ho, rfl⟩ F.entry_tuple_mul (F.args_tuple_mul_2 _ _) (tmulS l its.toArray n dd sl k t c0 c1) ⟨ho, ?_⟩⟩)
    exact ⟨.ref l, H, I, rfl, q1 hs⟩
  · have hne : xs ≠ [] := fun e => hs (.inl e)
    have hk : k ≠ 1 := fun e => hs (.inr e)
    by_cases h2 : 2 ≤ k
    · exact op_repT pins s σ H _ _ v u Q I rx ry ⟨l, k, xs, rfl, rfl, hT, hne, h2, hk1, hz, q2⟩
    · cases rx
      obtain ⟨t, rfl⟩ := ry
      obtain ⟨its, r, ⟨⟨cls, dd, data, sl⟩, ho, hc, n, hd⟩, hsz⟩ := I.tuple hT
      simp only at hc hd
      subst hc hd
      have hle : its.length = xs.length := r.length.symm
      have c0 : (decide (k < -(2 ^ 63)) || decide (k ≥ 2 ^ 63)) = false := by
        rw [decide_eq_false (by omega), decide_eq_false (by omega)] <;> rfl
      have hi : its.toArray.isEmpty = false := by
        cases its with
        | nil => exact absurd (List.eq_nil_of_length_eq_zero hle.symm) hne
        | cons a b => rfl
      have c1 : (its.toArray.isEmpty || k == 1) = false := by
        rw [hi, Bool.false_or]
        exact beq_eq_false_iff_ne.mpr hk
      have c2 : (decide (k ≤ 0) || its.toArray.isEmpty) = true := by
        rw [hi, Bool.or_false]
        exact decide_eq_true (by omega)
      refine wpAny_binaryOp_repeat_ref (T := "tuple") (U := "int") (by decide) ⟨_, ho, rfl⟩ (fun s' => typeIs_int s' k t) noFill_tuple_mul F.fills_int_mul F.slot_int_rmul repeat_tuple F.slot_int_index.lookup
        (call_meets F.slot_int_rmul (typeIs_int s k t) F.entry_int_rmul (F.args_int_rmul_2 _ _) (int_rmul_tuple k t l its.toArray n dd sl)
          ⟨ho, rfl, ⟨_, ho, rfl⟩, call_meets F.slot_tuple_mul ⟨_, ho, rfl⟩ F.entry_tuple_mul (F.args_tuple_mul_2 _ _) (tmulE l its.toArray n dd sl k t c0 c1 c2) ⟨ho, ?_⟩⟩)
      have e : (List.replicate k.toNat xs).flatten = [] := by
        have : k.toNat = 0 := by omega
        rw [this]; rfl
      have q3 := q2 _ (I.hok.fresh (Nat.le_refl s.heap.objs.size))
      rw [e] at q3
      exact ⟨.ref s.heap.objs.size, _, I.laid (t' := s.toks) (o := .tup []) (fun b ob q => Heap.get?_push_of_some _ q) (Nat.le_refl _) ⟨Nat.zero_le _, [], .nil, IsTup.new _ _⟩, rfl, q3⟩
end
theorem v_repT {K : Frag} {α : Type} {ce : α → D} : Op2 K (rRepA K) (cT ce) cI (cT ce) (fun xs k => -1000000 ≤ k ∧ k ≤ 1000 ∧ xs.length ≤ 1000) repI := fun A H x y v w Q t z1 z2 hc k => by
  obtain ⟨a, vs, rfl, n, l⟩ := z1.tup_inv
  cases z2.int_inv
  have e1 : vs.length = x.length := by simpa using l.length
  obtain ⟨h1, h2, h3⟩ := hc
  refine ⟨a, y, vs, rfl, rfl, n.sq, h1, h2, by omega, fun hs => k _ H (Fr.refl _ _) ?_, fun q hq => k _ _ (Fr.new hq) ?_⟩
  · have e : repI x y = x := by
      rcases hs with hs | hs
      · have : x = [] := List.eq_nil_of_length_eq_zero (by rw [← e1, hs]; rfl)
        subst this
        unfold repI
        rw [List.flatten_eq_nil_iff]
        intro l hl
        exact List.eq_of_mem_replicate hl
      · subst hs
        simp [repI]
    show Fz K A H _ (cT ce (repI x y))
    rw [e]
    exact .tup n l
  · have e : (repI x y).map ce = (List.replicate y.toNat (x.map ce)).flatten := by
      unfold repI
      rw [List.map_flatten, List.map_replicate]
    refine .tup (.inl ⟨t.new hq, upd_same, ?_⟩) ?_
    · rw [List.length_flatten, List.map_replicate, List.sum_replicate_nat, e1]
      have : y.toNat * x.length ≤ 1000 * 1000 := Nat.mul_le_mul (by omega) h3
      show _ ≤ 16777216
      omega
    · show FzL K A _ _ ((repI x y).map ce)
      rw [e]
      exact (l.rep _).fr (Fr.new hq)
/-! ### sum of a tuple -/
def rSumT (K : Frag) : List V → Hp → VK → Prop := fun vs H Q => ∃ (a : Addr) (ns : List Int), vs = [V.ref a] ∧ SqT K H a (ns.map V.int) ∧ Q (.int ns.sum) H
theorem ints_at : ∀ {its : List Value} {ns : List Int}, IntsAre its ns → ∀ (i : Nat) (v : Value), its[i]? = some v → ∃ t, v = .int (ns.getD i 0) t
  | _, _, .nil, i, v, h => by simp at h
  | _, _, .cons n t r, 0, v, h => by
    simp at h
    exact ⟨t, by simp [← h]⟩
  | _, _, .cons n t r, i + 1, v, h => by
    have := ints_at r i v (by simpa using h)
    simpa using this
theorem cr_sumT {X : Cx} (hc : X.calm = true) : CallR X (.builtin "sum") (rSumT X.K) := by
  intro pins s σ H vs us Q I r h
  obtain ⟨a, ns, rfl, hs, q⟩ := h
  obtain ⟨its, rv, p, hz⟩ := I.tuple hs
  rw [Vals.ref1 r]
  have hi := rv.ints
  have hlt : a < s.heap.objs.size := by obtain ⟨_, e, _⟩ := p; exact Heap.lt_size e
  have p' : s.heap.IsTuple a its.toArray := p
  refine call_sum_walkG (wpAny_pyIter_tuple p' ⟨_, _, _, _, _, _, fun i => ns.getD i 0, rfl, Walks.tuple (A := X.A.in1) (I.ok.hd hc) _ a (Nat.ne_of_lt hlt) its.toArray, ⟨⟨_, Heap.get?_push_size _ rfl, rfl, rfl⟩, p'.push _⟩, fun b hb => ?_, fun i v hv => ?_, fun h' tk t' hk => ?_⟩)
  · show b < (s.heap.push _).objs.size
    rw [Heap.size_push]
    rcases List.mem_cons.mp hb with rfl | hb
    · exact Nat.lt_succ_self _
    · rw [List.mem_singleton.mp hb]; exact Nat.lt_succ_of_lt hlt
  · exact ints_at hi i v (by simpa using hv)
  · have e : preSum (fun i => ns.getD i 0) its.toArray.size = ns.sum := by
      rw [preSum_getD, List.take_of_length_le]
      have := hi.length
      simp; omega
    rw [e]
    refine ⟨.int _, H, I.kept fun b o eb => hk b o (fun z => ?_) (Heap.get?_push_of_some _ eb), ⟨_, rfl⟩, q⟩
    rw [List.mem_singleton.mp z] at eb
    exact absurd (Heap.lt_size eb) (Nat.lt_irrefl _)
theorem v_sumT {K : Frag} : OpL K (rSumT K) (ac (cT cI) an) cI (fun _ => True) (fun q => q.1.sum) := fun A H q vs Q _ z hc k => by
  obtain ⟨v, rfl, z1⟩ := fzl1 (ds := []) z
  obtain ⟨a, ws, rfl, n, l⟩ := z1.tup_inv
  cases fzl_ints l
  exact ⟨a, q.1, rfl, n.sq, k _ H (Fr.refl _ _) (.int _)⟩
end Y
namespace Y
open PySem PySem.Spec PyProof.Rows PySem.W L2

/-! ### sorted -/
def rSrt (K : Frag) {α : Type} (c : α → D) : List V → Hp → VK → Prop := fun vs H Q => ∃ (A : List Addr) (a : Addr) (xs : List V) (bs : List α), vs = [V.ref a] ∧ SqL K H a xs ∧ FzL K A H xs (bs.map c) ∧ AllAlike (bs.map c) ∧ Sortable (bs.map c) ∧ (∀ b ∈ bs, (c b).depth ≤ 100) ∧
  ∀ (q : Addr) (out : List V), H q = none → out.length = xs.length → FzL K A H out ((bs.mergeSort (dataLe false c)).map c) → Q (.ref q) (upd H q (.lst out))
section
variable {X : Cx} {α : Type} {c : α → D}
theorem each_fz {K : Frag} {A : List Addr} {H : Hp} : ∀ {xs : List V} {us : List Value} {bs : List α}, Vals xs us → FzL K A H xs (bs.map c) → EachIs (fun u b => ∃ v, RelV v u ∧ Fz K A H v (c b)) us bs
  | _, _, [], .nil, .nil => .nil
  | _, _, b :: bs, .cons r t, .cons z l => .cons ⟨_, r, z⟩ (each_fz t l)
theorem fz_each {K : Frag} {A : List Addr} {H : Hp} : ∀ {us : List Value} {bs : List α}, EachIs (fun u b => ∃ v, RelV v u ∧ Fz K A H v (c b)) us bs → ∃ xs : List V, Vals xs us ∧ FzL K A H xs (bs.map c)
  | _, _, .nil => ⟨[], .nil, .nil⟩
  | _, _, .cons ⟨v, r, z⟩ t => by
    obtain ⟨xs, h1, h2⟩ := fz_each t
    exact ⟨v :: xs, .cons r h1, .cons z h2⟩
theorem cr_srt (hu : X.A.units + 200 < cLine) : CallR X (.builtin "sorted") (rSrt X.K c) := by
  intro pins s σ H vs us Q I r h
  obtain ⟨A, a, xs, bs, rfl, hs, l, ha, hk, hd, q⟩ := h
  obtain ⟨its, rv, hl, hz⟩ := I.list hs
  rw [Vals.ref1 r]
  have e := each_fz rv l
  have hb : bs.length = xs.length := by
    have := l.length
    simpa using this.symm
  have hzl : xs.length ≤ sizeLine := hz
  refine sorted_data (bs := bs) (enc := c) (R := fun u b => ∃ v, RelV v u ∧ Fz X.K A H v (c b)) hl.isList e (e.mono fun u b ⟨v, r1, z⟩ => Dp.reads I _ v u z.dp r1) ha hk (by rw [hb]; exact hzl) (fun b hb => by
    have := hd b hb
    omega) fun out h1 h2 => ?_
  obtain ⟨ys, r2, z2⟩ := fz_each h2
  obtain ⟨ep, he'⟩ := PyProof.Rows.sortedAll_at s.heap its out.toArray
  have hlen : ys.length ≤ sizeLine := by rw [r2.length, h1, hb]; exact hzl
  exact ⟨.ref _, upd H (s.heap.objs.size + 1) (.lst ys), I.laid (t' := s.toks) (fun _ _ => PyProof.Rows.sortedAll_old) (Nat.le_succ _) ⟨hlen, out, ep, r2, he'⟩, rfl, q _ ys (I.hok.fresh (Nat.le_succ _)) (by rw [r2.length, h1, hb]) z2⟩
end
/-- what may be sorted, by its form -/
structure Srt {α : Type} (c : α → D) : Prop where
  al : ∀ b b', alike (c b) (c b') = true
  dp : ∀ b, (c b).depth ≤ 100
  so : (∀ b, ∃ x r, c b = .tuple (x :: r)) ∨ ∀ b, c b ≠ .none ∧ ∀ xs, c b ≠ .tuple xs
structure Alk {α : Type} (n : Nat) (c : α → D) : Prop where
  al : ∀ b b', alike (c b) (c b') = true
  dp : ∀ b, (c b).depth ≤ n
section
variable {α β γ : Type} {n m k : Nat} {c : α → D} {c' : β → D} {c'' : γ → D}
theorem alk_I : Alk 0 cI := ⟨fun _ _ => by simp [alike], fun _ => by simp [PyData.depth]⟩
theorem alk_B : Alk 0 cB := ⟨fun _ _ => by simp [alike], fun _ => by simp [PyData.depth]⟩
theorem alk_S : Alk 0 cS := ⟨fun _ _ => by simp [alike], fun _ => by simp [PyData.depth]⟩
theorem alikeAll_mapc (h : ∀ b b', alike (c b) (c b') = true) : ∀ xs ys : List α, alikeAll (xs.map c) (ys.map c) = true
  | [], _ => by simp [alikeAll]
  | _ :: _, [] => by simp [alikeAll]
  | x :: xs, y :: ys => by simp [alikeAll, h, alikeAll_mapc h xs ys]
theorem alk_L (h : Alk n c) : Alk (n + 1) (cL c) := ⟨fun x y => by simp only [alike]; exact alikeAll_mapc h.al x y, fun x => by
  have := depthAll_mapc h.dp x
  simp only [PyData.depth]; omega⟩
theorem alk_T (h : Alk n c) : Alk (n + 1) (cT c) := ⟨fun x y => by simp only [alike]; exact alikeAll_mapc h.al x y, fun x => by
  have := depthAll_mapc h.dp x
  simp only [PyData.depth]; omega⟩
theorem alk_2 (h : Alk n c) (h' : Alk m c') : Alk (max n m + 1) (c2 c c') := ⟨fun x y => by simp [alike, alikeAll, h.al, h'.al], fun x => by
  have := h.dp x.1
  have := h'.dp x.2
  simp only [PyData.depth, PyData.depthAll]; omega⟩
theorem alk_3 (h : Alk n c) (h' : Alk m c') (h'' : Alk k c'') : Alk (max n (max m k) + 1) (c3 c c' c'') := ⟨fun x y => by simp [alike, alikeAll, h.al, h'.al, h''.al], fun x => by
  have := h.dp x.1
  have := h'.dp x.2.1
  have := h''.dp x.2.2
  simp only [PyData.depth, PyData.depthAll]; omega⟩
theorem srt_I : Srt cI := ⟨alk_I.al, fun b => Nat.le_trans (alk_I.dp b) (by decide), .inr fun _ => ⟨fun e => (nomatch e), fun _ e => (nomatch e)⟩⟩
theorem srt_S : Srt cS := ⟨alk_S.al, fun b => Nat.le_trans (alk_S.dp b) (by decide), .inr fun _ => ⟨fun e => (nomatch e), fun _ e => (nomatch e)⟩⟩
theorem srt_L (h : Alk n c) (hn : n ≤ 50 := by decide) : Srt (cL c) := ⟨(alk_L h).al, fun b => Nat.le_trans ((alk_L h).dp b) (by omega), .inr fun _ => ⟨fun e => (nomatch e), fun _ e => (nomatch e)⟩⟩
theorem srt_2 (h : Alk n c) (h' : Alk m c') (hn : max n m ≤ 50 := by decide) : Srt (c2 c c') := ⟨(alk_2 h h').al, fun b => Nat.le_trans ((alk_2 h h').dp b) (by omega), .inl fun _ => ⟨_, _, rfl⟩⟩
theorem srt_3 (h : Alk n c) (h' : Alk m c') (h'' : Alk k c'') (hn : max n (max m k) ≤ 50 := by decide) : Srt (c3 c c' c'') := ⟨(alk_3 h h' h'').al, fun b => Nat.le_trans ((alk_3 h h' h'').dp b) (by omega), .inl fun _ => ⟨_, _, rfl⟩⟩
theorem Srt.all (h : Srt c) (bs : List α) : AllAlike (bs.map c) := AllAlike.of h.al
theorem Srt.sort (h : Srt c) (bs : List α) : Sortable (bs.map c) := by
  rcases h.so with z | z
  · exact Sortable.tuples z
  · exact Sortable.others z
end
def srt {α : Type} (c : α → D) (xs : List α) : List α := xs.mergeSort (dataLe false c)
section
variable {X : Cx} {B : Bd} {ow : List Nat} {E α β : Type} {Γ : E → List (Option D)} {p s : Bool} {e : Expr} {pos px py : Pos} {c : α → D} {G : E → Prop} {d : E → List α} {u : E → E}
theorem l_srt (hu : X.A.units + 200 < cLine) (hc : Srt c) (h : DA X B ow Γ true true [e] (ac (cL c) an) G (fun ε => (d ε, ())) u) (hm : X.mg "sorted" = none) (hg : Gl X "sorted" := by rfl) (he : starEach [e] X.env = (false, eval e X.env) :: starEach [] X.env := by rfl)
    (hpl : (backTo pos (starEach [] X.env)).any (·.1) = false := by rfl) : DL X B ow Γ true (.Call (.Name "sorted" px) [e] [] pos) c G (fun ε => srt c (d ε)) u :=
  ⟨(pe_callB (cr_srt (c := c) hu) hg hm (by decide +kernel) h.pa (by decide) (by decide) he hpl).weaken fun σ H Q ⟨H0, ε, rl, gg, k⟩ => ⟨H0, ε, rl, gg, fun vs H1 f1 r1 z1 => by
    have f1' : Fr [] H H1 := f1
    obtain ⟨v, rfl, z⟩ := fzl1 (ds := []) z1
    obtain ⟨a, ws, rfl, n, l⟩ := z.lst_inv
    exact ⟨B.full σ ow, a, ws, d ε, rfl, n.sq, l, hc.all _, hc.sort _, fun b _ => hc.dp b, fun q out hq hl z2 => k q _ out (f1'.back hq) (f1'.trans (Fr.new hq)) (r1.plus hq) upd_same (by rw [hl]; exact n.2) (fzl_plus hq z2)⟩⟩⟩

/-! ### isinstance -/
variable {cc : α → D} {dv : E → α}
theorem d_isi {T C : String} {x : Str} {b : Bool} (h : De X B ow Γ p s e cc G dv u) (ht : ∀ (A : List Addr) (H : Hp) (v : V) (x : α), Fz X.K A H v (cc x) → TyX X.K H v (.type T)) (hm : X.mg "isinstance" = none) (hmC : X.mg x = none) (hbC : bootBuiltins x = some (.type C)) (hb : kitB T C = some b)
    (hg : Gl X "isinstance" := by rfl) (hgC : Gl X x := by rfl) (hnC : x ≠ "__name__" := by decide) (hdC : (x == ("__debug__" : Str)) = false := by decide)
    (he : starEach [e, .Name x py] X.env = (false, eval e X.env) :: starEach [.Name x py] X.env := by rfl) (he2 : starEach [.Name x py] X.env = (false, eval (.Name x py) X.env) :: starEach [] X.env := by rfl)
    (hpl : (backTo pos (starEach [.Name x py] X.env)).any (·.1) = false := by rfl) :
    De X B ow Γ p s (.Call (.Name "isinstance" px) [e, .Name x py] [] pos) cB G (fun _ => b) u :=
  ⟨(pe_callB call_isi hg hm (by decide +kernel) (pa_cons h.pe (pa_cons (pe_bltn (v := .ty C) hgC hmC hbC rfl hnC hdC) pa_nil he2) he) (by decide) (by decide) he hpl).weaken fun σ H Q ⟨H0, ε, rl, g, k⟩ => ⟨H0, ε, rl, g, fun v H1 f r z =>
    ⟨v, .ty C, _, _, b, rfl, .ty C, ht _ _ _ _ z, kit_ty hb, k _ H1 f r (.bl b)⟩⟩⟩
end
section
variable {K : Frag} {α : Type}
theorem ty_I (A : List Addr) (H : Hp) (v : V) (x : Int) (z : Fz K A H v (cI x)) : TyX K H v (.type "int") := by cases z.int_inv; exact .base (.int x)
theorem ty_B (A : List Addr) (H : Hp) (v : V) (x : Bool) (z : Fz K A H v (cB x)) : TyX K H v (.type "bool") := by cases z.bl_inv; exact .base (.bl x)
theorem ty_S (A : List Addr) (H : Hp) (v : V) (x : Str) (z : Fz K A H v (cS x)) : TyX K H v (.type "str") := by cases z.str_inv; exact .base (.str x)
theorem ty_N (A : List Addr) (H : Hp) (v : V) (x : Unit) (z : Fz K A H v (cN x)) : TyX K H v (.type "NoneType") := by cases z.non_inv; exact .base .non
theorem ty_L {c : α → D} {g : α → List D} (hc : ∀ x, c x = .list (g x)) (A : List Addr) (H : Hp) (v : V) (x : α) (z : Fz K A H v (c x)) : TyX K H v (.type "list") := by
  rw [hc] at z
  obtain ⟨a, vs, rfl, n, l⟩ := z.lst_inv
  exact .base (.lst n.1.2)
theorem ty_T {c : α → D} {g : α → List D} (hc : ∀ x, c x = .tuple (g x)) (A : List Addr) (H : Hp) (v : V) (x : α) (z : Fz K A H v (c x)) : TyX K H v (.type "tuple") := by
  rw [hc] at z
  obtain ⟨a, vs, rfl, n, l⟩ := z.tup_inv
  rcases n with n | ⟨o, its, m, h1, h2, _⟩
  · exact .base (.tup n.2.1)
  · exact .kTuple h1 h2
/-! ### in -/
theorem flat_ints (xs : List Int) : (xs.map V.int).all flatV = true := by simp [flatV]
theorem flat_strs (xs : List Str) : (xs.map V.str).all flatV = true := by simp [flatV]
theorem inV_ints (x : Int) (xs : List Int) : inV (.int x) (xs.map V.int) = decide (x ∈ xs) := by
  unfold inV
  rw [List.any_map]
  rw [Bool.eq_iff_iff]
  simp [eqV]
theorem inV_strs (x : Str) (xs : List Str) : inV (.str x) (xs.map V.str) = decide (x ∈ xs) := by
  unfold inV
  rw [List.any_map]
  rw [Bool.eq_iff_iff]
  simp [eqV]
theorem v_inI {c : List Int → D} (hc : IsSq c cI) : Op2 K (rIn K false) cI c cB (fun _ _ => True) (fun x xs => decide (x ∈ xs)) := fun A H x y v w Q _ z1 z2 _ k => by
  cases z1.int_inv
  obtain ⟨a, vs, rfl, hs, l, _, _⟩ := hc.inv z2
  cases fzl_ints l
  exact ⟨a, _, rfl, hs, rfl, flat_ints _, by
    rw [if_neg Bool.false_ne_true, inV_ints]
    exact k _ H (Fr.refl _ _) (.bl _)⟩
theorem v_niI {c : List Int → D} (hc : IsSq c cI) : Op2 K (rIn K true) cI c cB (fun _ _ => True) (fun x xs => !decide (x ∈ xs)) := fun A H x y v w Q _ z1 z2 _ k => by
  cases z1.int_inv
  obtain ⟨a, vs, rfl, hs, l, _, _⟩ := hc.inv z2
  cases fzl_ints l
  exact ⟨a, _, rfl, hs, rfl, flat_ints _, by
    rw [if_pos rfl, inV_ints]
    exact k _ H (Fr.refl _ _) (.bl _)⟩
theorem v_inS {c : List Str → D} (hc : IsSq c cS) : Op2 K (rIn K false) cS c cB (fun _ _ => True) (fun x xs => decide (x ∈ xs)) := fun A H x y v w Q _ z1 z2 _ k => by
  cases z1.str_inv
  obtain ⟨a, vs, rfl, hs, l, _, _⟩ := hc.inv z2
  cases fzl_strs l
  exact ⟨a, _, rfl, hs, rfl, flat_strs _, by
    rw [if_neg Bool.false_ne_true, inV_strs]
    exact k _ H (Fr.refl _ _) (.bl _)⟩
theorem v_niS {c : List Str → D} (hc : IsSq c cS) : Op2 K (rIn K true) cS c cB (fun _ _ => True) (fun x xs => !decide (x ∈ xs)) := fun A H x y v w Q _ z1 z2 _ k => by
  cases z1.str_inv
  obtain ⟨a, vs, rfl, hs, l, _, _⟩ := hc.inv z2
  cases fzl_strs l
  exact ⟨a, _, rfl, hs, rfl, flat_strs _, by
    rw [if_pos rfl, inV_strs]
    exact k _ H (Fr.refl _ _) (.bl _)⟩
end
end Y
namespace Y
open PySem PySem.Spec PyProof.Rows L2

/-! ### xs[i], by values -/
theorem get_listP {X : Cx} : PGet X (rIxL X.K) := by
  intro pins s σ H o i ov iv Q I ro ri h
  obtain ⟨p, xs, j, z, rfl, rfl, hq, he, q⟩ := h
  cases ro
  obtain ⟨t, rfl⟩ := ri
  obtain ⟨its, r, pl, hz⟩ := I.list hq
  obtain ⟨n, h1, h2, h3, h4, h5⟩ := atI_get he
  obtain ⟨w, ew, rw'⟩ := r.get h2
  have hl := r.length
  have hn := line63
  have fin : EP X pins σ Q w s := ⟨z, H, I, rw', q⟩
  by_cases h0 : 0 ≤ j
  · have hj : j.toNat = n := by
      rw [seqIndex_of h0 h5] at h1
      exact Option.some.inj h1
    exact PySem.wpAny_getItem_list pl.isList h0 (by omega) (by rw [hj]; simpa using ew) fin
  · have hj : (j + (its.toArray.size : Int)).toNat = n := by
      rw [seqIndex_neg (by omega) h4] at h1
      rw [List.size_toArray, ← hl]
      exact Option.some.inj h1
    exact wpAny_getItem_list_neg pl.isList (by omega) (by rw [List.size_toArray] <;> omega) (by omega) (by rw [hj]; simpa using ew) fin

def setI {α : Type} (xs : List α) (i : Int) (v : α) : List α := match ixN xs.length i with
  | some j => xs.set j v
  | none => xs
theorem CIx.ix {α : Type} {xs : List α} {i : Int} (h : CIx xs i) : ∃ j, ixN xs.length i = some j ∧ j < xs.length := by
  obtain ⟨h1, h2⟩ := h
  unfold ixN
  by_cases h0 : 0 ≤ i
  · exact ⟨i.toNat, by rw [if_pos h0, if_pos h2], by omega⟩
  · exact ⟨(i + xs.length).toNat, by rw [if_neg h0, if_pos h1], by omega⟩
theorem setI_nat {α : Type} {xs : List α} {i : Int} {v : α} (h0 : 0 ≤ i) (h1 : i < xs.length) : setI xs i v = xs.set i.toNat v := by
  unfold setI ixN
  rw [if_pos h0, if_pos h1]
theorem setI_length {α : Type} (xs : List α) (i : Int) (v : α) : (setI xs i v).length = xs.length := by
  unfold setI
  split
  · simp
  · rfl
theorem setI_mem {α : Type} {xs : List α} {i : Int} {v x : α} (h : x ∈ setI xs i v) : x = v ∨ x ∈ xs := by
  unfold setI at h
  split at h
  · rcases List.mem_or_eq_of_mem_set h with h | h
    · exact .inr h
    · exact .inl h
  · exact .inr h
section
variable {K : Frag} {A : List Addr} {H : Hp} {α : Type} {c : α → D}
theorem FzL.setI {vs : List V} {xs : List α} {j : Nat} {v : V} {x : α} (h : FzL K A H vs (xs.map c)) (z : Fz K A H v (c x)) : FzL K A H (vs.set j v) ((xs.set j x).map c) := by
  rw [List.map_set]
  exact h.set _ z
end
section
variable {X : Cx} {B : Bd} {ow owS : List Nat} {E R S α : Type} {Γ : E → List (Option D)} {ΓS : S → List (Option D)} {cr : R → D} {ci : R → List D} {pos px py ps' : Pos} {e ei : Expr} {p : Bool} {c : α → D} {G Gi : E → Prop} {d : E → α} {di : E → Int} {u : E → E} {y : Str}
/-- target = e -/
theorem s_asgT {tg : Expr} {js : List Nat} {g : TG} {ft : α → List (Option D) → List (Option D)} (he : De X B ow Γ p true e c G d u) (hg : PG X tg g) (ht : TgR X.K c js g ft) (hjs : ∀ j ∈ js, j ∉ ow := by decide)
    (hs : swapsWithSole [tg] e pos.line X.env = pure false := by rfl) (hw : swappedStores [tg] e X.env = pure none := by rfl) (h1 : (assignEach [tg] X.env).map (·.2) = [assign tg X.env] := by rfl) :
    Ds X B ow Γ cr ci owS ΓS (.Assign [tg] e pos) G (fun ε => .nx (u ε, d ε)) ow (fun q : E × α => ft q.2 (Γ q.1)) :=
  ⟨(ps_asg he.pe hg hs hw h1).weaken fun Dn σ H ⟨H0, ε, rl, g, k⟩ => ⟨H0, ε, rl, g, fun v H' f r z => ht B H0 ow σ H' _ v _ _ hjs r z fun σ' r' _ _ => k σ' H' r'⟩⟩
/-- a list of one's own is at hand -/
theorem Rel.ownAt {K : Frag} {B : Bd} {H0 H : Hp} {σ : L2.St} {γ : List (Option D)} {j : Nat} {xs : List α} (r : Rel K B H0 ow σ H γ) (hj : j ∈ ow) (h : γ[j]? = some (some (.list (xs.map c)))) :
    ∃ a vs, σ[j]? = some (some (.ref a)) ∧ a ∉ B.base ∧ (H a = some (.lst vs) ∧ vs.length ≤ szN) ∧ FzL K (B.full σ ow) H vs (xs.map c) ∧ vs.length = xs.length := by
  obtain ⟨a, vs, ds, e1, e2, e3, e4⟩ := r.own j _ hj h
  injection e2 with e2
  subst e2
  exact ⟨a, vs, e1, r.apart a (mem_oa.mpr ⟨j, hj, e1⟩), e3, e4, by simpa using e4.length⟩
theorem s_app (j : Nat) (gt : E → List α) (hget : ∀ ε, (Γ ε)[j]? = some (some (.list ((gt ε).map c)))) (he : De X B ow Γ p true e c G d u) (hj : j ∈ ow := by decide) (hN : X.N[j]? = some y := by rfl)
    (hv : Vis X.env.scope y := by first | exact Or.inl rfl | exact Or.inr (Or.inl rfl) | exact Or.inr (Or.inr rfl)) (hd : (y == ("__debug__" : Str)) = false := by decide) (hcd : (y == ("__classdict__" : Str)) = false := by decide)
    {apos cpos : Pos} (hbase : attributeBase (.Name y py) "append" X.env (eval (.Name y py) X.env) = eval (.Name y py) X.env := by rfl)
    (hfew : ((backTo cpos (starEach [e] X.env)).all (fun x => !x.1) && (backToKw cpos (keywordEach [] X.env)).all (fun x => x.1.isSome) && decide ([e].length + ([] : List Keyword).length + (if ([] : List Keyword).isEmpty then 0 else 1) < 30)) = true := by rfl)
    (hline : (apos.endLine == cpos.line) = true := by rfl) (hst : starEach [e] X.env = (false, eval e X.env) :: starEach [] X.env := by rfl) (hpl : (backTo cpos (starEach [] X.env)).any (·.1) = false := by rfl)
    (hs : swapsWith (.Call (.Attribute (.Name y py) "append" apos) [e] [] cpos) none pos.line X.env = pure false := by rfl) :
    Ds X B ow Γ cr ci owS ΓS (.Expr (.Call (.Attribute (.Name y py) "append" apos) [e] [] cpos) pos) (fun ε => G ε ∧ (gt (u ε)).length < 16777216) (fun ε => .nx (u ε, gt (u ε) ++ [d ε])) ow (fun q : E × List α => (Γ q.1).set j (some (.list (q.2.map c)))) :=
  ⟨(ps_expr (pe_bm PySem.F.plainAttrs_list PySem.F.slot_list_append PySem.F.type_list_append mt_append (pe_var hN hv hd hcd) (pa_cons he.pe pa_nil hst) hbase hfew hline hst hpl) hs).weaken fun Dn σ H ⟨H0, ε, rl, ⟨g, gl⟩, k⟩ => by
    obtain ⟨a, vs, e1, _, e3, e4, _⟩ := rl.ownAt hj (hget ε)
    refine ⟨_, e1, .inl ⟨rfl, _, .inl (.inl e3.1)⟩, H0, ε, rl, g, fun v H1 f1 r1 z1 => ?_⟩
    obtain ⟨a', vs', e1', nb, e3', e4', hl⟩ := r1.ownAt hj (hget (u ε))
    have ea : a' = a := by rw [e1] at e1'; injection e1' with q; injection q with q; injection q with q; exact q.symm
    subst ea
    have hlt : vs'.length < 16777216 := by rw [hl]; exact gl
    refine ⟨a', vs', v, rfl, rfl, e3'.1, by rw [sizeLine_eq]; exact hlt, ?_⟩
    have ha : a' ∈ B.full σ ow := mem_full.mpr (.inr (mem_oa.mpr ⟨j, hj, e1⟩))
    refine k _ _ (r1.write hj e1 (Fr.at (by simp)) upd_same (by rw [List.length_append]; exact hlt) ?_)
    rw [List.map_append]
    exact (e4'.fr (Fr.at ha)).append (.cons (z1.fr (Fr.at ha)) .nil)⟩
/-- xs[i] = e -/
theorem s_setL {p2 : Bool} {u2 : E → E} (j : Nat) (gt : E → List α) (hget : ∀ ε, (Γ ε)[j]? = some (some (.list ((gt ε).map c)))) (he : De X B ow Γ p true e c G d u) (hi : De X B ow Γ p2 true ei cI Gi di u2) (hj : j ∈ ow := by decide) (hN : X.N[j]? = some y := by rfl)
    (hv : Vis X.env.scope y := by first | exact Or.inl rfl | exact Or.inr (Or.inl rfl) | exact Or.inr (Or.inr rfl)) (hd : (y == ("__debug__" : Str)) = false := by decide) (hcd : (y == ("__classdict__" : Str)) = false := by decide)
    (ha : ∀ v, assign (.Subscript (.Name y py) ei px) X.env v = (do
      let ov ← holding [v] (eval (.Name y py) X.env)
      let iv ← holding [v, ov] (eval ei X.env)
      standAt px
      holding [v, ov, iv] (setItem ov iv v)
      release [v, ov, iv] []) := by intro _; rfl)
    (hs : swapsWithSole [.Subscript (.Name y py) ei px] e pos.line X.env = pure false := by rfl) (hw : swappedStores [.Subscript (.Name y py) ei px] e X.env = pure none := by rfl) (h1 : (assignEach [.Subscript (.Name y py) ei px] X.env).map (·.2) = [assign (.Subscript (.Name y py) ei px) X.env] := by rfl) :
    Ds X B ow Γ cr ci owS ΓS (.Assign [.Subscript (.Name y py) ei px] e pos) (fun ε => G ε ∧ Gi (u ε) ∧ CIx (gt (u2 (u ε))) (di (u ε))) (fun ε => .nx (u2 (u ε), setI (gt (u2 (u ε))) (di (u ε)) (d ε))) ow (fun q : E × List α => (Γ q.1).set j (some (.list (q.2.map c)))) :=
  ⟨(ps_asg he.pe (pg_sub (pe_var hN hv hd hcd) hi.pe set_list ha) hs hw h1).weaken fun Dn σ H ⟨H0, ε, rl, ⟨g, g2, g3⟩, k⟩ => ⟨H0, ε, rl, g, fun v H1 f1 r1 z1 => by
    obtain ⟨a, vs, e1, _, e3, e4, hl⟩ := r1.ownAt hj (hget (u ε))
    refine ⟨_, e1, H0, u ε, r1, g2, fun w H2 f2 r2 z2 => ?_⟩
    obtain ⟨a', vs', e1', nb, e3', e4', hl'⟩ := r2.ownAt hj (hget (u2 (u ε)))
    have ea : a' = a := by rw [e1] at e1'; injection e1' with q; injection q with q; injection q with q; exact q.symm
    subst ea
    cases z2.int_inv
    obtain ⟨n, hn, _⟩ := g3.ix
    refine ⟨a', vs', _, n, rfl, rfl, e3'.1, by rw [hl']; exact hn, ?_⟩
    have ha : a' ∈ B.full σ ow := mem_full.mpr (.inr (mem_oa.mpr ⟨j, hj, e1⟩))
    refine k _ _ (r2.write hj e1 (Fr.at (by simp)) upd_same (by rw [List.length_set]; exact e3'.2) ?_)
    have es : setI (gt (u2 (u ε))) (di (u ε)) (d ε) = (gt (u2 (u ε))).set n (d ε) := by
      unfold setI
      rw [hn]
    show FzL _ _ _ _ ((setI (gt (u2 (u ε))) (di (u ε)) (d ε)).map c)
    rw [es]
    have z1' : Fz X.K (B.full σ ow) H2 v (c (d ε)) := cond_fz (s := true) (A0 := B.base) (fun a h => mem_full.mpr (.inr h)) rfl f2 z1
    exact (e4'.fr (Fr.at ha)).setI (z1'.fr (Fr.at ha))⟩⟩
/-- xs[i] op= e of ints -/
theorem s_augL {op : Operator} {f : Int → Int → Int} {dv : E → Int} (j : Nat) (gt : E → List Int) (ho : PIp X op (ipI f)) (hget : ∀ ε, (Γ ε)[j]? = some (some (.list ((gt ε).map cI)))) (hi : De X B ow Γ true true ei cI Gi di (fun ε => ε)) (he : De X B ow Γ true true e cI G dv (fun ε => ε))
    (hj : j ∈ ow := by decide) (hN : X.N[j]? = some y := by rfl) (hv : Vis X.env.scope y := by first | exact Or.inl rfl | exact Or.inr (Or.inl rfl) | exact Or.inr (Or.inr rfl)) (hd : (y == ("__debug__" : Str)) = false := by decide) (hcd : (y == ("__classdict__" : Str)) = false := by decide)
    (ha : ∀ ov iv new, augStore ei ov iv new = (do holding [new, ov, iv] (setItem ov iv new); release [new, ov, iv] []; pure .next) := by intros; rfl) :
    Ds X B ow Γ cr ci owS ΓS (.AugAssign (.Subscript (.Name y py) ei px) op e pos) (fun ε => Gi ε ∧ G ε ∧ CIx (gt ε) (di ε)) (fun ε => .nx (ε, setI (gt ε) (di ε) (f (ixD (gt ε) (di ε)) (dv ε)))) ow (fun q : E × List Int => (Γ q.1).set j (some (.list (q.2.map cI)))) :=
  ⟨(ps_augS (pe_var hN hv hd hcd) hi.pe get_listP he.pe ho set_list ha).weaken fun Dn σ H ⟨H0, ε, rl, ⟨g, g2, g3⟩, k⟩ => by
    obtain ⟨a, vs, e1, _, e3, e4, hl⟩ := rl.ownAt hj (hget ε)
    refine ⟨_, e1, H0, ε, rl, g, fun w H1 f1 r1 z1 => ?_⟩
    have f1' : Fr [] H H1 := f1
    have q1 := f1' _ _ e3.1 (by simp)
    cases z1.int_inv
    cases fzl_ints e4
    refine ⟨a, _, _, .int (ixD (gt ε) (di ε)), rfl, rfl, .inl (.inl q1), by rw [atI_map, g3.at]; rfl, H0, ε, r1, g2, fun w2 H2 f2 r2 z2 => ?_⟩
    have f2' : Fr [] H1 H2 := f2
    cases z2.int_inv
    obtain ⟨a', vs', e1', nb, e3', e4', hl'⟩ := r2.ownAt hj (hget ε)
    have ea : a' = a := by rw [e1] at e1'; injection e1' with q; injection q with q; injection q with q; exact q.symm
    subst ea
    obtain ⟨n, hn, _⟩ := g3.ix
    refine ⟨_, _, rfl, rfl, a', vs', _, n, rfl, rfl, e3'.1, by rw [hl']; exact hn, ?_⟩
    have ha : a' ∈ B.full σ ow := mem_full.mpr (.inr (mem_oa.mpr ⟨j, hj, e1⟩))
    refine k _ _ (r2.write hj e1 (Fr.at (by simp)) upd_same (by rw [List.length_set]; exact e3'.2) ?_)
    have es : setI (gt ε) (di ε) (f (ixD (gt ε) (di ε)) (dv ε)) = (gt ε).set n (f (ixD (gt ε) (di ε)) (dv ε)) := by
      unfold setI
      rw [hn]
    show FzL _ _ _ _ ((setI (gt ε) (di ε) (f (ixD (gt ε) (di ε)) (dv ε))).map cI)
    rw [es]
    exact (e4'.fr (Fr.at ha)).setI (.int _)⟩
end

/-! ### zip -/
section
variable {X : Cx} {B : Bd} {ow : List Nat} {E α β : Type} {Γ : E → List (Option D)} {p p1 p2 : Bool} {e1 e2 : Expr} {pos px : Pos} {c : α → D} {cb : β → D} {G G1 G2 : E → Prop} {d1 : E → List α} {d2 : E → List β} {u u1 u2 : E → E}
theorem walk_zipT {K : Frag} {a b : Addr} {xs ys : List V} {n : Nat} (hn : n = min xs.length ys.length) : Walk (RZ.ItzT K a b) n (fun H => SqT K H a xs ∧ SqT K H b ys) (YPair (fun i => xs[i]?) (fun i => ys[i]?)) := by
  subst hn
  refine ⟨fun i _ hi q => ?_, fun _ q => ⟨xs, ys, q.1, q.2, by omega⟩, fun i H v H' _ q y => ?_⟩
  · have h1 : i < xs.length := by omega
    have h2 : i < ys.length := by omega
    exact ⟨xs, ys, xs[i], ys[i], q.1, q.2, by simp [h1], by simp [h2]⟩
  · obtain ⟨T, x, y, h1, h2, h3, h4, h5⟩ := y
    exact ⟨T, x, y, h1, h2, h3, h4 _ q.1, h5 _ q.2⟩
theorem zip_get {xs : List α} {ys : List β} {i : Nat} {a : α} {b : β} (h1 : xs[i]? = some a) (h2 : ys[i]? = some b) : (xs.zip ys)[i]? = some (a, b) := by
  rw [List.getElem?_zip_eq_some]
  exact ⟨h1, h2⟩
theorem fzl_at {K : Frag} {A : List Addr} {H : Hp} {vs : List V} {xs : List α} {i : Nat} {v : V} (l : FzL K A H vs (xs.map c)) (h : vs[i]? = some v) : ∃ a, xs[i]? = some a ∧ Fz K A H v (c a) := by
  obtain ⟨d', h1, z1⟩ := l.get h
  rw [List.getElem?_map] at h1
  cases h2 : xs[i]? with
  | none => rw [h2] at h1; cases h1
  | some a =>
    rw [h2] at h1
    injection h1 with h1
    exact ⟨a, rfl, by rw [h1]; exact z1⟩
theorem i_zipL {elts : List Expr} {kk : Nat} {tpos : Pos} (h : DA X B ow Γ p true [e1, e2] (ac (cL c) (ac (cL cb) an)) G (fun ε => (d1 ε, d2 ε, ())) u) (hm : X.mg "zip" = none) (hg : Gl X "zip" := by rfl) (hs : starEach [e1, e2] X.env = (false, eval e1 X.env) :: starEach [e2] X.env := by rfl)
    (hpl : (backTo pos (starEach [e2] X.env)).any (·.1) = false := by rfl) : DI X B ow Γ p (.Tuple elts kk tpos) (.Call (.Name "zip" px) [e1, e2] [] pos) (c2 c cb) G (fun ε => (d1 ε).zip (d2 ε)) u :=
  ⟨(RZ.pi_zipA hg hm h.pa hs hpl).weaken fun σ H R ⟨H0, ε, rl, g, k⟩ => ⟨H0, ε, rl, g, fun v H1 f r z => by
    obtain ⟨x, y, rfl, z1, z2⟩ := fzl2 (ds := []) z
    obtain ⟨a, vs, rfl, n, l⟩ := z1.lst_inv
    obtain ⟨b, ws, rfl, n2, l2⟩ := z2.lst_inv
    have h1 : vs.length = (d1 ε).length := by simpa using l.length
    have h2 : ws.length = (d2 ε).length := by simpa using l2.length
    refine ⟨a, b, vs, ws, rfl, .inl ⟨n.sq, n2.sq, ?_⟩⟩
    have hz : ((d1 ε).zip (d2 ε)).length = min vs.length ws.length := by rw [List.length_zip, h1, h2]
    refine k _ H1 f r ((walk_zip hz).mono (fun H' f' => ⟨(n.fr f').sq, (n2.fr f').sq⟩) fun i H x H' _ f' y => yd_pair f' y fun va vb q1 q2 => ?_) (by rw [hz]; exact Nat.le_trans (Nat.min_le_left _ _) n.2)
    obtain ⟨a', i1, w1⟩ := fzl_at l q1
    obtain ⟨b', i2, w2⟩ := fzl_at l2 q2
    exact ⟨a', b', zip_get i1 i2, w1, w2⟩⟩⟩
theorem i_zipT {elts : List Expr} {kk : Nat} {tpos : Pos} (h : DA X B ow Γ p true [e1, e2] (ac (cT c) (ac (cT cb) an)) G (fun ε => (d1 ε, d2 ε, ())) u) (hm : X.mg "zip" = none) (hg : Gl X "zip" := by rfl) (hs : starEach [e1, e2] X.env = (false, eval e1 X.env) :: starEach [e2] X.env := by rfl)
    (hpl : (backTo pos (starEach [e2] X.env)).any (·.1) = false := by rfl) : DI X B ow Γ p (.Tuple elts kk tpos) (.Call (.Name "zip" px) [e1, e2] [] pos) (c2 c cb) G (fun ε => (d1 ε).zip (d2 ε)) u :=
  ⟨(RZ.pi_zipA hg hm h.pa hs hpl).weaken fun σ H R ⟨H0, ε, rl, g, k⟩ => ⟨H0, ε, rl, g, fun v H1 f r z => by
    obtain ⟨x, y, rfl, z1, z2⟩ := fzl2 (ds := []) z
    obtain ⟨a, vs, rfl, n, l⟩ := z1.tup_inv
    obtain ⟨b, ws, rfl, n2, l2⟩ := z2.tup_inv
    have h1 : vs.length = (d1 ε).length := by simpa using l.length
    have h2 : ws.length = (d2 ε).length := by simpa using l2.length
    refine ⟨a, b, vs, ws, rfl, .inr ⟨n.sq, n2.sq, ?_⟩⟩
    have hz : ((d1 ε).zip (d2 ε)).length = min vs.length ws.length := by rw [List.length_zip, h1, h2]
    refine k _ H1 f r ((walk_zipT hz).mono (fun H' f' => ⟨(n.fr f').sq, (n2.fr f').sq⟩) fun i H x H' _ f' y => yd_pair f' y fun va vb q1 q2 => ?_) (by rw [hz]; exact Nat.le_trans (Nat.min_le_left _ _) n.sz)
    obtain ⟨a', i1, w1⟩ := fzl_at l q1
    obtain ⟨b', i2, w2⟩ := fzl_at l2 q2
    exact ⟨a', b', zip_get i1 i2, w1, w2⟩⟩⟩
end
end Y
namespace Y
open PySem PySem.Spec PyProof.Rows L2

/-! ### defs by their typed bodies -/
abbrev XF (P : Program) (w : World) (K : Frag) (mg : Str → Option Value) (base : Heap) (N : List Str) (qual : Str) (st : Stmt) (f : Addr) (cdv : Value) (A : Around) (outer : List Env) (s : Shared) (H : Hp) (E : XK) : Cx :=
  (cxOf CX0 P w K mg base N qual (defScope st) f cdv A outer s H E).nox
section
variable {K : Frag} {H : Hp} {A : List Addr}
theorem fz_slots : ∀ {vs : List V} {ds : List D} {i : Nat} {d : D} {m n : Nat}, FzL K A H vs ds → (ds.map some ++ List.replicate m none)[i]? = some (some d) → ∃ v, (vs.map some ++ List.replicate n none)[i]? = some (some v) ∧ Fz K A H v d
  | [], [], i, d, m, n, .nil, h => by
    have h' : (List.replicate m (none : Option D))[i]? = some (some d) := by simpa using h
    have := List.eq_of_mem_replicate (List.mem_of_getElem? h')
    cases this
  | v :: vs, d' :: ds, 0, d, m, n, .cons z l, h => by
    have e : d' = d := by simpa using h
    exact ⟨v, rfl, e ▸ z⟩
  | v :: vs, d' :: ds, i + 1, d, m, n, .cons z l, h => by
    have h' : (ds.map some ++ List.replicate m none)[i]? = some (some d) := by simpa using h
    obtain ⟨w, e, q⟩ := fz_slots (n := n) l h'
    exact ⟨w, by simpa using e, q⟩
theorem rel_start {N : List Str} {vs : List V} {ds : List D} {m : Nat} (t : Tr A H) (z : FzL K A H vs ds) (hN : N.length = ds.length + m) : Rel K ⟨A, [], none⟩ H [] (L2.start N vs) H (ds.map some ++ List.replicate m none) := by
  have hl := z.length
  have ef : (⟨A, [], none⟩ : Bd).full (L2.start N vs) [] = A := by simp [Bd.full, Bd.base, oa]
  refine ⟨by unfold L2.start; simp; omega, fun i j a h => absurd h (by simp), fun i d _ h => ?_, fun i d h => absurd h (by simp), fun a h => absurd h (by simp [oa]), Fr.refl _ _, fun a h => absurd h (by simp [oa]), fun a h => ⟨t a h, by simp⟩, fun a h => absurd h (by simp), fun p h => absurd h (by simp)⟩
  rw [ef]
  exact fz_slots z h
theorem rel_startS {N : List Str} {p : Addr} {us ws : List V} {ds di : List D} {m : Nat} (t : Tr A H) (hp : p ∉ A) (hq : H p = some (.lst us) ∧ us.length ≤ szN) (zi : FzL K (A ++ [p]) H us di) (z : FzL K (A ++ [p]) H ws ds) (hN : N.length = ds.length + 1 + m) :
    Rel K ⟨A, [], some p⟩ H [0] (L2.start N (.ref p :: ws)) H (some (.list di) :: (ds.map some ++ List.replicate m none)) := by
  have hl := z.length
  have es : L2.start N (.ref p :: ws) = some (.ref p) :: (ws.map some ++ List.replicate (N.length - (ws.length + 1)) none) := rfl
  have ea : oa (L2.start N (.ref p :: ws)) [0] = [p] := by
    rw [es]
    simp [oa]
  have ef : (⟨A, [], some p⟩ : Bd).full (L2.start N (.ref p :: ws)) [0] = A ++ [p] := by simp [Bd.full, Bd.base, ea]
  refine ⟨by rw [es]; simp; omega, fun i j a h h' _ _ => ?_, fun i d hi h => ?_, fun i d hi h => ?_, fun a h => ?_, Fr.refl _ _, fun a h => ?_, fun a h => ⟨t a h, fun z => hp ?_⟩, fun a h => absurd h (by simp), fun q h => ⟨by simp, ?_⟩⟩
  · rw [List.mem_singleton.mp h, List.mem_singleton.mp h']
  · rw [ef]
    cases i with
    | zero => exact absurd (List.mem_singleton.mpr rfl) hi
    | succ i =>
      have h' : (ds.map some ++ List.replicate m none)[i]? = some (some d) := by simpa using h
      obtain ⟨v, e, q⟩ := fz_slots (n := N.length - (ws.length + 1)) z h'
      exact ⟨v, by rw [es]; simpa using e, q⟩
  · rw [List.mem_singleton.mp hi] at h ⊢
    have e : PyData.list di = d := by simpa using h
    rw [ef]
    exact ⟨p, us, di, by rw [es]; rfl, e.symm, hq, zi⟩
  · rw [ea] at h
    rw [List.mem_singleton.mp h]
    exact ⟨us, hq.1⟩
  · rw [ea] at h
    right
    rw [List.mem_singleton.mp h]; simp
  · have e : a = p := by simpa using z
    rw [← e]; exact h
  · injection h with h
    rw [es, h]; rfl
end
section
variable {P : Program} {w : World} {K : Frag} {mg : Str → Option Value} {base : Heap} {k : Nat} {f : Addr} {fd : FuncData} {x qual : Str} {st : Stmt} {N ps : List Str} {α β τ R N' S' : Type} {cs : α → List D} {c : β → D} {Gf : α → Prop} {fm : α → β} {cr : R → D} {ci : R → List D}
/-- how a body ends, for a def that promises fm -/
def Ends (cr : R → D) (c : β → D) (o : Out N' R S') (b : β) : Prop := match o with
  | .nx _ => c b = .none
  | .rt r => cr r = c b
  | _ => False
theorem fn_pure {owS ow' : List Nat} {ΓS : S' → List (Option D)} {Γ' : N' → List (Option D)} {G : α → Prop} {d : α → Out N' R S'} (F : Fun K x qual st f fd) (S : FnScope N ps (defScope st)) (m : Nat) (hcs : ∀ a, (cs a).length = ps.length) (hN : N.length = ps.length + m)
    (body : ∀ (A0 : List Addr) (cdv : Value) (A : Around) (outer : List Env) (s : Shared) (H : Hp) (E : XK), Room k (A.deeper (envOfC qual (defScope st) s.heap.objs.size f cdv)) → A.guards = some [] →
      Dss (XF P w K mg base N qual st f cdv A outer s H E) ⟨A0, [], none⟩ [] (fun a : α => (cs a).map some ++ List.replicate m none) cr ci owS ΓS (defBody st) G d ow' Γ')
    (hG : ∀ a, Gf a → G a) (hd : ∀ a, Gf a → Ends cr c (d a) (fm a)) : FnG P w K mg base (k + 1) f fd ps (spP K cs c Gf fm) := by
  refine fnG F S (fun vs H Q E ⟨A, a, _, z, _⟩ => by rw [z.length, hcs]) fun cdv A outer s H vs Q E hr hg ⟨A0, a, t, z, g, q⟩ => ⟨_, (body A0 cdv A outer s H E hr hg).pss, H, a, rel_start t z (by rw [hN, hcs]), hG a g, ?_⟩
  have e := hd a g
  revert e
  cases d a with
  | nx n => exact fun e σ' H' r => q _ H' r.fr (by rw [e]; exact .non)
  | rt r => exact fun e v H' ex => q v H' ex.1 (by
    have z1 : Fz K ((⟨A0, [], none⟩ : Bd).base ++ (none : Option Addr).toList) H' v (cr r) := ex.2.1
    rw [← e]; simpa [Bd.base] using z1)
  | bk _ => exact fun e => e.elim
  | ct _ => exact fun e => e.elim
/-- a def that may change its first argument, a list -/
theorem fn_state {cb : τ → List D} {GS : α × τ → Prop} {fS : α × τ → β × τ} {owS ow' : List Nat} {ΓS : S' → List (Option D)} {Γ' : N' → List (Option D)} {G : α × τ → Prop} {d : α × τ → Out N' R S'} (F : Fun K x qual st f fd) (S : FnScope N ps (defScope st)) (m : Nat)
    (hcs : ∀ a, (cs a).length + 1 = ps.length) (hN : N.length = ps.length + m)
    (body : ∀ (A0 : List Addr) (p : Addr) (cdv : Value) (A : Around) (outer : List Env) (s : Shared) (H : Hp) (E : XK), Room k (A.deeper (envOfC qual (defScope st) s.heap.objs.size f cdv)) → A.guards = some [] →
      Dss (XF P w K mg base N qual st f cdv A outer s H E) ⟨A0, [], some p⟩ [0] (fun a : α × τ => some (.list (cb a.2)) :: ((cs a.1).map some ++ List.replicate m none)) cr ci owS ΓS (defBody st) G d ow' Γ')
    (hG : ∀ a, GS a → G a) (hd : ∀ a, GS a → ∃ r, d a = .rt r ∧ cr r = c (fS a).1 ∧ ci r = cb (fS a).2) : FnG P w K mg base (k + 1) f fd ps (spS K cs cb c GS fS) := by
  refine fnG F S (fun vs H Q E ⟨A, p, us, ws, a, t, _, _, e, _, _, z, _⟩ => by rw [e, List.length_cons, z.length, hcs]) fun cdv A outer s H vs Q E hr hg ⟨A0, p, us, ws, a, t, tr, hp, e, hq, zi, z, g, q⟩ => ?_
  subst e
  refine ⟨_, (body A0 p cdv A outer s H E hr hg).pss, H, (a, t), rel_startS tr hp hq zi z (by rw [hN, ← hcs a]), hG _ g, ?_⟩
  obtain ⟨r, e1, e2, e3⟩ := hd _ g
  rw [e1]
  intro v H' ex
  obtain ⟨us', h1, h2⟩ := ex.2.2 p rfl
  have eb : (⟨A0, [], some p⟩ : Bd).base ++ (some p).toList = A0 ++ [p] := by simp [Bd.base]
  have z1 := ex.2.1
  rw [eb, e2] at z1
  have h2' : FzL K ((⟨A0, [], some p⟩ : Bd).base ++ (some p).toList) H' us' (ci r) := h2
  rw [eb, e3] at h2'
  exact q v H' us' ex.1 h1.1 h1.2 h2' z1
end
end Y
namespace Y
open PySem PySem.Spec PyProof.Rows L2

/-! ### comprehensions whose items change the state -/
section
variable {τ α β : Type}
def lcS (f : τ → α → β × τ) : τ → List α → List β × τ
  | s, [] => ([], s)
  | s, x :: xs => ((f s x).1 :: (lcS f (f s x).2 xs).1, (lcS f (f s x).2 xs).2)
def lcG (g : τ → α → Prop) (f : τ → α → β × τ) : τ → List α → Prop
  | _, [] => True
  | s, x :: xs => g s x ∧ lcG g f (f s x).2 xs
theorem lcS_app (f : τ → α → β × τ) : ∀ (xs ys : List α) (s : τ), lcS f s (xs ++ ys) = ((lcS f s xs).1 ++ (lcS f (lcS f s xs).2 ys).1, (lcS f (lcS f s xs).2 ys).2)
  | [], ys, s => rfl
  | x :: xs, ys, s => by
    show lcS f s (x :: (xs ++ ys)) = _
    simp only [lcS]
    rw [lcS_app f xs ys]
    rfl
theorem lcS_length (f : τ → α → β × τ) : ∀ (xs : List α) (s : τ), (lcS f s xs).1.length = xs.length
  | [], s => rfl
  | x :: xs, s => by simp only [lcS, List.length_cons, lcS_length f xs]
theorem lcG_app (g : τ → α → Prop) (f : τ → α → β × τ) : ∀ (xs ys : List α) (s : τ), lcG g f s (xs ++ ys) → lcG g f (lcS f s xs).2 ys
  | [], ys, s, h => h
  | x :: xs, ys, s, h => lcG_app g f xs ys _ h.2
end
section
variable {X : Cx} {B : Bd} {ow : List Nat} {E α β τ : Type} {Γ : E → List (Option D)} {pos : Pos} {tg e elt : Expr} {c : α → D} {ce : β → D} {G : E → Prop} {xs : E → List α} {ui : E → E} {js : List Nat} {g : TG} {ft : α → List (Option D) → List (Option D)} {Ge : E × α → Prop} {de : E × α → β} {us : E × α → τ} {own : List (Str × Nat)} {scope : Scope} {p pe : Bool}
def tTBs {E : Type} (K : Frag) (ow : List Nat) (Γ : E → List (Option D)) : TT := fun σ H Q => ∃ B', tTs K B' ow Γ true (fun _ => True) (fun _ => true) (fun q => q) σ H Q
def tSBs {E β : Type} (K : Frag) (ow : List Nat) (Γ : E → List (Option D)) (ce : β → D) (G : E → Prop) (d : E → β) (u : E → E) : TE := fun σ H Q => ∃ B', tS K B' ow Γ false true ce G d u σ H Q
/-- what a target leaves as it was -/
def TgF {α : Type} (js : List Nat) (f : α → List (Option D) → List (Option D)) : Prop := ∀ a γ i, i ∉ js → (f a γ)[i]? = γ[i]?
theorem tgf_name {α : Type} {c : α → D} (j : Nat) : TgF [j] fun a γ => γ.set j (some (c a)) := fun a γ i hi => List.getElem?_set_ne fun e => hi (by simp [e])
theorem tgf_pair {α β : Type} {ca : α → D} {cb : β → D} (j k : Nat) : TgF (α := α × β) [j, k] fun q γ => (γ.set j (some (ca q.1))).set k (some (cb q.2)) := fun a γ i hi => by
  rw [List.getElem?_set_ne fun e => hi (by simp [e]), List.getElem?_set_ne fun e => hi (by simp [e])]
theorem wipeG_out {γ : List (Option D)} {i : Nat} : ∀ {vs : List Nat}, i ∉ vs → (wipeG γ vs)[i]? = γ[i]?
  | [], _ => rfl
  | v :: vs, h => by
    unfold wipeG
    rw [List.getElem?_set_ne fun e => h (by simp [e])]
    exact wipeG_out fun z => h (List.mem_cons_of_mem _ z)
theorem lc_state (st : E → τ) (put : E → τ → E) (hpp : ∀ ε t t', put (put ε t) t' = put ε t') (hps : ∀ ε, put ε (st ε) = ε) (hsp : ∀ ε t, st (put ε t) = t) (ht : TgR X.K c js g ft) (hft : TgF js ft) (hlenE : ∀ ε t t', (Γ (put ε t)).length = (Γ (put ε t')).length) (hfz : ∀ ε t t' i d, i ∉ ow → (Γ (put ε t))[i]? = some (some d) → (Γ (put ε t'))[i]? = some (some d)) (hjv : ∀ j ∈ js, j ∈ own.map (·.2)) (hvo : ∀ j ∈ own.map (·.2), j ∉ ow) {σ : L2.St} {H : Hp} {Q : VK}
    (h : tFs X.K B ow Γ false ce (fun ε => G ε ∧ lcG (fun s x => Ge (put (ui ε) s, x)) (fun s x => (de (put (ui ε) s, x), us (put (ui ε) s, x))) (st (ui ε)) (xs ε)) (fun ε => (lcS (fun s x => (de (put (ui ε) s, x), us (put (ui ε) s, x))) (st (ui ε)) (xs ε)).1) (fun ε => put (ui ε) (lcS (fun s x => (de (put (ui ε) s, x), us (put (ui ε) s, x))) (st (ui ε)) (xs ε)).2) σ H Q) :
    tLc (tIs X.K B ow Γ p c G xs ui) g (tTBs X.K ow (fun q : E × α => ft q.2 (wipeG (Γ q.1) (own.map (·.2))))) (tSBs X.K ow (fun q : E × α => ft q.2 (wipeG (Γ q.1) (own.map (·.2)))) ce Ge de (fun q => (put q.1 (us q), q.2))) (own.map (·.2)) σ H Q := by
    obtain ⟨H0, ε, rl, ⟨g1, g2⟩, k⟩ := h
    refine ⟨H0, ε, rl, g1, fun J H1 f1 r1 w hsz Dl hD => ?_⟩
    have h0 : H0 Dl = none := (r1.h0 hD).resolve_right (r1.notio hD)
    let F : τ → α → β × τ := fun s x => (de (put (ui ε) s, x), us (put (ui ε) s, x))
    have fown : Fr (oa σ ow) H H1 := by
      cases p with
      | true => exact Fr.nil f1
      | false => exact f1
    have hDf0 : Dl ∉ oa σ ow := fun z => by
      obtain ⟨xs', e2⟩ := r1.trk Dl z
      rw [e2] at hD; cases hD
    refine lc_it w (g := g) (vs := own.map (·.2)) (σ := σ) (Qd := fun H => Q (.ref Dl) H) (fun i H' => Rel X.K (B.plus Dl) H0 ow σ H' (Γ (put (ui ε) (lcS F (st (ui ε)) ((xs ε).take i)).2)) ∧ Fr (oa σ ow) H1 H' ∧ ∃ ws, H' Dl = some (.lst ws) ∧ FzL X.K ((B.plus Dl).full σ ow) H' ws ((lcS F (st (ui ε)) ((xs ε).take i)).1.map ce))
      ⟨by rw [List.take_zero]; show Rel X.K (B.plus Dl) H0 ow σ _ (Γ (put (ui ε) (st (ui ε)))); rw [hps]; exact r1.plus hD, Fr.new hD, [], upd_same, by rw [List.take_zero]; exact .nil⟩ (fun i H' _ q => q.2.1.mono fun b hb => mem_full.mpr (.inr hb)) ?_ ?_
    · rintro i x H' H2 hlt ⟨r', f', ws, hw, hz⟩ ⟨fy, a, ea, hy⟩
      have hA : ∀ b ∈ (B.plus Dl).full σ ow, b ∈ B.full σ ow ∨ H1 b = none := fun b hb => by
        simp only [Bd.full, Bd.base, Bd.plus, List.mem_append, List.mem_cons] at hb ⊢
        rcases hb with (h | h | h) | h
        · exact .inl (.inl (.inl h))
        · rw [h]; exact .inr hD
        · exact .inl (.inl (.inr h))
        · exact .inl (.inr h)
      have zx := hy _ hA (f'.mono fun b hb => List.mem_append_left _ (mem_full.mpr (.inr hb))) r'.tracked
      have r2 := r'.grow fy
      have ew : oa (wipe σ (own.map (·.2))) ow = oa σ ow := oa_congr fun i hi => wipe_out fun z => hvo i z hi
      have ef : (B.plus Dl).full (wipe σ (own.map (·.2))) ow = (B.plus Dl).full σ ow := by unfold Bd.full; rw [ew]
      refine ht (B.plus Dl) H0 ow (wipe σ (own.map (·.2))) H2 (wipeG (Γ (put (ui ε) (lcS F (st (ui ε)) ((xs ε).take i)).2)) (own.map (·.2))) x a _ (fun j hj => hvo j (hjv j hj)) (r2.wipe hvo) (by rw [ef]; exact zx) fun σ2 r3 hs2 hl2 => ?_
      refine ⟨wipe_eq (by rw [hl2, wipe_length]) hjv hs2, B.plus Dl, H0, (put (ui ε) (lcS F (st (ui ε)) ((xs ε).take i)).2, a), r3, trivial, fun H3 f3 r4 => ?_⟩
      have f3' : Fr [] H2 H3 := f3
      have fall : Fr [] H' H3 := fy.trans f3'
      have eo2 : oa σ2 ow = oa σ ow := (oa_congr fun i hi => hs2 i fun z => hvo i (hjv i z) hi).trans ew
      have hd : (xs ε).drop i = a :: (xs ε).drop (i + 1) := by
        obtain ⟨hl, e⟩ := List.getElem?_eq_some_iff.mp ea
        rw [List.drop_eq_getElem_cons hl, e]
      have hta : (xs ε).take (i + 1) = (xs ε).take i ++ [a] := by rw [List.take_add_one, ea]; rfl
      have hga : Ge (put (ui ε) (lcS F (st (ui ε)) ((xs ε).take i)).2, a) := by
        have := lcG_app _ F ((xs ε).take i) ((xs ε).drop i) (st (ui ε)) (by rw [List.take_append_drop]; exact g2)
        rw [hd] at this
        exact this.1
      have hlen : ws.length ≤ i := by
        have h1 := hz.length
        rw [List.length_map, lcS_length] at h1
        rw [h1, List.length_take]; exact Nat.min_le_left _ _
      show (if true = true then _ else _)
      rw [if_pos rfl]
      refine ⟨B.plus Dl, H0, (put (ui ε) (lcS F (st (ui ε)) ((xs ε).take i)).2, a), r4, hga, fun v H4 f4 r5 z5 => ⟨ws, ?_, ?_, ?_⟩⟩
      · have f4' : Fr (oa σ2 ow) H3 H4 := f4
        exact f4' _ _ (fall _ _ hw (by simp)) (by rw [eo2]; exact hDf0)
      · rw [sizeLine_eq]
        have : (xs ε).length ≤ 16777216 := hsz
        omega
      · have f4' : Fr (oa σ ow) H3 H4 := by
          have f4' : Fr (oa σ2 ow) H3 H4 := f4
          rw [eo2] at f4'; exact f4'
        have fa : Fr (oa σ ow) H' H4 := (fall.mono (by simp)).trans f4'
        have hDx : Dl ∈ (B.plus Dl).ex := by simp [Bd.plus]
        have hDf : Dl ∈ (B.plus Dl).full σ ow := List.mem_append_left _ (List.mem_append_right _ hDx)
        have e6 : lcS F (st (ui ε)) ((xs ε).take (i + 1)) = ((lcS F (st (ui ε)) ((xs ε).take i)).1 ++ [de (put (ui ε) (lcS F (st (ui ε)) ((xs ε).take i)).2, a)], us (put (ui ε) (lcS F (st (ui ε)) ((xs ε).take i)).2, a)) := by
          rw [hta, lcS_app]; rfl
        rw [e6]
        have r6 : Rel X.K (B.plus Dl) H0 ow σ H4 (Γ (put (ui ε) (us (put (ui ε) (lcS F (st (ui ε)) ((xs ε).take i)).2, a)))) := by
          have hσ2 : ∀ i ∈ ow, σ2[i]? = σ[i]? := fun i hi => (hs2 i fun z => hvo i (hjv i z) hi).trans (wipe_out fun z => hvo i z hi)
          refine ⟨by rw [r'.len]; exact hlenE _ _ _, r'.one, fun i d hi h => ?_, fun i d hi h => ?_, ?_, r5.fr, ?_, r5.a0, ?_, r'.io⟩
          · obtain ⟨v', e1, z1⟩ := r'.fz i d hi (hfz _ _ _ _ _ hi h)
            exact ⟨v', e1, z1.fr (fa.mono fun b hb => mem_full.mpr (.inr hb))⟩
          · obtain ⟨a', vs', ds', e1, e2, e3, e4⟩ := r5.own i d hi (by
              show (ft a (wipeG (Γ (put (put (ui ε) _) (us (put (ui ε) _, a)))) (own.map (·.2))))[i]? = _
              rw [hft _ _ _ fun z => hvo i (hjv i z) hi, wipeG_out fun z => hvo i z hi, hpp]
              exact h)
            refine ⟨a', vs', ds', by rw [← hσ2 i hi]; exact e1, e2, e3, ?_⟩
            unfold Bd.full at e4 ⊢
            rw [eo2] at e4
            exact e4
          · rw [← eo2]; exact r5.trk
          · rw [← eo2]; exact r5.new
          · rw [← eo2]; exact r5.xt
        refine ⟨r6.writeEx hDx (r1.notio hD) h0, fun b o eb nb => ?_, ws ++ [v], upd_same, ?_⟩
        · have hbD : b ≠ Dl := fun z => by rw [z, hD] at eb; cases eb
          rw [upd_ne hbD]
          exact (f'.trans fa) b o eb nb
        · rw [List.map_append]
          have z5' : Fz X.K ((B.plus Dl).full σ ow) H4 v (ce (de (put (ui ε) (lcS F (st (ui ε)) ((xs ε).take i)).2, a))) := by
            have z6 : Fz X.K ((B.plus Dl).full σ2 ow) H4 v (ce (de (put (ui ε) (lcS F (st (ui ε)) ((xs ε).take i)).2, a))) := z5
            unfold Bd.full at z6 ⊢
            rw [eo2] at z6
            exact z6
          exact ((hz.fr (fa.mono fun b hb => mem_full.mpr (.inr hb))).fr (Fr.at hDf)).append (.cons (z5'.fr (Fr.at hDf)) .nil)
    · rintro H' ⟨r', f', ws, hw, hz⟩
      rw [List.take_length] at hz r'
      have hb : H Dl = none := by
        cases e : H Dl with
        | none => rfl
        | some o =>
          have := fown Dl o e hDf0
          rw [hD] at this; cases this
      refine k Dl H' ws hb (fown.trans f') r' hw ?_ hz
      have h1 := hz.length
      rw [List.length_map, lcS_length] at h1
      have : (xs ε).length ≤ 16777216 := hsz
      show ws.length ≤ 16777216
      omega
theorem d_lcS (st : E → τ) (put : E → τ → E) (hpp : ∀ ε t t', put (put ε t) t' = put ε t') (hps : ∀ ε, put ε (st ε) = ε) (hsp : ∀ ε t, st (put ε t) = t) (ht : TgR X.K c js g ft) (hft : TgF js ft) (hlenE : ∀ ε t t', (Γ (put ε t)).length = (Γ (put ε t')).length) (hfz : ∀ ε t t' i d, i ∉ ow → (Γ (put ε t))[i]? = some (some d) → (Γ (put ε t'))[i]? = some (some d)) (hi : DI X B ow Γ p tg e c G xs ui) (ok : BlkOk X.N X.env.scope scope own)
    (hg : ∀ (s : Shared) (H : Hp) (C : Addr) (cl : List (Str × Addr)) (fp : List Addr), PG (X.blk s H scope (compEnvC scope cl C X.env) fp) tg g)
    (hE : ∀ (s : Shared) (H : Hp) (C : Addr) (cl : List (Str × Addr)) (fp : List Addr) (B' : Bd), De (X.blk s H scope (compEnvC scope cl C X.env) fp) B' ow (fun q : E × α => ft q.2 (wipeG (Γ q.1) (own.map (·.2)))) false true elt ce Ge de (fun q => (put q.1 (us q), q.2)))
    (hjv : ∀ j ∈ js, j ∈ own.map (·.2) := by decide) (hvo : ∀ j ∈ own.map (·.2), j ∉ ow := by decide) (hN : X.N.Nodup := by assumption) (hc : X.calm = true := by rfl) (hs : ∀ x, foldedSetIterable e X.env x = pure x := by intro _; rfl) :
    DL X B ow Γ false (.ListComp elt [⟨tg, e, [], 0⟩] scope pos) ce (fun ε => G ε ∧ lcG (fun s x => Ge (put (ui ε) s, x)) (fun s x => (de (put (ui ε) s, x), us (put (ui ε) s, x))) (st (ui ε)) (xs ε))
      (fun ε => (lcS (fun s x => (de (put (ui ε) s, x), us (put (ui ε) s, x))) (st (ui ε)) (xs ε)).1) (fun ε => put (ui ε) (lcS (fun s x => (de (put (ui ε) s, x), us (put (ui ε) s, x))) (st (ui ε)) (xs ε)).2) :=
  ⟨(pe_lc (tt := tTBs X.K ow (fun q : E × α => ft q.2 (wipeG (Γ q.1) (own.map (·.2))))) (te := tSBs X.K ow (fun q : E × α => ft q.2 (wipeG (Γ q.1) (own.map (·.2)))) ce Ge de (fun q => (put q.1 (us q), q.2))) hc hN hi.pi ok hg
      (fun s H C cl fp => ⟨fun pins s' σ H' Q I ⟨B', H0, ε, r, _, k⟩ => pts_nil.run pins s' σ H' Q I (k H' (Fr.refl _ _) r)⟩) (fun s H C cl fp => ⟨fun pins s' σ H' Q I ⟨B', q⟩ => (hE s H C cl fp B').pe.run pins s' σ H' Q I q⟩) hs).weaken fun σ H Q h => lc_state st put hpp hps hsp ht hft hlenE hfz hjv hvo h⟩
variable {owS : List Nat} {R S : Type} {ΓS : S → List (Option D)} {cr : R → D} {ci : R → List D} {spos py : Pos} {y : Str}
theorem s_asgLcS (i : Nat) (hsw : swapsWith (.ListComp elt [⟨tg, e, [], 0⟩] scope pos) (some (.Name y py)) spos.line X.env = pure true) (st : E → τ) (put : E → τ → E) (hpp : ∀ ε t t', put (put ε t) t' = put ε t') (hps : ∀ ε, put ε (st ε) = ε) (hsp : ∀ ε t, st (put ε t) = t) (ht : TgR X.K c js g ft) (hft : TgF js ft) (hlenE : ∀ ε t t', (Γ (put ε t)).length = (Γ (put ε t')).length) (hfz : ∀ ε t t' i d, i ∉ ow → (Γ (put ε t))[i]? = some (some d) → (Γ (put ε t'))[i]? = some (some d)) (hi : DI X B ow Γ p tg e c G xs ui) (ok : BlkOk X.N X.env.scope scope own)
    (hg : ∀ (s : Shared) (H : Hp) (C : Addr) (cl : List (Str × Addr)) (fp : List Addr), PG (X.blk s H scope (compEnvC scope cl C X.env) fp) tg g)
    (hE : ∀ (s : Shared) (H : Hp) (C : Addr) (cl : List (Str × Addr)) (fp : List Addr) (B' : Bd), De (X.blk s H scope (compEnvC scope cl C X.env) fp) B' ow (fun q : E × α => ft q.2 (wipeG (Γ q.1) (own.map (·.2)))) false true elt ce Ge de (fun q => (put q.1 (us q), q.2)))
    (hio : i ∉ ow := by decide) (hjv : ∀ j ∈ js, j ∈ own.map (·.2) := by decide) (hvo : ∀ j ∈ own.map (·.2), j ∉ ow := by decide) (hy : X.N[i]? = some y := by rfl) (hyl : X.env.scope.names.lookup y = some .local := by rfl) (hN : X.N.Nodup := by assumption) (hc : X.calm = true := by rfl) (hs : ∀ x, foldedSetIterable e X.env x = pure x := by intro _; rfl) :
    Ds X B ow Γ cr ci owS ΓS (.Assign [.Name y py] (.ListComp elt [⟨tg, e, [], 0⟩] scope pos) spos) (fun ε => G ε ∧ lcG (fun s x => Ge (put (ui ε) s, x)) (fun s x => (de (put (ui ε) s, x), us (put (ui ε) s, x))) (st (ui ε)) (xs ε))
      (fun ε => .nx (put (ui ε) (lcS (fun s x => (de (put (ui ε) s, x), us (put (ui ε) s, x))) (st (ui ε)) (xs ε)).2, (lcS (fun s x => (de (put (ui ε) s, x), us (put (ui ε) s, x))) (st (ui ε)) (xs ε)).1)) ow (fun q : E × List β => (Γ q.1).set i (some (cL ce q.2))) :=
  ⟨(ps_setLc (tt := tTBs X.K ow (fun q : E × α => ft q.2 (wipeG (Γ q.1) (own.map (·.2))))) (te := tSBs X.K ow (fun q : E × α => ft q.2 (wipeG (Γ q.1) (own.map (·.2)))) ce Ge de (fun q => (put q.1 (us q), q.2))) hc hN hy hyl hsw hi.pi ok hg
      (fun s H C cl fp => ⟨fun pins s' σ H' Q I ⟨B', H0, ε, r, _, k⟩ => pts_nil.run pins s' σ H' Q I (k H' (Fr.refl _ _) r)⟩) (fun s H C cl fp => ⟨fun pins s' σ H' Q I ⟨B', q⟩ => (hE s H C cl fp B').pe.run pins s' σ H' Q I q⟩) hs).weaken fun Dn σ H ⟨H0, ε, rl, g, k⟩ => by
    refine lc_state (Q := fun x H1 => Dn.nx (σ.set i (some x)) H1) st put hpp hps hsp ht hft hlenE hfz hjv hvo ⟨H0, ε, rl, g, fun q H' vs hq f r hv hz z => ?_⟩
    have z2 : Fz X.K (B.full σ ow) H' (.ref q) (cL ce (lcS (fun s x => (de (put (ui ε) s, x), us (put (ui ε) s, x))) (st (ui ε)) (xs ε)).1) := by
      refine .lst ⟨⟨fun h => ?_, hv⟩, hz⟩ (z.sub full_plus)
      rcases mem_full.mp h with h | h
      · exact rl.base_trk q h hq
      · exact (r.xt q (by simp [Bd.plus])).2 h
    exact k _ H' (r.unplus.set hio z2)⟩
theorem s_ownLcS (i : Nat) (hsw : swapsWith (.ListComp elt [⟨tg, e, [], 0⟩] scope pos) (some (.Name y py)) spos.line X.env = pure true) (st : E → τ) (put : E → τ → E) (hpp : ∀ ε t t', put (put ε t) t' = put ε t') (hps : ∀ ε, put ε (st ε) = ε) (hsp : ∀ ε t, st (put ε t) = t) (ht : TgR X.K c js g ft) (hft : TgF js ft) (hlenE : ∀ ε t t', (Γ (put ε t)).length = (Γ (put ε t')).length) (hfz : ∀ ε t t' i d, i ∉ ow → (Γ (put ε t))[i]? = some (some d) → (Γ (put ε t'))[i]? = some (some d)) (hi : DI X B ow Γ p tg e c G xs ui) (ok : BlkOk X.N X.env.scope scope own)
    (hg : ∀ (s : Shared) (H : Hp) (C : Addr) (cl : List (Str × Addr)) (fp : List Addr), PG (X.blk s H scope (compEnvC scope cl C X.env) fp) tg g)
    (hE : ∀ (s : Shared) (H : Hp) (C : Addr) (cl : List (Str × Addr)) (fp : List Addr) (B' : Bd), De (X.blk s H scope (compEnvC scope cl C X.env) fp) B' ow (fun q : E × α => ft q.2 (wipeG (Γ q.1) (own.map (·.2)))) false true elt ce Ge de (fun q => (put q.1 (us q), q.2)))
    {ow' : List Nat} (hl : ∀ ε, i < (Γ ε).length) (h' : ∀ j, j ∈ ow' ↔ j ∈ ow ∨ j = i) (h0 : B.io ≠ none → i ≠ 0) (hjv : ∀ j ∈ js, j ∈ own.map (·.2) := by decide) (hvo : ∀ j ∈ own.map (·.2), j ∉ ow := by decide) (hy : X.N[i]? = some y := by rfl) (hyl : X.env.scope.names.lookup y = some .local := by rfl) (hN : X.N.Nodup := by assumption) (hc : X.calm = true := by rfl) (hs : ∀ x, foldedSetIterable e X.env x = pure x := by intro _; rfl) :
    Ds X B ow Γ cr ci owS ΓS (.Assign [.Name y py] (.ListComp elt [⟨tg, e, [], 0⟩] scope pos) spos) (fun ε => G ε ∧ lcG (fun s x => Ge (put (ui ε) s, x)) (fun s x => (de (put (ui ε) s, x), us (put (ui ε) s, x))) (st (ui ε)) (xs ε))
      (fun ε => .nx (put (ui ε) (lcS (fun s x => (de (put (ui ε) s, x), us (put (ui ε) s, x))) (st (ui ε)) (xs ε)).2, (lcS (fun s x => (de (put (ui ε) s, x), us (put (ui ε) s, x))) (st (ui ε)) (xs ε)).1)) ow' (fun q : E × List β => (Γ q.1).set i (some (.list (q.2.map ce)))) :=
  ⟨(ps_setLc (tt := tTBs X.K ow (fun q : E × α => ft q.2 (wipeG (Γ q.1) (own.map (·.2))))) (te := tSBs X.K ow (fun q : E × α => ft q.2 (wipeG (Γ q.1) (own.map (·.2)))) ce Ge de (fun q => (put q.1 (us q), q.2))) hc hN hy hyl hsw hi.pi ok hg
      (fun s H C cl fp => ⟨fun pins s' σ H' Q I ⟨B', H0, ε, r, _, k⟩ => pts_nil.run pins s' σ H' Q I (k H' (Fr.refl _ _) r)⟩) (fun s H C cl fp => ⟨fun pins s' σ H' Q I ⟨B', q⟩ => (hE s H C cl fp B').pe.run pins s' σ H' Q I q⟩) hs).weaken fun Dn σ H ⟨H0, ε, rl, g, k⟩ =>
    lc_state (Q := fun x H1 => Dn.nx (σ.set i (some x)) H1) st put hpp hps hsp ht hft hlenE hfz hjv hvo ⟨H0, ε, rl, g, fun q H' vs hq f r hv hz z => k _ H' (r.setOwn hv hz ((rl.h0 hq).resolve_right (rl.notio hq)) (fun h => rl.base_trk q h hq) z (hl _) h' h0)⟩⟩
end
end Y
namespace Y
open PySem PySem.Spec L2

section
variable {E M R S α : Type}
@[reducible] def Out.keep (o : Out M R S) (ε : E) : Out (E × M) R S := match o with
  | .nx m => .nx (ε, m)
  | .rt r => .rt r
  | .bk s => .bk s
  | .ct s => .ct s
def Out.ret : Out Empty R Empty → R
  | .rt r => r
  | .nx e => nomatch e
  | .bk e => nomatch e
  | .ct e => nomatch e
def Out.und : Out M Unit Empty → Unit := fun _ => ()
def forN (g : M × α → Prop) (f : M × α → M) : M → List α → Prop
  | _, [] => True
  | t, x :: xs => g (t, x) ∧ forN g f (f (t, x)) xs
theorem forG_nx {g : M × α → Prop} {f : M × α → M} : ∀ (xs : List α) (t : M), forN g f t xs → forG (R := R) g (fun q => .nx (f q)) t xs
  | [], _, _ => trivial
  | x :: xs, t, h => ⟨h.1, forG_nx xs _ h.2⟩
/-- an invariant of the loop -/
theorem forN_of {g : M × α → Prop} {f : M × α → M} (P : M → List α → Prop) (hg : ∀ t x xs, P t (x :: xs) → g (t, x) ∧ P (f (t, x)) xs) : ∀ (xs : List α) (t : M), P t xs → forN g f t xs
  | [], _, _ => trivial
  | x :: xs, t, h => ⟨(hg t x xs h).1, forN_of P hg xs _ (hg t x xs h).2⟩
end
section
variable {X : Cx} {B : Bd} {ow ow' owS : List Nat} {E M N L R S α : Type} {Γ : E → List (Option D)} {ΓL : E → M → List (Option D)} {ΓS : S → List (Option D)} {Γ' : N → List (Option D)} {cr : R → D} {ci : R → List D} {st : Stmt} {body a b : List Stmt} {pos : Pos} {tg e : Expr} {p : Bool} {c : α → D} {G : E → Prop} {u : E → E}
  {xs : E → List α} {js : List Nat} {g : TG} {ft : α → List (Option D) → List (Option D)}
theorem Ds.is {d d' : E → Out N R S} {G' : E → Prop} (h : Ds X B ow Γ cr ci owS ΓS st G d ow' Γ') (hg : ∀ ε, G' ε → G ε) (hd : ∀ ε, G' ε → d ε = d' ε) : Ds X B ow Γ cr ci owS ΓS st G' d' ow' Γ' :=
  ⟨h.ps.weaken fun Dn σ H ⟨H0, ε, rl, g, k⟩ => ⟨H0, ε, rl, hg ε g, by rw [hd ε g]; exact k⟩⟩
theorem s_forP {gb : E → M × α → Prop} {db : E → M × α → Out M R M} (m0 : E → M) (hi : DI X B ow Γ p tg e c G xs u) (hc0 : ∀ (H0 : Hp) ε σ H, Rel X.K B H0 ow σ H (Γ ε) → Rel X.K B H0 ow σ H (ΓL ε (m0 ε))) (hg : PG X tg g) (ht : TgR X.K c js g ft)
    (hb : ∀ ε, Dss X B ow (fun q : M × α => ft q.2 (ΓL ε q.1)) cr ci ow (ΓL ε) body (gb ε) (db ε) ow (ΓL ε)) (hp : PassesOwn (model X.prog X.w) X.A X.env X.xe) (hjs : ∀ j ∈ js, j ∉ ow := by decide) (hcalm : X.calm = true := by rfl) (hs : ∀ x, foldedSetIterable e X.env x = pure x := by intro _; rfl) :
    Ds X B ow Γ cr ci owS ΓS (.For tg e body [] pos) (fun ε => G ε ∧ forG (gb (u ε)) (db (u ε)) (m0 (u ε)) (xs ε)) (fun ε => (forO (db (u ε)) (m0 (u ε)) (xs ε)).keep (u ε)) ow (fun n : E × M => ΓL n.1 n.2) :=
  ⟨(ps_for (tb := fun Dn σ H => ∃ ε, tSS X.K B ow (fun q : M × α => ft q.2 (ΓL ε q.1)) cr ci ow (ΓL ε) (gb ε) (db ε) ow (ΓL ε) Dn σ H) hp hcalm hi.pi hg ⟨fun pins s σ H Dn I ⟨ε, q⟩ => (hb ε).pss.run pins s σ H Dn I q⟩ hs).weaken fun Dn σ H ⟨H0, ε, rl, ⟨g1, g2⟩, k⟩ => ⟨H0, ε, rl, g1, fun J H1 f1 r1 w hsz => by
    have kn : ∀ n, forO (S := S) (db (u ε)) (m0 (u ε)) (xs ε) = .nx n → ∀ σ' H', Rel X.K B H0 ow σ' H' (ΓL (u ε) n) → Dn.nx σ' H' := fun n e => by
      have k' := k
      simp only [e] at k'
      exact k'
    have kr : ∀ n, forO (S := S) (db (u ε)) (m0 (u ε)) (xs ε) = .rt n → ∀ v H', EX X.K B cr ci H0 n v H' → Dn.rt v H' := fun n e => by
      have k' := k
      simp only [e] at k'
      exact k'
    refine for_it w (g := g) (D := Dn) (tb := fun Dn σ H => ∃ ε, tSS X.K B ow (fun q : M × α => ft q.2 (ΓL ε q.1)) cr ci ow (ΓL ε) (gb ε) (db ε) ow (ΓL ε) Dn σ H) (fun i σ' H' => ∃ t, Rel X.K B (hid (oa σ ow) H1) ow σ' H' (ΓL (u ε) t) ∧ forG (gb (u ε)) (db (u ε)) t ((xs ε).drop i) ∧ forO (S := S) (db (u ε)) t ((xs ε).drop i) = forO (db (u ε)) (m0 (u ε)) (xs ε)) ⟨m0 (u ε), hc0 _ _ _ _ r1.rest, g2, rfl⟩ ?_ ?_ ?_
    · rintro i σ' H' _ ⟨t, r', _, _⟩
      exact r1.since r'
    · rintro i x σ' H' H2 hlt ⟨t, r', hg', ho'⟩ ⟨fy, a, ea, hz⟩
      have hz' := hz (B.full σ' ow) (r1.newer r') ((r1.since r').mono fun b hb => List.mem_append_left _ hb) r'.tracked
      have hd : (xs ε).drop i = a :: (xs ε).drop (i + 1) := by
        obtain ⟨hl, e⟩ := List.getElem?_eq_some_iff.mp ea
        rw [List.drop_eq_getElem_cons hl, e]
      rw [hd] at hg' ho'
      refine ht B _ ow σ' H2 _ x a _ hjs (r'.grow fy) hz' fun σ2 r2 _ _ => ⟨u ε, _, (t, a), r2, hg'.1, ?_⟩
      have hg2 := hg'.2
      cases hdb : db (u ε) (t, a) with
      | nx t' =>
        rw [hdb] at hg2
        have ho2 : forO (S := S) (db (u ε)) t' ((xs ε).drop (i + 1)) = forO (db (u ε)) (m0 (u ε)) (xs ε) := by rw [← ho', forO, hdb]
        exact fun σ3 H3 r3 => ⟨t', r3, hg2, ho2⟩
      | ct t' =>
        rw [hdb] at hg2
        have ho2 : forO (S := S) (db (u ε)) t' ((xs ε).drop (i + 1)) = forO (db (u ε)) (m0 (u ε)) (xs ε) := by rw [← ho', forO, hdb]
        exact fun σ3 H3 r3 => ⟨t', r3, hg2, ho2⟩
      | bk t' =>
        have k' := kn t' (by rw [← ho', forO, hdb])
        exact fun σ3 H3 r3 => k' σ3 H3 (r1.rebase r3)
      | rt q =>
        have k' := kr q (by rw [← ho', forO, hdb])
        exact fun v H3 ex => k' v H3 (EX.rebase r1 ex)
    · rintro σ' H' ⟨t, r', _, ho'⟩
      rw [List.drop_length] at ho'
      have k' := kn t ho'.symm
      exact k' σ' H' (r1.rebase r')⟩⟩
theorem s_forN {gb : E → M × α → Prop} {db : E → M × α → Out M R M} {fb : E → M × α → M} (m0 : E → M) (hi : DI X B ow Γ p tg e c G xs u) (hc0 : ∀ (H0 : Hp) ε σ H, Rel X.K B H0 ow σ H (Γ ε) → Rel X.K B H0 ow σ H (ΓL ε (m0 ε))) (hg : PG X tg g) (ht : TgR X.K c js g ft)
    (hb : ∀ ε, Dss X B ow (fun q : M × α => ft q.2 (ΓL ε q.1)) cr ci ow (ΓL ε) body (gb ε) (db ε) ow (ΓL ε)) (hfb : ∀ ε q, db ε q = .nx (fb ε q)) (hp : PassesOwn (model X.prog X.w) X.A X.env X.xe) (hjs : ∀ j ∈ js, j ∉ ow := by decide) (hcalm : X.calm = true := by rfl) (hs : ∀ x, foldedSetIterable e X.env x = pure x := by intro _; rfl) :
    Ds X B ow Γ cr ci owS ΓS (.For tg e body [] pos) (fun ε => G ε ∧ forN (gb (u ε)) (fb (u ε)) (m0 (u ε)) (xs ε)) (fun ε => .nx (u ε, (xs ε).foldl (fun m x => fb (u ε) (m, x)) (m0 (u ε)))) ow (fun n : E × M => ΓL n.1 n.2) :=
  (s_forP m0 hi hc0 hg ht hb hp hjs hcalm hs).is (fun ε h => ⟨h.1, by
    have e : db (u ε) = fun q => .nx (fb (u ε) q) := funext (hfb (u ε))
    rw [e]
    exact forG_nx _ _ h.2⟩) fun ε _ => by
    have e : db (u ε) = fun q => .nx (fb (u ε) q) := funext (hfb (u ε))
    show Out.keep (forO (db (u ε)) _ _) _ = _
    rw [e, forO_nx]
/-- while -/
theorem s_whileP {gt gw : E → M → Prop} {tst : E → M → Bool} {dw : E → M → Out M R M} (m0 : E → M) (fuel : E → M → Nat) (hc0 : ∀ (H0 : Hp) ε σ H, Rel X.K B H0 ow σ H (Γ ε) → Rel X.K B H0 ow σ H (ΓL ε (m0 ε))) (ht : ∀ ε, Dt X B ow (ΓL ε) p e (gt ε) (tst ε) (fun q => q))
    (hb : ∀ ε, Dss X B ow (ΓL ε) cr ci ow (ΓL ε) body (gw ε) (dw ε) ow (ΓL ε)) (hp : PassesOwn (model X.prog X.w) X.A X.env X.xe) :
    Ds X B ow Γ cr ci owS ΓS (.While e body [] pos) (fun ε => whG (gt ε) (tst ε) (gw ε) (dw ε) (fuel ε (m0 ε)) (m0 ε)) (fun ε => (whO (tst ε) (dw ε) (fuel ε (m0 ε)) (m0 ε)).keep ε) ow (fun n : E × M => ΓL n.1 n.2) :=
  ⟨(ps_while (tc := fun σ H Q => ∃ ε, tTs X.K B ow (ΓL ε) p (gt ε) (tst ε) (fun q => q) σ H Q) (tb := fun Dn σ H => ∃ ε, tSS X.K B ow (ΓL ε) cr ci ow (ΓL ε) (gw ε) (dw ε) ow (ΓL ε) Dn σ H) hp ⟨fun pins s σ H Q I ⟨ε, q⟩ => (ht ε).pt.run pins s σ H Q I q⟩ ⟨fun pins s σ H Dn I ⟨ε, q⟩ => (hb ε).pss.run pins s σ H Dn I q⟩).weaken fun Dn σ H ⟨H0, ε, rl, g0, k⟩ => by
    have kn : ∀ n, whO (S := S) (tst ε) (dw ε) (fuel ε (m0 ε)) (m0 ε) = .nx n → ∀ σ' H', Rel X.K B H0 ow σ' H' (ΓL ε n) → Dn.nx σ' H' := fun n e => by
      have k' := k
      simp only [e] at k'
      exact k'
    have kr : ∀ n, whO (S := S) (tst ε) (dw ε) (fuel ε (m0 ε)) (m0 ε) = .rt n → ∀ v H', EX X.K B cr ci H0 n v H' → Dn.rt v H' := fun n e => by
      have k' := k
      simp only [e] at k'
      exact k'
    refine ⟨fun m σ' H' => ∃ n t, m = n ∧ Rel X.K B H0 ow σ' H' (ΓL ε t) ∧ whG (gt ε) (tst ε) (gw ε) (dw ε) n t ∧ whO (S := S) (tst ε) (dw ε) n t = whO (tst ε) (dw ε) (fuel ε (m0 ε)) (m0 ε), ⟨fuel ε (m0 ε), fuel ε (m0 ε), m0 ε, rfl, hc0 _ _ _ _ rl, g0, rfl⟩, ?_⟩
    rintro m σ' H' ⟨n, t, rfl, r, hg, ho⟩
    have hgt : gt ε t := by cases m with | zero => exact hg.1 | succ m => exact hg.1
    refine ⟨ε, H0, t, r, hgt, fun H2 f2 r2 => ?_⟩
    cases ht : tst ε t with
    | false =>
      rw [if_neg Bool.false_ne_true]
      have k' := kn t (by
        rw [← ho]
        cases m with
        | zero => rfl
        | succ m => rw [whO, ht, if_neg Bool.false_ne_true])
      exact k' σ' H2 r2
    | true =>
      rw [if_pos rfl]
      cases m with
      | zero => rw [hg.2] at ht; cases ht
      | succ m =>
        obtain ⟨hgw, hg2⟩ := hg.2 ht
        rw [whO, ht, if_pos rfl] at ho
        refine ⟨fun σ3 H3 => ∃ t', Rel X.K B H0 ow σ3 H3 (ΓL ε t') ∧ whG (gt ε) (tst ε) (gw ε) (dw ε) m t' ∧ whO (S := S) (tst ε) (dw ε) m t' = whO (tst ε) (dw ε) (fuel ε (m0 ε)) (m0 ε), fun σ3 H3 ⟨t', a, b, c⟩ => ⟨m, Nat.lt_succ_self _, m, t', rfl, a, b, c⟩, ε, H0, t, r2, hgw, ?_⟩
        cases hd : dw ε t with
        | nx t' => rw [hd] at hg2 ho; exact fun σ3 H3 r3 => ⟨t', r3, hg2, ho⟩
        | ct t' => rw [hd] at hg2 ho; exact fun σ3 H3 r3 => ⟨t', r3, hg2, ho⟩
        | bk t' =>
          rw [hd] at ho
          exact fun σ3 H3 r3 => kn t' ho.symm σ3 H3 r3
        | rt q =>
          rw [hd] at ho
          exact fun v H3 ex => kr q ho.symm v H3 ex⟩
/-- the end of a list of statements, told otherwise -/
theorem s_end {ow2 : List Nat} {N2 : Type} {Γ2 : N2 → List (Option D)} (cv : E → N2) (hc : ∀ (H0 : Hp) ε σ H, Rel X.K B H0 ow σ H (Γ ε) → Rel X.K B H0 ow2 σ H (Γ2 (cv ε))) : Dss X B ow Γ cr ci owS ΓS [] (fun _ => True) (fun ε => .nx (cv ε)) ow2 Γ2 :=
  ⟨pss_nil.weaken fun Dn σ H ⟨H0, ε, rl, _, k⟩ => k σ H (hc _ _ _ _ rl)⟩
variable {G1 Ga Gb : E → Prop} {t : E → Bool} {fa fb : E → M} {ΓM : E × M → List (Option D)}
/-- if, both ways going on, joined -/
theorem s_ifJ {da db : E → Out (E × M) R S} (ht : Dt X B ow Γ p e G t u) (ha : Dss X B ow Γ cr ci owS ΓS a Ga da ow' ΓM) (hb : Dss X B ow Γ cr ci owS ΓS b Gb db ow' ΓM) (hka : ∀ ε, da ε = .nx (ε, fa ε)) (hkb : ∀ ε, db ε = .nx (ε, fb ε)) :
    Ds X B ow Γ cr ci owS ΓS (.If e a b pos) (fun ε => G ε ∧ (t ε = true → Ga (u ε)) ∧ (t ε = false → Gb (u ε))) (fun ε => .nx (u ε, if t ε = true then fa (u ε) else fb (u ε))) ow' ΓM :=
  (s_ifM ht ha hb).is (fun _ h => h) fun ε _ => by
    rw [hka, hkb]
    cases t ε <;> rfl
end
end Y
namespace Y
open PySem PySem.Spec PyProof.Rows L2

/-! ### a op b op c op d -/
section
variable {X : Cx} {a b c d : Expr} {ta tb tc td : TE} {pos : Pos}
def tChn3 (r r' r'' : R2) (ta tb tc td : TE) : TE := fun σ H Q => ta σ H fun x H1 => tb σ H1 fun y H2 => r x y H2 fun z H3 => ∃ k, z = .bl k ∧
  (if k = true then tc σ H3 fun w H4 => r' y w H4 fun z' H5 => ∃ k', z' = .bl k' ∧ (if k' = true then td σ H5 fun u H6 => r'' w u H6 Q else Q (.bl false) H5) else Q (.bl false) H3)
theorem pe_chn3 {op op' op'' : CmpOp} {r r' r'' : R2} (ho : OpR X (compareOp op) r) (ho' : OpR X (compareOp op') r') (ho'' : OpR X (compareOp op'') r'') (ha : PE X a ta) (hb : PE X b tb) (hc : PE X c tc) (hd : PE X d td)
    (hm : lastMarks [op, op', op''] [b, c, d] = false := by with_unfolding_all rfl) : PE X (.Compare a [op, op', op''] [b, c, d] pos) (tChn3 r r' r'' ta tb tc td) := by
  refine ⟨fun pins s σ H Q I h => ?_⟩
  refine Compare_chain (thn (ha.run pins s σ H _ I h) fun v s1 ⟨x, H1, I1, r1, q1⟩ => chain_link (thn (hb.run pins s1 σ H1 _ I1 q1) fun u s2 ⟨y, H2, I2, r2, q2⟩ =>
    thn (ho pins s2 σ H2 x y v u _ I2 r1 r2 q2) fun e3 s3 ⟨z, H3, I3, r3, k, e, q3⟩ => ?_)) hm
  subst e
  cases r3
  refine wpAny_truthy_bool ?_
  cases k with
  | false => exact ite_ff ⟨.bl false, H3, I3, rfl, q3⟩
  | true =>
    refine ite_tt (chain_link (thn (hc.run pins s3 σ H3 _ I3 q3) fun w' s4 ⟨z', H4, I4, r4, q4⟩ => thn (ho' pins s4 σ H4 y z' u w' _ I4 r2 r4 q4) fun e5 s5 ⟨z2, H5, I5, r5, k2, e2, q5⟩ => ?_))
    subst e2
    cases r5
    refine wpAny_truthy_bool ?_
    cases k2 with
    | false => exact ite_ff ⟨.bl false, H5, I5, rfl, q5⟩
    | true => exact ite_tt (chain_last (thn (hd.run pins s5 σ H5 _ I5 q5) fun w6 s6 ⟨z6, H6, I6, r6, q6⟩ => ho'' pins s6 σ H6 z' z6 w' w6 Q I6 r4 r6 q6))
theorem pt_chn3 {op op' op'' : CmpOp} {r r' r'' : R2} (ho : OpR X (compareOp op) r) (ho' : OpR X (compareOp op') r') (ho'' : OpR X (compareOp op'') r'') (ha : PE X a ta) (hb : PE X b tb) (hc : PE X c tc) (hd : PE X d td)
    (hm : lastMarks [op, op', op''] [b, c, d] = false := by with_unfolding_all rfl) : PT X (.Compare a [op, op', op''] [b, c, d] pos) (tTest (tChn3 r r' r'' ta tb tc td)) := by
  refine ⟨fun pins s σ H Q I h => ?_⟩
  refine isTrue_chain (thn (ha.run pins s σ H _ I h) fun v s1 ⟨x, H1, I1, r1, q1⟩ => test_link (thn (hb.run pins s1 σ H1 _ I1 q1) fun u s2 ⟨y, H2, I2, r2, q2⟩ =>
    thn (ho pins s2 σ H2 x y v u _ I2 r1 r2 q2) fun e3 s3 ⟨z, H3, I3, r3, k, e, q3⟩ => ?_)) hm
  subst e
  cases r3
  refine wpAny_truthy_bool ?_
  cases k with
  | false =>
    obtain ⟨k', e', q'⟩ := q3
    cases e'
    exact ite_ff ⟨H3, I3, q'⟩
  | true =>
    refine ite_tt (test_link (thn (hc.run pins s3 σ H3 _ I3 q3) fun w' s4 ⟨z', H4, I4, r4, q4⟩ => thn (ho' pins s4 σ H4 y z' u w' _ I4 r2 r4 q4) fun e5 s5 ⟨z2, H5, I5, r5, k2, e2, q5⟩ => ?_))
    subst e2
    cases r5
    refine wpAny_truthy_bool ?_
    cases k2 with
    | false =>
      obtain ⟨k', e', q'⟩ := q5
      cases e'
      exact ite_ff ⟨H5, I5, q'⟩
    | true =>
      refine ite_tt (test_last (thn (hd.run pins s5 σ H5 _ I5 q5) fun w6 s6 ⟨z6, H6, I6, r6, q6⟩ => thn (ho'' pins s6 σ H6 z' z6 w' w6 _ I6 r4 r6 q6) fun d' s7 ⟨z7, H7, I7, r7, k7, e7, q7⟩ => ?_))
      subst e7
      cases r7
      exact wpAny_truthy_bool ⟨H7, I7, q7⟩
end
section
variable {X : Cx} {B : Bd} {ow : List Nat} {E α β : Type} {Γ : E → List (Option D)} {p s : Bool} {e1 e2 e3 e4 : Expr} {pos : Pos} {G1 G2 G3 G4 : E → Prop}
theorem chn3_of {K : Frag} {r r' r'' : R2} {f f' f'' : Int → Int → Bool} {a b b' b'' : E → Int} (hv : Op2 K r cI cI cB (fun _ _ => True) f) (hv' : Op2 K r' cI cI cB (fun _ _ => True) f') (hv'' : Op2 K r'' cI cI cB (fun _ _ => True) f'') {σ : L2.St} {H : Hp} {Q : VK}
    (h : tS K B ow Γ true s cB (fun ε => G1 ε ∧ G2 ε ∧ (f (a ε) (b ε) = true → G3 ε ∧ (f' (b ε) (b' ε) = true → G4 ε))) (fun ε => f (a ε) (b ε) && (f' (b ε) (b' ε) && f'' (b' ε) (b'' ε))) (fun ε => ε) σ H Q) :
    tChn3 r r' r'' (tS K B ow Γ true s cI G1 a (fun ε => ε)) (tS K B ow Γ true s cI G2 b (fun ε => ε)) (tS K B ow Γ true s cI G3 b' (fun ε => ε)) (tS K B ow Γ true s cI G4 b'' (fun ε => ε)) σ H Q := by
  obtain ⟨H0, ε, rl, ⟨g1, g2, g3⟩, k⟩ := h
  refine ⟨H0, ε, rl, g1, fun v H1 f1 r1 z1 => ⟨H0, ε, r1, g2, fun w H2 f2 r2 z2 => ?_⟩⟩
  have f1' : Fr [] H H1 := f1
  have f2' : Fr [] H1 H2 := f2
  refine hv _ H2 (a ε) (b ε) v w _ (r2.tr s) (z1.fr f2'.nil) z2 trivial fun z H3 f3 z3 => ⟨_, z3.bl_inv, ?_⟩
  have r3 := r2.grow f3
  cases h : f (a ε) (b ε) with
  | false =>
    rw [if_neg Bool.false_ne_true]
    refine k _ H3 ((f1'.trans f2').trans f3) r3 ?_
    simp only [h, Bool.false_and]
    exact .bl _
  | true =>
    rw [if_pos rfl]
    obtain ⟨g3, g4⟩ := g3 h
    refine ⟨H0, ε, r3, g3, fun w' H4 f4 r4 z4 => ?_⟩
    have f4' : Fr [] H3 H4 := f4
    refine hv' _ H4 (b ε) (b' ε) w w' _ (r4.tr s) ((z2.fr f3.nil).fr f4'.nil) z4 trivial fun z' H5 f5 z5 => ⟨_, z5.bl_inv, ?_⟩
    have r5 := r4.grow f5
    have fa := ((((f1'.trans f2').trans f3).trans f4').trans f5)
    cases h' : f' (b ε) (b' ε) with
    | false =>
      rw [if_neg Bool.false_ne_true]
      refine k _ H5 fa r5 ?_
      simp only [h, h', Bool.false_and, Bool.and_false]
      exact .bl _
    | true =>
      rw [if_pos rfl]
      refine ⟨H0, ε, r5, g4 h', fun w6 H6 f6 r6 z6 => ?_⟩
      have f6' : Fr [] H5 H6 := f6
      refine hv'' _ H6 (b' ε) (b'' ε) w' w6 _ (r6.tr s) ((z4.fr f5.nil).fr f6'.nil) z6 trivial fun z7 H7 f7 z7' => k _ H7 ((fa.trans f6').trans f7) (r6.grow f7) ?_
      simpa [h, h'] using z7'
theorem d_chn3 {op op' op'' : CmpOp} {r r' r'' : R2} {f f' f'' : Int → Int → Bool} {a b b' b'' : E → Int} (ho : OpR X (compareOp op) r) (ho' : OpR X (compareOp op') r') (ho'' : OpR X (compareOp op'') r'') (hv : Op2 X.K r cI cI cB (fun _ _ => True) f) (hv' : Op2 X.K r' cI cI cB (fun _ _ => True) f') (hv'' : Op2 X.K r'' cI cI cB (fun _ _ => True) f'')
    (h1 : De X B ow Γ true s e1 cI G1 a (fun ε => ε)) (h2 : De X B ow Γ true s e2 cI G2 b (fun ε => ε)) (h3 : De X B ow Γ true s e3 cI G3 b' (fun ε => ε)) (h4 : De X B ow Γ true s e4 cI G4 b'' (fun ε => ε)) (hm : lastMarks [op, op', op''] [e2, e3, e4] = false := by with_unfolding_all rfl) :
    De X B ow Γ true s (.Compare e1 [op, op', op''] [e2, e3, e4] pos) cB (fun ε => G1 ε ∧ G2 ε ∧ (f (a ε) (b ε) = true → G3 ε ∧ (f' (b ε) (b' ε) = true → G4 ε))) (fun ε => f (a ε) (b ε) && (f' (b ε) (b' ε) && f'' (b' ε) (b'' ε))) (fun ε => ε) :=
  ⟨(pe_chn3 ho ho' ho'' h1.pe h2.pe h3.pe h4.pe hm).weaken fun _ _ _ h => chn3_of hv hv' hv'' h⟩
theorem t_chn3 {op op' op'' : CmpOp} {r r' r'' : R2} {f f' f'' : Int → Int → Bool} {a b b' b'' : E → Int} (ho : OpR X (compareOp op) r) (ho' : OpR X (compareOp op') r') (ho'' : OpR X (compareOp op'') r'') (hv : Op2 X.K r cI cI cB (fun _ _ => True) f) (hv' : Op2 X.K r' cI cI cB (fun _ _ => True) f') (hv'' : Op2 X.K r'' cI cI cB (fun _ _ => True) f'')
    (h1 : De X B ow Γ true s e1 cI G1 a (fun ε => ε)) (h2 : De X B ow Γ true s e2 cI G2 b (fun ε => ε)) (h3 : De X B ow Γ true s e3 cI G3 b' (fun ε => ε)) (h4 : De X B ow Γ true s e4 cI G4 b'' (fun ε => ε)) (hm : lastMarks [op, op', op''] [e2, e3, e4] = false := by with_unfolding_all rfl) :
    Dt X B ow Γ true (.Compare e1 [op, op', op''] [e2, e3, e4] pos) (fun ε => G1 ε ∧ G2 ε ∧ (f (a ε) (b ε) = true → G3 ε ∧ (f' (b ε) (b' ε) = true → G4 ε))) (fun ε => f (a ε) (b ε) && (f' (b ε) (b' ε) && f'' (b' ε) (b'' ε))) (fun ε => ε) :=
  ⟨(pt_chn3 ho ho' ho'' h1.pe h2.pe h3.pe h4.pe hm).weaken fun σ H Q ⟨H0, ε, rl, g, k⟩ => chn3_of hv hv' hv'' ⟨H0, ε, rl, g, fun v H' f r' z => ⟨_, z.bl_inv, k H' f r'⟩⟩⟩
end

/-! ### comprehensions without tests -/
section
variable {X : Cx} {B : Bd} {ow owS : List Nat} {E R S α β : Type} {Γ : E → List (Option D)} {ΓS : S → List (Option D)} {cr : R → D} {ci : R → List D} {pos spos py : Pos} {tg e elt : Expr} {c : α → D} {ce : β → D} {G : E → Prop}
  {xs : E → List α} {js : List Nat} {g : TG} {ft : α → List (Option D) → List (Option D)} {Ge : E × α → Prop} {de : E × α → β} {own : List (Str × Nat)} {scope : Scope} {y : Str}
theorem filt_true {f : α → β} (l : List α) : ((l.filter fun _ => true).map f) = l.map f := congrArg (List.map f) (List.filter_eq_self.mpr fun _ _ => rfl)
theorem DL.is {d d' : E → List β} {G G' : E → Prop} {p : Bool} {u : E → E} (h : DL X B ow Γ p e ce G d u) (hg : ∀ ε, G' ε → G ε) (hd : ∀ ε, G' ε → d ε = d' ε) : DL X B ow Γ p e ce G' d' u :=
  ⟨h.pe.weaken fun σ H Q ⟨H0, ε, r, g, k⟩ => ⟨H0, ε, r, hg ε g, fun q H' vs hq f r' hv hz z => k q H' vs hq f r' hv hz (by rw [← hd ε g]; exact z)⟩⟩
theorem d_lc0 (hi : DI X B ow Γ true tg e c G xs (fun ε => ε)) (ok : BlkOk X.N X.env.scope scope own) (ht : TgR X.K c js g ft) (hg : ∀ (s : Shared) (H : Hp) (C : Addr) (cl : List (Str × Addr)) (fp : List Addr), PG (X.blk s H scope (compEnvC scope cl C X.env) fp) tg g)
    (hE : ∀ (s : Shared) (H : Hp) (C : Addr) (cl : List (Str × Addr)) (fp : List Addr) (B' : Bd), De (X.blk s H scope (compEnvC scope cl C X.env) fp) B' ow (fun q : E × α => ft q.2 (wipeG (Γ q.1) (own.map (·.2)))) true true elt ce Ge de (fun q => q))
    (hjv : ∀ j ∈ js, j ∈ own.map (·.2) := by decide) (hvo : ∀ j ∈ own.map (·.2), j ∉ ow := by decide) (hN : X.N.Nodup := by assumption) (hc : X.calm = true := by rfl) (hs : ∀ x, foldedSetIterable e X.env x = pure x := by intro _; rfl) :
    DL X B ow Γ true (.ListComp elt [⟨tg, e, [], 0⟩] scope pos) ce (fun ε => G ε ∧ ∀ x ∈ xs ε, Ge (ε, x)) (fun ε => (xs ε).map fun x => de (ε, x)) (fun ε => ε) :=
  (d_lc (pos := pos) hi ok ht hg (fun _ _ _ _ _ => dt_nil) hE hjv hvo hN hc hs).is (fun _ h => ⟨h.1, fun x hx => ⟨trivial, fun _ => h.2 x hx⟩⟩) fun _ _ => filt_true _
theorem s_asgLc0 (i : Nat) (hsw : swapsWith (.ListComp elt [⟨tg, e, [], 0⟩] scope pos) (some (.Name y py)) spos.line X.env = pure true) (hi : DI X B ow Γ true tg e c G xs (fun ε => ε)) (ok : BlkOk X.N X.env.scope scope own) (ht : TgR X.K c js g ft)
    (hg : ∀ (s : Shared) (H : Hp) (C : Addr) (cl : List (Str × Addr)) (fp : List Addr), PG (X.blk s H scope (compEnvC scope cl C X.env) fp) tg g)
    (hE : ∀ (s : Shared) (H : Hp) (C : Addr) (cl : List (Str × Addr)) (fp : List Addr) (B' : Bd), De (X.blk s H scope (compEnvC scope cl C X.env) fp) B' ow (fun q : E × α => ft q.2 (wipeG (Γ q.1) (own.map (·.2)))) true true elt ce Ge de (fun q => q))
    (hio : i ∉ ow := by decide) (hjv : ∀ j ∈ js, j ∈ own.map (·.2) := by decide) (hvo : ∀ j ∈ own.map (·.2), j ∉ ow := by decide) (hy : X.N[i]? = some y := by rfl) (hyl : X.env.scope.names.lookup y = some .local := by rfl)
    (hN : X.N.Nodup := by assumption) (hc : X.calm = true := by rfl) (hs : ∀ x, foldedSetIterable e X.env x = pure x := by intro _; rfl) :
    Ds X B ow Γ cr ci owS ΓS (.Assign [.Name y py] (.ListComp elt [⟨tg, e, [], 0⟩] scope pos) spos) (fun ε => G ε ∧ ∀ x ∈ xs ε, Ge (ε, x)) (fun ε => .nx (ε, (xs ε).map fun x => de (ε, x))) ow
      (fun q : E × List β => (Γ q.1).set i (some (cL ce q.2))) :=
  (s_asgLc i hsw hi ok ht hg (fun _ _ _ _ _ => dt_nil) hE hio hjv hvo hy hyl hN hc hs).is (fun _ h => ⟨h.1, fun x hx => ⟨trivial, fun _ => h.2 x hx⟩⟩) fun _ _ => by rw [filt_true]
theorem s_ownLc0 (i : Nat) (hsw : swapsWith (.ListComp elt [⟨tg, e, [], 0⟩] scope pos) (some (.Name y py)) spos.line X.env = pure true) (hi : DI X B ow Γ true tg e c G xs (fun ε => ε)) (ok : BlkOk X.N X.env.scope scope own) (ht : TgR X.K c js g ft)
    (hg : ∀ (s : Shared) (H : Hp) (C : Addr) (cl : List (Str × Addr)) (fp : List Addr), PG (X.blk s H scope (compEnvC scope cl C X.env) fp) tg g)
    (hE : ∀ (s : Shared) (H : Hp) (C : Addr) (cl : List (Str × Addr)) (fp : List Addr) (B' : Bd), De (X.blk s H scope (compEnvC scope cl C X.env) fp) B' ow (fun q : E × α => ft q.2 (wipeG (Γ q.1) (own.map (·.2)))) true true elt ce Ge de (fun q => q))
    {ow' : List Nat} (hl : ∀ ε, i < (Γ ε).length) (h' : ∀ j, j ∈ ow' ↔ j ∈ ow ∨ j = i) (h0 : B.io ≠ none → i ≠ 0) (hjv : ∀ j ∈ js, j ∈ own.map (·.2) := by decide) (hvo : ∀ j ∈ own.map (·.2), j ∉ ow := by decide) (hy : X.N[i]? = some y := by rfl)
    (hyl : X.env.scope.names.lookup y = some .local := by rfl) (hN : X.N.Nodup := by assumption) (hc : X.calm = true := by rfl) (hs : ∀ x, foldedSetIterable e X.env x = pure x := by intro _; rfl) :
    Ds X B ow Γ cr ci owS ΓS (.Assign [.Name y py] (.ListComp elt [⟨tg, e, [], 0⟩] scope pos) spos) (fun ε => G ε ∧ ∀ x ∈ xs ε, Ge (ε, x)) (fun ε => .nx (ε, (xs ε).map fun x => de (ε, x))) ow'
      (fun q : E × List β => (Γ q.1).set i (some (.list (q.2.map ce)))) :=
  (s_ownLc i hsw hi ok ht hg (fun _ _ _ _ _ => dt_nil) hE hl h' h0 hjv hvo hy hyl hN hc hs).is (fun _ h => ⟨h.1, fun x hx => ⟨trivial, fun _ => h.2 x hx⟩⟩) fun _ _ => by rw [filt_true]

/-! ### targets within targets -/
theorem tg_nest {K : Frag} {γ' : Type} {ca : α → D} {cb : β → D} {cc : γ' → D} (i j l : Nat) : TgR K (c2 ca (c2 cb cc)) [i, j, l] (gTup K 2 (gCons (gName i) (gCons (gTup K 2 (gCons (gName j) (gCons (gName l) gNil))) gNil))) fun q γ => ((γ.set i (some (ca q.1))).set j (some (cb q.2.1))).set l (some (cc q.2.2)) := fun B H0 ow σ H γ v q Q hj r z k => by
  obtain ⟨a, xs, rfl, n, lz⟩ := z.tup_inv
  obtain ⟨x, y, rfl, z1, z2⟩ := fzl2 (ds := []) lz
  have e1 : ∀ u : Option V, oa (σ.set i u) ow = oa σ ow := fun u => oa_set (hj i (by simp))
  have r1 := r.set (hj i (by simp)) z1
  refine ⟨a, _, rfl, n.sq, rfl, x, _, rfl, y, [], rfl, ?_⟩
  refine (tg_pair (K := K) (ca := cb) (cb := cc) j l) B H0 ow _ H _ y q.2 _ (fun m hm => hj m (List.mem_cons_of_mem _ hm)) r1 (by unfold Bd.full; rw [e1]; exact z2) fun σ' r' h1 h2 => ⟨rfl, k σ' r' (fun m hm => ?_) (by rw [h2]; simp)⟩
  rw [h1 m fun z => hm (List.mem_cons_of_mem _ z), List.getElem?_set_ne fun e => hm (by simp [e])]
end
/-- room for what sorts, compares -/
theorem room_un {k : Nat} {A : Around} (r : Room k A) : A.units + 200 < cLine := by have := r.un; omega
theorem room_65 {k : Nat} {A : Around} (r : Room k A) : A.units + 65 < cLine := by have := r.un; omega
end Y
namespace Y
open PySem PySem.Spec PyProof.Rows L2

@[reducible] def c5 {α β γ δ η : Type} (a : α → D) (b : β → D) (c : γ → D) (d : δ → D) (e : η → D) : α × β × γ × δ × η → D := fun p => .tuple [a p.1, b p.2.1, c p.2.2.1, d p.2.2.2.1, e p.2.2.2.2]
@[reducible] def c6 {α β γ δ η θ : Type} (a : α → D) (b : β → D) (c : γ → D) (d : δ → D) (e : η → D) (f : θ → D) : α × β × γ × δ × η × θ → D := fun p => .tuple [a p.1, b p.2.1, c p.2.2.1, d p.2.2.2.1, e p.2.2.2.2.1, f p.2.2.2.2.2]
section
variable {X : Cx} {B : Bd} {ow : List Nat} {E α β γ δ η θ : Type} {Γ : E → List (Option D)} {p s : Bool} {es : List Expr} {pos : Pos} {a : α → D} {b : β → D} {c : γ → D} {d : δ → D} {e : η → D} {f : θ → D} {G : E → Prop} {u : E → E} {x1 : Nat}
/-- fixed tuples -/
theorem d_tp0 : De X B ow Γ true s (.Tuple [] x1 pos) (cT a) (fun _ => True) (fun _ => []) (fun ε => ε) :=
  (d_tup (cs := an) (ct := fun _ => .tuple []) (fun _ => rfl) (fun _ => Nat.zero_le _) a_nil).as (c' := cT a) (g := fun _ => []) fun _ => rfl
theorem d_tp1 {v : E → α × Unit} (h : DA X B ow Γ p s es (ac a an) G v u) : De X B ow Γ p s (.Tuple es x1 pos) (c1 a) G (fun ε => (v ε).1) u :=
  (d_tup (ct := fun q : α × Unit => .tuple (ac a an q)) (fun _ => rfl) (fun _ => Nat.le_of_ble_eq_true rfl) h).as (c' := c1 a) (g := fun q : α × Unit => q.1) fun _ => rfl
theorem d_tp2 {v : E → α × β × Unit} (h : DA X B ow Γ p s es (ac a (ac b an)) G v u) : De X B ow Γ p s (.Tuple es x1 pos) (c2 a b) G (fun ε => ((v ε).1, (v ε).2.1)) u :=
  (d_tup (ct := fun q : α × β × Unit => .tuple (ac a (ac b an) q)) (fun _ => rfl) (fun _ => Nat.le_of_ble_eq_true rfl) h).as (c' := c2 a b) (g := fun q : α × β × Unit => (q.1, q.2.1)) fun _ => rfl
theorem d_tp3 {v : E → α × β × γ × Unit} (h : DA X B ow Γ p s es (ac a (ac b (ac c an))) G v u) : De X B ow Γ p s (.Tuple es x1 pos) (c3 a b c) G (fun ε => ((v ε).1, (v ε).2.1, (v ε).2.2.1)) u :=
  (d_tup (ct := fun q : α × β × γ × Unit => .tuple (ac a (ac b (ac c an)) q)) (fun _ => rfl) (fun _ => Nat.le_of_ble_eq_true rfl) h).as (c' := c3 a b c) (g := fun q : α × β × γ × Unit => (q.1, q.2.1, q.2.2.1)) fun _ => rfl
theorem d_tp4 {v : E → α × β × γ × δ × Unit} (h : DA X B ow Γ p s es (ac a (ac b (ac c (ac d an)))) G v u) : De X B ow Γ p s (.Tuple es x1 pos) (c4 a b c d) G (fun ε => ((v ε).1, (v ε).2.1, (v ε).2.2.1, (v ε).2.2.2.1)) u :=
  (d_tup (ct := fun q : α × β × γ × δ × Unit => .tuple (ac a (ac b (ac c (ac d an))) q)) (fun _ => rfl) (fun _ => Nat.le_of_ble_eq_true rfl) h).as (c' := c4 a b c d) (g := fun q : α × β × γ × δ × Unit => (q.1, q.2.1, q.2.2.1, q.2.2.2.1)) fun _ => rfl
theorem d_tp5 {v : E → α × β × γ × δ × η × Unit} (h : DA X B ow Γ p s es (ac a (ac b (ac c (ac d (ac e an))))) G v u) : De X B ow Γ p s (.Tuple es x1 pos) (c5 a b c d e) G (fun ε => ((v ε).1, (v ε).2.1, (v ε).2.2.1, (v ε).2.2.2.1, (v ε).2.2.2.2.1)) u :=
  (d_tup (ct := fun q : α × β × γ × δ × η × Unit => .tuple (ac a (ac b (ac c (ac d (ac e an)))) q)) (fun _ => rfl) (fun _ => Nat.le_of_ble_eq_true rfl) h).as (c' := c5 a b c d e) (g := fun q : α × β × γ × δ × η × Unit => (q.1, q.2.1, q.2.2.1, q.2.2.2.1, q.2.2.2.2.1)) fun _ => rfl
/-- tuples, lists of one kind -/
theorem d_tpT {cs : β → List D} {v : E → β} (g : β → List α) (hc : ∀ x, cs x = (g x).map a) (hl : ∀ x, (g x).length ≤ 1000) (h : DA X B ow Γ p s es cs G v u) : De X B ow Γ p s (.Tuple es x1 pos) (cT a) G (fun ε => g (v ε)) u :=
  (d_tup (ct := fun q => .tuple (cs q)) (fun _ => rfl) (fun q => by rw [hc, List.length_map]; exact hl q) h).as (c' := cT a) (g := g) fun q => by
    show PyData.tuple (cs q) = .tuple ((g q).map a)
    rw [hc]
theorem l_nil : DL X B ow Γ true (.List [] pos) a (fun _ => True) (fun _ => []) (fun ε => ε) := l_disp (cs := an) (g := fun _ => []) (fun _ => rfl) (fun _ => Nat.zero_le _) a_nil
theorem l_dispE {cs : β → List D} {v : E → β} (g : β → List α) (hc : ∀ x, cs x = (g x).map a) (hl : ∀ x, (g x).length ≤ 1000) (h : DA X B ow Γ false true es cs G v u) : De X B ow Γ false true (.List es pos) (cL a) G (fun ε => g (v ε)) u :=
  l_dispX hc hl h
end
section
variable {M R S α β : Type}
theorem ends_ret {c : β → D} {cr : R → D} (g : R → β) (hg : ∀ r, cr r = c (g r)) (o : Out Empty R Empty) : Ends cr c o (g o.ret) := by
  cases o with
  | rt r => exact hg r
  | nx e => exact nomatch e
  | bk e => exact nomatch e
  | ct e => exact nomatch e
theorem ends_und (o : Out M Unit Empty) : Ends cN cN o () := by
  cases o with
  | rt r => rfl
  | nx e => rfl
  | bk e => exact nomatch e
  | ct e => exact nomatch e
theorem ret_ex {c : β → D} {τ : Type} {cb : τ → List D} (o : Out Empty (β × τ) Empty) : ∃ r, o = .rt r ∧ (fun q : β × τ => c q.1) r = c o.ret.1 ∧ (fun q : β × τ => cb q.2) r = cb o.ret.2 := by
  cases o with
  | rt r => exact ⟨r, rfl, rfl, rfl⟩
  | nx e => exact nomatch e
  | bk e => exact nomatch e
  | ct e => exact nomatch e
@[simp] theorem ret_rt (r : R) : (Out.rt r : Out Empty R Empty).ret = r := rfl
@[simp] theorem ret_ite {c : Prop} [Decidable c] (a b : Out Empty R Empty) : (if c then a else b).ret = if c then a.ret else b.ret := by split <;> rfl
@[simp] theorem bind_ite {N : Type} {c : Prop} [Decidable c] (a b : Out M R S) (k : M → Out N R S) : (if c then a else b).bind k = if c then a.bind k else b.bind k := by split <;> rfl
end
/-- the state of a law -/
abbrev St4 := List Int × Int × Int × Int
abbrev cSt : St4 → List D := fun t => [.list (t.1.map cI), .int t.2.1, .int t.2.2.1, .int t.2.2.2]
end Y
namespace Y
open PySem PySem.Spec PyProof.Rows L2
instance {N R S : Type} [Inhabited R] : Inhabited (Out N R S) := ⟨.rt default⟩
theorem keep_nx {E M R S : Type} {o : Out M R S} {ε : E} {n : E × M} (e : o.keep ε = .nx n) (P : E × M → Prop) (h : ∀ m, o = .nx m → P (ε, m)) : P n := by
  cases o with
  | nx m =>
    cases e
    exact h m rfl
  | rt r => cases e
  | bk r => cases e
  | ct r => cases e
section
variable {X : Cx} {B : Bd} {ow ow1 ow' owS : List Nat} {E M N R S : Type} {Γ : E → List (Option D)} {Γ1 : E × M → List (Option D)} {Γ' : N → List (Option D)} {ΓS : S → List (Option D)} {cr : R → D} {ci : R → List D} {st : Stmt} {sts a b : List Stmt} {G1 G Ga Gb : E → Prop} {G2 : E × M → Prop} {oL : E → Out M R S} {ue : E → E} {d2 : E × M → Out N R S} {e : Expr} {pos : Pos} {p : Bool} {t : E → Bool} {u : E → E}
/-- a loop that may leave, the rest -/
theorem s_consK (h1 : Ds X B ow Γ cr ci owS ΓS st G1 (fun ε => (oL ε).keep (ue ε)) ow1 Γ1) (h2 : Dss X B ow1 Γ1 cr ci owS ΓS sts G2 d2 ow' Γ') :
    Dss X B ow Γ cr ci owS ΓS (st :: sts) (fun ε => G1 ε ∧ ∀ m, oL ε = .nx m → G2 (ue ε, m)) (fun ε => (oL ε).bind fun m => d2 (ue ε, m)) ow' Γ' :=
  (s_consM h1 h2).is (fun ε h => ⟨h.1, fun n e => keep_nx e G2 h.2⟩) fun ε _ => by
    show (Out.keep (oL ε) (ue ε)).bind d2 = _
    cases oL ε <;> rfl
/-- if that may leave, the rest -/
theorem s_ifK {da db : E → Out (E × M) R S} {oa ob : E → Out M R S} (ht : Dt X B ow Γ p e G t u) (ha : Dss X B ow Γ cr ci owS ΓS a Ga da ow1 Γ1) (hb : Dss X B ow Γ cr ci owS ΓS b Gb db ow1 Γ1) (hka : ∀ ε, da ε = (oa ε).keep ε) (hkb : ∀ ε, db ε = (ob ε).keep ε) :
    Ds X B ow Γ cr ci owS ΓS (.If e a b pos) (fun ε => G ε ∧ (t ε = true → Ga (u ε)) ∧ (t ε = false → Gb (u ε))) (fun ε => (if t ε = true then oa (u ε) else ob (u ε)).keep (u ε)) ow1 Γ1 :=
  (s_ifM ht ha hb).is (fun _ h => h) fun ε _ => by
    rw [hka, hkb]
    cases t ε <;> rfl
variable {τ : Type} {p1 p2 : Bool} {e1 e2 : Expr} {es : List Expr} {t1 t2 : E → Bool} {u1 u2 : E → E} {s1 s2 : E → τ} {H1 H2 : E → Prop}
theorem Dw.un {u' : E → E} (h : Dw X B ow Γ p e G t u) (hu : ∀ ε, u ε = u' ε) : Dw X B ow Γ p e G t u' := by
  have : u = u' := funext hu
  rw [← this]; exact h
theorem w_andS (put : E → τ → E) (h1 : Dt X B ow Γ p1 e1 H1 t1 u1) (h2 : Dw X B ow Γ p2 (.BoolOp .And (e2 :: es) pos) H2 t2 u2) (q1 : ∀ ε, u1 ε = put ε (s1 ε)) (q2 : ∀ ε, u2 (u1 ε) = put ε (s2 ε)) :
    Dw X B ow Γ (p1 && p2) (.BoolOp .And (e1 :: e2 :: es) pos) (fun ε => H1 ε ∧ (t1 ε = true → H2 (u1 ε))) (fun ε => t1 ε && t2 (u1 ε)) (fun ε => put ε (if t1 ε = true then s2 ε else s1 ε)) :=
  (w_and h1 h2).un fun ε => by
    cases t1 ε
    · exact q1 ε
    · exact q2 ε
theorem w_orS (put : E → τ → E) (h1 : Dt X B ow Γ p1 e1 H1 t1 u1) (h2 : Dw X B ow Γ p2 (.BoolOp .Or (e2 :: es) pos) H2 t2 u2) (q1 : ∀ ε, u1 ε = put ε (s1 ε)) (q2 : ∀ ε, u2 (u1 ε) = put ε (s2 ε)) :
    Dw X B ow Γ (p1 && p2) (.BoolOp .Or (e1 :: e2 :: es) pos) (fun ε => H1 ε ∧ (t1 ε = false → H2 (u1 ε))) (fun ε => t1 ε || t2 (u1 ε)) (fun ε => put ε (if t1 ε = true then s1 ε else s2 ε)) :=
  (w_or h1 h2).un fun ε => by
    cases t1 ε
    · exact q2 ε
    · exact q1 ε
end
end Y
namespace Y
open PySem PySem.Spec PyProof.Rows L2

/-! ### repr -/
def rRepr (K : Frag) : List V → Hp → VK → Prop := fun vs H Q => ∃ (v : V) (d : D), vs = [v] ∧ Dp K H v d ∧ d.showable = true ∧ d.hasDict = false ∧ d.depth ≤ 64 ∧ d.shown.length ≤ sizeLine ∧ Q (.str d.shown) H
section
variable {X : Cx}
theorem cr_repr (hgd : X.A.guards = some []) (hu : X.A.units + 200 < cLine) : CallR X (.builtin "repr") (rRepr X.K) := by
  intro pins s σ H vs us Q I r h
  obtain ⟨v, d, rfl, hd, h1, h2, h3, h4, q⟩ := h
  obtain ⟨u, rfl, ru⟩ := vals1 r
  have fin : ∀ (tk : Nat), EP X pins σ Q (.str d.shown tk) { s with toks := tk + 1 } := fun tk => ⟨.str _, H, I.tok _, ⟨_, rfl⟩, q⟩
  cases d with
  | none =>
    cases hd
    obtain rfl : u = Value.none := ru
    exact PySem.P.repr_of_none (fin _)
  | bool b =>
    cases hd
    obtain rfl : u = Value.bool b := ru
    exact PySem.P.repr_of_bool (fin _)
  | int i =>
    cases hd
    obtain ⟨t, rfl⟩ := ru
    exact PySem.P.repr_of_int (by simpa [PyData.showable] using h1) (fin _)
  | str x =>
    cases hd
    obtain ⟨t, rfl⟩ := ru
    exact PySem.P.repr_of_str (fin _) h4
  | list ds =>
    obtain ⟨as, rd⟩ := Dp.reads I _ v u hd ru
    cases hd with
    | lst hs ha =>
      cases ru
      exact repr_of_reads' rd h1 (fun e => by rw [h2] at e; cases e) hgd (by omega) (fun _ _ e => e) (fun h' t tk hk => ⟨.str _, H, I.kept hk, ⟨_, rfl⟩, q⟩) h4
  | tuple ds =>
    obtain ⟨as, rd⟩ := Dp.reads I _ v u hd ru
    cases hd with
    | tup hs ha =>
      cases ru
      exact repr_of_reads' rd h1 (fun e => by rw [h2] at e; cases e) hgd (by omega) (fun _ _ e => e) (fun h' t tk hk => ⟨.str _, H, I.kept hk, ⟨_, rfl⟩, q⟩) h4
  | dict kvs => cases hd
end
/-- what may be shown -/
def Shw (d : D) : Prop := d.showable = true ∧ d.hasDict = false ∧ d.depth ≤ 64 ∧ d.shown.length ≤ 16777216
theorem v_repr {K : Frag} {α : Type} {c : α → D} : OpL K (rRepr K) (ac c an) cS (fun q => Shw (c q.1)) (fun q => (c q.1).shown) := fun A H q vs Q _ z hc k => by
  obtain ⟨v, rfl, z1⟩ := fzl1 (ds := []) z
  exact ⟨v, _, rfl, z1.dp, hc.1, hc.2.1, hc.2.2.1, by rw [sizeLine_eq]; exact hc.2.2.2, k _ H (Fr.refl _ _) (.str _)⟩

/-! ### a list of a known form, one's own: parts read and written -/
section
variable {X : Cx} {B : Bd} {ow owS : List Nat} {E R S α β τ : Type} {Γ : E → List (Option D)} {ΓS : S → List (Option D)} {cr : R → D} {ci : R → List D} {p s : Bool} {e : Expr} {pos px py : Pos} {G : E → Prop} {d : E → α} {u : E → E} {y : Str} {c : α → D}
theorem d_prjL {b : Expr} (n : Int) {cb : β → D} (g : α → β) (hc : ∀ x, ∃ ds, c x = .list ds ∧ atI ds n = some (cb (g x))) (h : De X B ow Γ p s e c G d u)
    (hb : De X B ow Γ true true b cI (fun _ => True) (fun _ => n) (fun ε => ε)) (hx : PlainIx b := by exact fun _ _ => rfl) : De X B ow Γ p s (.Subscript e b pos) cb G (fun ε => g (d ε)) u :=
  ⟨(pe_ix (pos := pos) ix_list h.pe hb.pe hx).weaken fun σ H Q ⟨H0, ε, rl, g1, k⟩ => ⟨H0, ε, rl, g1, fun v H1 f1 r1 z1 => ⟨H0, u ε, r1, trivial, fun w H2 f2 r2 z2 => by
    obtain ⟨ds, e1, e2⟩ := hc (d ε)
    rw [e1] at z1
    obtain ⟨a, vs, rfl, nd, l⟩ := z1.lst_inv
    cases z2.int_inv
    obtain ⟨v', e3, z⟩ := l.atI e2
    have f2' : Fr [] H1 H2 := f2
    exact ⟨a, vs, n, v', rfl, rfl, (nd.fr f2'.nil).sq, e3, k _ H2 (f1.trans f2'.nil) r2 (z.fr f2'.nil)⟩⟩⟩⟩
theorem s_setF {cs : τ → List D} (j : Nat) (n : Nat) (gt : E → τ) (new : τ → α → τ) (hnew : ∀ t a, cs (new t a) = (cs t).set n (c a)) (hn : ∀ t, n < (cs t).length) (hget : ∀ ε, (Γ ε)[j]? = some (some (.list (cs (gt ε))))) (he : De X B ow Γ p true e c G d u) {p1 : Pos} {k1 : Nat} (hj : j ∈ ow := by decide) (hN : X.N[j]? = some y := by rfl)
    (hv : Vis X.env.scope y := by first | exact Or.inl rfl | exact Or.inr (Or.inl rfl) | exact Or.inr (Or.inr rfl)) (hd : (y == ("__debug__" : Str)) = false := by decide) (hcd : (y == ("__classdict__" : Str)) = false := by decide)
    (ha : ∀ v, assign (.Subscript (.Name y py) (.Constant (.int (n : Nat)) k1 p1) px) X.env v = (do
      let ov ← holding [v] (eval (.Name y py) X.env)
      let iv ← holding [v, ov] (eval (.Constant (.int (n : Nat)) k1 p1) X.env)
      standAt px
      holding [v, ov, iv] (setItem ov iv v)
      release [v, ov, iv] []) := by intro _; rfl)
    (hs : swapsWithSole [.Subscript (.Name y py) (.Constant (.int (n : Nat)) k1 p1) px] e pos.line X.env = pure false := by rfl) (hw : swappedStores [.Subscript (.Name y py) (.Constant (.int (n : Nat)) k1 p1) px] e X.env = pure none := by rfl)
    (h1 : (assignEach [.Subscript (.Name y py) (.Constant (.int (n : Nat)) k1 p1) px] X.env).map (·.2) = [assign (.Subscript (.Name y py) (.Constant (.int (n : Nat)) k1 p1) px) X.env] := by rfl) :
    Ds X B ow Γ cr ci owS ΓS (.Assign [.Subscript (.Name y py) (.Constant (.int (n : Nat)) k1 p1) px] e pos) G (fun ε => .nx (u ε, new (gt (u ε)) (d ε))) ow (fun q : E × τ => (Γ q.1).set j (some (.list (cs q.2)))) :=
  ⟨(ps_asg he.pe (pg_sub (pe_var hN hv hd hcd) pe_int set_list ha) hs hw h1).weaken fun Dn σ H ⟨H0, ε, rl, g, k⟩ => ⟨H0, ε, rl, g, fun v H1 f1 r1 z1 => by
    obtain ⟨a, vs, ds, e1, e2, e3, e4⟩ := r1.own j _ hj (hget (u ε))
    injection e2 with e2
    subst e2
    have hl : vs.length = (cs (gt (u ε))).length := e4.length
    refine ⟨_, e1, a, vs, n, n, rfl, rfl, e3.1, ?_, ?_⟩
    · unfold ixN
      rw [if_pos (by omega), if_pos (by have := hn (gt (u ε)); omega)]
      simp
    · have ha : a ∈ B.full σ ow := mem_full.mpr (.inr (mem_oa.mpr ⟨j, hj, e1⟩))
      refine k _ _ (r1.write hj e1 (Fr.at (by simp)) upd_same (by rw [List.length_set]; exact e3.2) ?_)
      rw [hnew]
      exact (e4.fr (Fr.at ha)).set n (z1.fr (Fr.at ha))⟩⟩
end

theorem hfz_of {ow : List Nat} {γ γ' : List (Option D)} {x : Option D} (j : Nat) (hj : j ∈ ow) (h : γ' = γ.set j x) {i : Nat} {d : D} (hi : i ∉ ow) (e : γ[i]? = some (some d)) : γ'[i]? = some (some d) := by
  rw [h, List.getElem?_set_ne fun z => hi (by rw [← z]; exact hj)]
  exact e
theorem int_at {ns : List Int} {i : Nat} {x : V} (h : (ns.map V.int)[i]? = some x) : ∃ z, ns[i]? = some z ∧ x = .int z := by
  rw [List.getElem?_map] at h
  cases e : ns[i]? with
  | none => rw [e] at h; cases h
  | some z => rw [e] at h; injection h with h; exact ⟨z, rfl, h.symm⟩
/-! ### the law's start -/
def seedF (ns : List Int) : Int := ns.foldl (fun z c => (z * 48271 + c) % 2147483629 + 1) 7
def spStart (K : Frag) : Sp := fun vs H Q _ => ∃ (a : Addr) (ns : List Int), vs = [.ref a] ∧ SqL K H a (ns.map V.int) ∧ ns.length ≤ 63 ∧
  ∀ (q l : Addr) (H' : Hp), H q = none → H l = none → l ≠ q → Fr [] H H' → H' q = some (.lst [.ref l, .int 0, .int 0, .int (seedF ns)]) → H' l = some (.lst (ns.map V.int)) → Q (.ref q) H'
def spLaw (K : Frag) : Sp := fun vs H Q _ => ∃ (a : Addr) (ns : List Int), vs = [.ref a] ∧ SqL K H a (ns.map V.int) ∧ ns.length ≤ 63 ∧ ∀ H', Q (.bl true) H'
/-- the state as it may stand -/
def Wf (t : St4) : Prop := t.1.length ≤ 63 ∧ 0 ≤ t.2.1 ∧ 0 ≤ t.2.2.1 ∧ t.2.2.1 ≤ t.1.length ∧ 0 ≤ t.2.2.2 ∧ t.2.2.2 ≤ 2147483629
theorem seedF_ok (ns : List Int) : 0 ≤ seedF ns ∧ seedF ns ≤ 2147483629 := by
  unfold seedF
  have h : ∀ (xs : List Int) (z : Int), 0 ≤ z ∧ z ≤ 2147483629 → 0 ≤ xs.foldl (fun z c => (z * 48271 + c) % 2147483629 + 1) z ∧ xs.foldl (fun z c => (z * 48271 + c) % 2147483629 + 1) z ≤ 2147483629 := by
    intro xs
    induction xs with
    | nil => intro z h; exact h
    | cons x xs ih =>
      intro z h
      exact ih _ (by
        show 0 ≤ (z * 48271 + x) % 2147483629 + 1 ∧ (z * 48271 + x) % 2147483629 + 1 ≤ 2147483629
        omega)
  exact h ns 7 (by omega)
theorem seedF_take {ns : List Int} {i : Nat} {z : Int} (h : ns[i]? = some z) : seedF (ns.take (i + 1)) = (seedF (ns.take i) * 48271 + z) % 2147483629 + 1 := by
  unfold seedF
  rw [List.take_add_one, h, List.foldl_append]
  rfl
section
variable {P : Program} {w : World} {K : Frag} {mg : Str → Option Value} {base : Heap} {k : Nat} {f fS : Addr} {fd fdS : FuncData} {qual : Str} {st : Stmt} {N : List Str} {N' S' : Type}
theorem fn_law {owS ow' : List Nat} {ΓS : S' → List (Option D)} {Γ' : N' → List (Option D)} {G : St4 → Prop} {d : St4 → Out N' Bool S'} {px p1 p2 p3 p4 : Pos} {rest : List Stmt} (F : Fun K "law" qual st f fd) (m : Nat) (hN : N.length = m + 2) (S : FnScope N ["script"] (defScope st))
    (hbody : defBody st = .Assign [.Name "state" px] (.Call (.Name "_law_start" p1) [.Name "script" p2] [] p3) p4 :: rest) (GS : FnG P w K mg base k fS fdS ["script"] (spStart K)) (hm : mg "_law_start" = some (.ref fS)) (hk : PySem.W.keepIn K (.ref fS) = true) (hb : Binds K fdS ["script"] [])
    (body : ∀ (cdv : Value) (A : Around) (outer : List Env) (s : Shared) (H : Hp) (E : XK), Room k (A.deeper (envOfC qual (defScope st) s.heap.objs.size f cdv)) → A.guards = some [] →
      (∃ t, PS (XF P w K mg base N qual st f cdv A outer s H E) (.Assign [.Name "state" px] (.Call (.Name "_law_start" p1) [.Name "script" p2] [] p3) p4) t ∧ ∀ (a : Addr) (D : L2.Ends) (σ : L2.St) (H : Hp), σ = L2.start N [.ref a] → spStart K [.ref a] H (fun v H' => D.nx (σ.set 1 (some v)) H') E0 → t D σ H) ∧
      Dss (XF P w K mg base N qual st f cdv A outer s H E) ⟨[], [], none⟩ [1] (fun t : St4 => none :: some (.list (cSt t)) :: List.replicate m none) cB (fun _ => []) owS ΓS rest G d ow' Γ')
    (hG : ∀ t, Wf t → G t) (hd : ∀ t, Wf t → d t = .rt true) : FnG P w K mg base (k + 1) f fd ["script"] (spLaw K) := by
  refine fnG F S (fun vs H Q E ⟨a, ns, e, _⟩ => by rw [e]; rfl) fun cdv A outer s H vs Q E hr hg ⟨a, ns, e, hS, hlen, q⟩ => ?_
  subst e
  obtain ⟨⟨t, ht, hq⟩, hb2⟩ := body cdv A outer s H E hr hg
  rw [hbody]
  refine ⟨_, pss_cons ht hb2.pss, hq a _ _ _ rfl ⟨a, ns, rfl, hS, hlen, fun q' l H' h1 h2 h3 h4 h5 h6 => ?_⟩⟩
  have hw : Wf (ns, 0, 0, seedF ns) := ⟨hlen, Int.le_refl _, Int.le_refl _, (by show (0 : Int) ≤ (ns.length : Int); omega), seedF_ok ns⟩
  have es : L2.start N [V.ref a] = some (.ref a) :: none :: List.replicate m none := by
    unfold L2.start
    rw [hN]
    show some (V.ref a) :: List.replicate (m + 2 - 1) none = _
    rw [show m + 2 - 1 = m + 1 from rfl, List.replicate_succ]
  have eσ : (L2.start N [V.ref a]).set 1 (some (.ref q')) = some (.ref a) :: some (.ref q') :: List.replicate m none := by rw [es]; rfl
  refine ⟨H, (ns, 0, 0, seedF ns), ?_, hG _ hw, ?_⟩
  · rw [eσ]
    have ea : oa (some (V.ref a) :: some (V.ref q') :: List.replicate m none) [1] = [q'] := by simp [oa]
    have ef : (⟨[], [], none⟩ : Bd).full (some (V.ref a) :: some (V.ref q') :: List.replicate m none) [1] = [q'] := by simp [Bd.full, Bd.base, ea]
    refine ⟨by simp, fun i j a' hi hj _ _ => by rw [List.mem_singleton.mp hi, List.mem_singleton.mp hj], fun i d hi e => ?_, fun i d hi e => ?_, fun a' h => ?_, fun b o e _ => h4 b o e (by simp), fun a' h => ?_, fun a' h => absurd h (by simp), fun a' h => absurd h (by simp), fun p h => absurd h (by simp)⟩
    · match i with
      | 0 => simp at e
      | 1 => exact absurd (by simp) hi
      | i + 2 =>
        have e' : (List.replicate m (none : Option D))[i]? = some (some d) := by simpa using e
        have := List.eq_of_mem_replicate (List.mem_of_getElem? e')
        cases this
    · rw [List.mem_singleton.mp hi] at e ⊢
      have e' : PyData.list (cSt (ns, 0, 0, seedF ns)) = d := by simpa using e
      refine ⟨q', _, _, rfl, e'.symm, ⟨h5, by show 4 ≤ szN; decide⟩, ?_⟩
      rw [ef]
      exact .cons (.lst ⟨⟨by simp; exact h3, h6⟩, by rw [List.length_map]; show _ ≤ 16777216; omega⟩ (ints_fzl ns)) (.cons (.int _) (.cons (.int _) (.cons (.int _) .nil)))
    · rw [ea, List.mem_singleton] at h
      rw [h]
      exact ⟨_, h5⟩
    · rw [ea, List.mem_singleton] at h
      rw [h]
      exact .inl h1
  · rw [hd _ hw]
    intro v H' ex
    cases ex.2.1
    exact q H'
end
end Y
namespace Y
open PySem PySem.Spec PyProof.Rows L2

/-! ### the end of a law -/
theorem hp_law {P : Program} {w : World} {K : Frag} {mg mb : Str → Option Value} {k : Nat} {fa a : Addr} {fd : FuncData} {x : Str} {sp : Sp} {t1 : Shared} {vs : List Value} {ns : List Int} (KX : K.In t1.heap) (hns : t1.heap.Ns mainGlobals mg)
    (hb : t1.heap.Ns builtinsNs mb) (hbb : ∀ x : Str, x ≠ "__name__" → mb x = bootBuiltins x) (hlim : t1.heap.NoLimit) (hg : t1.gens = #[]) (ha : t1.heap.get? a = some { cls := .type "list", data := .seq vs.toArray }) (hl : ns.length ≤ sizeLine) (hr : Room k callerA)
    (F : ∀ base : Heap, K.In base → base.Ns mainGlobals mg → FnG P w K mg base k fa fd [x] sp) (hbind : ∀ (s : Shared) (u : Value), BindsTo s fd ⟨[u], []⟩ [(x, u)]) {H : Hp} (hO : Only H) (hsp : sp [.ref a] H (fun v _ => v = .bl true) E0)
    (hok : HOk P w H t1.heap) (hA : ∀ b, H b ≠ none → b = a) (hK : H a ≠ none → K.lookup a = none) :
    codeAny (model P w) callerA (.call (.ref fa) ⟨[.ref a], []⟩) (fun r s' => r = .ok (.ret (.bool true)) ∧ OldK t1.heap s'.heap ∧ s'.os = t1.os ∧ AllBare s'.gens) t1 := by
  have is_a : ∀ {b : Addr}, H b ≠ none → b = a := fun {b} h => hA b h
  have keepN : ∀ {b : Addr} {o : Obj} {es : Array DictEntry} {ep : Nat}, t1.heap.get? b = some o → o.data = .dict es ep → H b = none := fun {b o es ep} e d => Classical.byContradiction fun q => by
    have q2 := is_a q
    subst q2
    rw [ha] at e
    cases e
    have d2 : Data.seq vs.toArray _ = Data.dict es ep := d
    cases d2
  have nsK : ∀ {b : Addr} {m : Str → Option Value}, t1.heap.Ns b m → (hidT t1.heap H).Ns b m := fun {b m} h => by
    obtain ⟨o, es, ep, e, d, r⟩ := h
    exact ⟨o, es, ep, hidT_get e (keepN e d), d, r⟩
  have hKb : K.In (hidT t1.heap H) := fun b o e => hidT_get (KX b o e) (Classical.byContradiction fun q => by
    have q2 := is_a q
    subst q2
    rw [hK q] at e
    cases e)
  have hM : Mod K mg (hidT t1.heap H) := ⟨hKb, nsK hns, ⟨mb, nsK hb, hbb⟩, by obtain ⟨mc, h1, h2⟩ := hlim; exact ⟨mc, nsK h1, h2⟩⟩
  have env0 : Env0 P w K mg (hidT t1.heap H) callerA [] t1 H := ⟨rfl, hM, fun b o e => of_hidT e, Nat.le_of_eq (hidT_size _ _), trivial, fun b hb => absurd (show b ∈ ([] : List Addr) from hb) (by simp), hok, .of_eq hg⟩
  refine codeAny_mono ((F _ hKb (nsK hns)).run callerA [] t1 H ⟨[.ref a], []⟩ [.ref a] [.ref a] _ _ hr rfl env0 (hbind t1 (.ref a)) (.cons rfl .nil) hsp) fun r s' h => ?_
  match r, h with
  | .error e, h => exact (show False from h).elim
  | .ok .next, h => exact False.elim h
  | .ok .brk, h => exact False.elim h
  | .ok .cont, h => exact False.elim h
  | .ok (.ret u), h =>
    obtain ⟨v, H', os, bare, un, hok', r', q⟩ := h
    have q' : v = .bl true := q
    subst q'
    obtain rfl : u = Value.bool true := r'
    refine ⟨rfl, OldK.of_keep fun b o e => ?_, os, bare⟩
    rcases hO b with z | ⟨ob, xs, z⟩
    · exact un.keep b o e z (fun z => absurd (show b ∈ ([] : List Addr) from z) (by simp)) (by simp)
    · obtain ⟨e1, _⟩ := hok b _ z
      obtain ⟨e2, _⟩ := hok' b _ (un.frzs b ob _ z)
      rw [e] at e1
      cases e1
      exact e2
theorem fin_law {P : Program} {w : World} {K : Frag} {mg mb : Str → Option Value} {k : Nat} {fa a : Addr} {fd : FuncData} {x : Str} {t1 : Shared} {vs : List Value} {ns : List Int} (KX : K.In t1.heap) (hns : t1.heap.Ns mainGlobals mg)
    (hb : t1.heap.Ns builtinsNs mb) (hbb : ∀ x : Str, x ≠ "__name__" → mb x = bootBuiltins x) (hlim : t1.heap.NoLimit) (hg : t1.gens = #[]) (ha : t1.heap.get? a = some { cls := .type "list", data := .seq vs.toArray }) (hi : IntsAre vs ns) (hl : ns.length ≤ 63) (hr : Room k callerA)
    (F : ∀ base : Heap, K.In base → base.Ns mainGlobals mg → FnG P w K mg base k fa fd [x] (spLaw K)) (hbind : ∀ (s : Shared) (u : Value), BindsTo s fd ⟨[u], []⟩ [(x, u)]) :
    codeAny (model P w) callerA (.call (.ref fa) ⟨[.ref a], []⟩) (fun r s' => r = .ok (.ret (.bool true)) ∧ OldK t1.heap s'.heap ∧ s'.os = t1.os ∧ AllBare s'.gens) t1 := by
  have rv := vals_ints hi
  have lenV := hi.length
  have hz : ns.length ≤ sizeLine := by rw [sizeLine_eq]; omega
  cases hk : K.lookup a with
  | some o =>
    have e := KX a o hk
    rw [ha] at e
    cases e
    have hS : SqL K (fun _ => none) a (ns.map V.int) := .inr ⟨_, vs.toArray, _, hk, rfl, rfl, rfl, by rw [List.size_toArray, lenV]; exact hz, by simpa using rv⟩
    exact hp_law (H := fun _ => none) KX hns hb hbb hlim hg ha hz hr F hbind (fun _ => .inl rfl) ⟨a, ns, rfl, hS, hl, fun _ => rfl⟩ (fun b u z => by cases z) (fun b z => absurd rfl z) fun z => absurd rfl z
  | none =>
    have at_a : ∀ {b : Addr} {u : HO}, (if b = a then some (HO.frz { cls := .type "list", data := .seq vs.toArray } (.lst (ns.map V.int))) else none) = some u → b = a ∧ u = .frz { cls := .type "list", data := .seq vs.toArray } (.lst (ns.map V.int)) := fun {b u} z => by
      by_cases h : b = a
      · rw [if_pos h] at z
        injection z with z
        exact ⟨h, z.symm⟩
      · rw [if_neg h] at z
        cases z
    refine hp_law (H := fun b => if b = a then some (.frz { cls := .type "list", data := .seq vs.toArray } (.lst (ns.map V.int))) else none) KX hns hb hbb hlim hg ha hz hr F hbind (fun b => ?_) ⟨a, ns, rfl, .inl (.inr ⟨_, if_pos rfl⟩), hl, fun _ => rfl⟩ (fun b u z => ?_) (fun b z => ?_) fun _ => hk
    · by_cases h : b = a
      · exact .inr ⟨_, _, if_pos h⟩
      · exact .inl (if_neg h)
    · obtain ⟨h1, h2⟩ := at_a z
      subst h1 h2
      exact ⟨ha, by rw [List.length_map]; exact hz, vs, _, rv, ha⟩
    · by_cases h : b = a
      · exact h
      · exact absurd (if_neg h) z
theorem walk_law {l : PySem.W.OpenLaw} {k : Nat} {q : Program} {loose : List Str} {XP : (Str → Option Value) → Heap → Prop} {YP : World → Heap → Prop} {d : DefRec} {K : Params → Frag} {x : Str} (hn : l.most = some 63) (hdf : d.params.defaults = []) (hr : Room k callerA)
    (hY : ∀ (w : World) (h : Heap), YP w h → (K w.params).In h)
    (F : ∀ (w : World) (mg : Str → Option Value) (fa : Addr) (h : Heap), (K w.params).In h → h.Ns mainGlobals mg → mg d.name = some (.ref fa) →
      ∃ fd : FuncData, (∀ (s : Shared) (u : Value), BindsTo s fd ⟨[u], []⟩ [(x, u)]) ∧ ∀ base : Heap, (K w.params).In base → base.Ns mainGlobals mg → FnG l.prog w (K w.params) mg base k fa fd [x] (spLaw (K w.params))) :
    PySem.W.WalkO q loose XP YP l.row.toRowW d [] (fun f vs => PySem.call f vs) := by
  refine Att.attach_call hn hdf fun w s0 t1 mg mb fa o pm cd doc a vs ns G Z ho hd hcd hmg hobj hints hlen hg => ?_
  have KX := hY w _ Z
  obtain ⟨fd, hbd, hF⟩ := F w mg fa _ KX G.T.g hmg
  exact fin_law KX G.T.g G.T.b G.T.builtins G.T.nolimit hg hobj hints hlen hr hF hbd
end Y
namespace Y
open PySem PySem.Spec PyProof.Rows L2

/-! ### plain facts of the mirrors' words -/
section
variable {α β τ : Type}
theorem ixD_of [Inhabited α] {xs : List α} {k : Nat} {v : α} (h : xs[k]? = some v) : ixD xs (k : Int) = v := by
  unfold ixD
  rw [atI_nat h]
  rfl
theorem ixD_get [Inhabited α] {xs : List α} {k : Nat} (h : k < xs.length) : ixD xs (k : Int) = xs[k] := ixD_of (List.getElem?_eq_getElem h)
theorem cix_nat {xs : List α} {k : Nat} (h : k < xs.length) : CIx xs (k : Int) := ⟨by omega, by omega⟩
theorem cix_of {xs : List α} {i : Int} (h0 : 0 ≤ i) (h1 : i < xs.length) : CIx xs i := ⟨by omega, h1⟩
theorem ixD_mem [Inhabited α] {xs : List α} {i : Int} (h0 : 0 ≤ i) (h1 : i < xs.length) : ixD xs i ∈ xs := by
  obtain ⟨k, rfl⟩ := Int.eq_ofNat_of_zero_le h0
  have h : k < xs.length := by omega
  rw [ixD_get h]
  exact List.getElem_mem h
theorem mem_rng {a b x : Int} : x ∈ rng a b ↔ a ≤ x ∧ x < b := by
  unfold rng
  rw [List.mem_map]
  constructor
  · rintro ⟨i, h, rfl⟩
    rw [List.mem_range] at h
    omega
  · intro h
    exact ⟨(x - a).toNat, by rw [List.mem_range]; omega, by omega⟩
theorem rng_eq (n : Nat) : rng 0 (n : Int) = (List.range n).map fun (i : Nat) => (i : Int) := by
  unfold rng
  have e : ((n : Int) - 0).toNat = n := by omega
  rw [e]
  exact List.map_congr_left fun i _ => by omega
theorem cut_take {xs : List α} {i : Int} (h : 0 ≤ i) : cut xs none (some i) = xs.take i.toNat := by
  obtain ⟨k, rfl⟩ := Int.eq_ofNat_of_zero_le h
  unfold cut
  rw [HT.sIx_none, HT.sIx_nat, List.drop_zero, Nat.sub_zero, Int.toNat_natCast]
  rcases Nat.le_total k xs.length with h | h
  · rw [Nat.min_eq_left h]
  · rw [Nat.min_eq_right h, List.take_length, List.take_of_length_le h]
theorem cut_drop {xs : List α} {i : Int} (h : 0 ≤ i) : cut xs (some i) none = xs.drop i.toNat := by
  obtain ⟨k, rfl⟩ := Int.eq_ofNat_of_zero_le h
  unfold cut
  rw [HT.sIx_none, HT.sIx_nat, Int.toNat_natCast]
  rcases Nat.le_total k xs.length with h | h
  · rw [Nat.min_eq_left h, List.take_of_length_le (by simp)]
  · rw [Nat.min_eq_right h, List.drop_of_length_le h, List.drop_length]
    simp
theorem enum_eq (xs : List α) (k : Nat) (h : k < (enum xs).length) : (enum xs)[k] = ((k : Int), xs[k]'(by rw [enum_length] at h; exact h)) := by
  have h' : k < xs.length := by rw [enum_length] at h; exact h
  have e := enum_get xs k
  rw [List.getElem?_eq_getElem h, List.getElem?_eq_getElem h'] at e
  exact Option.some.inj e
/-- a loop by what holds at each turn, no turn leaving -/
theorem for_inv {R S T : Type} {g : T × α → Prop} {f : T × α → Out T R T} (P : T → Prop) : ∀ (xs : List α) (t : T), P t → (∀ t x, P t → x ∈ xs → g (t, x) ∧ ∃ t', f (t, x) = .nx t' ∧ P t') → forG g f t xs ∧ ∃ t', forO (S := S) f t xs = .nx t' ∧ P t'
  | [], t, h, _ => ⟨trivial, t, rfl, h⟩
  | x :: xs, t, h, k => by
    obtain ⟨h1, t', h2, h3⟩ := k t x h List.mem_cons_self
    obtain ⟨i1, t2, i2, i3⟩ := for_inv P xs t' h3 fun t y p m => k t y p (List.mem_cons_of_mem _ m)
    refine ⟨⟨h1, ?_⟩, t2, ?_, i3⟩
    · rw [h2]; exact i1
    · rw [forO, h2]; exact i2
theorem for_use {R S T : Type} {g : T × α → Prop} {f : T × α → Out T R T} {xs : List α} {t : T} (P : T → Prop) {G' : T → Prop} {Z : Out T R S → Prop} (h0 : P t) (k : ∀ t x, P t → x ∈ xs → g (t, x) ∧ ∃ t', f (t, x) = .nx t' ∧ P t') (rest : ∀ t', P t' → G' t' ∧ Z (.nx t')) :
    (forG g f t xs ∧ ∀ l, forO (S := S) f t xs = .nx l → G' l) ∧ Z (forO f t xs) := by
  obtain ⟨h1, t', h2, h3⟩ := for_inv (S := S) P xs t h0 k
  obtain ⟨r1, r2⟩ := rest t' h3
  rw [h2]
  exact ⟨⟨h1, fun l e => by injection e with e; rw [← e]; exact r1⟩, r2⟩
theorem forO_use {R S T : Type} {f : T × α → Out T R T} {xs : List α} {t : T} (P : T → Prop) {Z : Out T R S → Prop} (h0 : P t) (k : ∀ t x, P t → x ∈ xs → ∃ t', f (t, x) = .nx t' ∧ P t') (rest : ∀ t', P t' → Z (.nx t')) : Z (forO f t xs) := by
  obtain ⟨_, t', h2, h3⟩ := for_inv (g := fun _ => True) (S := S) P xs t h0 fun t x p m => ⟨trivial, k t x p m⟩
  rw [h2]
  exact rest t' h3
theorem forG_use {R T : Type} {g : T × α → Prop} {f : T × α → Out T R T} {xs : List α} {t : T} (P : T → Prop) (h0 : P t) (k : ∀ t x, P t → x ∈ xs → g (t, x) ∧ ∃ t', f (t, x) = .nx t' ∧ P t') : forG g f t xs := (for_inv (S := Unit) P xs t h0 k).1
/-- items drawn one by one -/
theorem lcS_inv {g : τ → α → Prop} {f : τ → α → β × τ} (P : τ → Prop) (Q : β → Prop) : ∀ (xs : List α) (s : τ), P s → (∀ s x, P s → x ∈ xs → g s x ∧ Q (f s x).1 ∧ P (f s x).2) → lcG g f s xs ∧ (∀ y ∈ (lcS f s xs).1, Q y) ∧ P (lcS f s xs).2 ∧ (lcS f s xs).1.length = xs.length
  | [], s, h, _ => ⟨trivial, fun _ z => (by cases z), h, rfl⟩
  | x :: xs, s, h, k => by
    obtain ⟨h1, h2, h3⟩ := k s x h List.mem_cons_self
    obtain ⟨i1, i2, i3, i4⟩ := lcS_inv P Q xs (f s x).2 h3 fun s y p m => k s y p (List.mem_cons_of_mem _ m)
    refine ⟨⟨h1, i1⟩, fun y hy => ?_, i3, by simp only [lcS, List.length_cons, i4]⟩
    rcases List.mem_cons.mp hy with rfl | hy
    · exact h2
    · exact i2 y hy
end

/-! ### what is shown -/
structure Sw (n k : Nat) (x : D) : Prop where
  s : x.showable = true
  h : x.hasDict = false
  d : x.depth ≤ k
  l : x.shown.length ≤ n
theorem Sw.shw {n k : Nat} {d : D} (x : Sw n k d) (hn : n ≤ 16777216) (hk : k ≤ 64) : Shw d := ⟨x.s, x.h, Nat.le_trans x.d hk, Nat.le_trans x.l hn⟩
theorem sw_int {i : Int} (h : i.natAbs.log2 < 200) : Sw 201 0 (.int i) :=
  ⟨by simp only [PyData.showable, decide_eq_true_eq]; omega, by simp [PyData.hasDict], by simp [PyData.depth], by
    have e := int_text_length_le (k := 200) (by decide) h
    show (Str.ofString (toString i)).length ≤ 201
    rw [PySem.ofString_length]; exact e⟩
theorem log2_lt {i : Int} {k : Nat} (h : i.natAbs < 2 ^ (k + 1)) : i.natAbs.log2 < k + 1 := by
  by_cases h0 : i.natAbs = 0
  · rw [h0, Nat.log2_zero]; omega
  · exact (Nat.log2_lt h0).mpr h
theorem sw_bool (b : Bool) : Sw 5 0 (.bool b) := ⟨by simp [PyData.showable], by simp [PyData.hasDict], by simp [PyData.depth], by cases b <;> decide⟩
theorem sw_none : Sw 4 0 .none := ⟨by simp [PyData.showable], by simp [PyData.hasDict], by simp [PyData.depth], by decide⟩
theorem Sw.mono {n k n' k' : Nat} {d : D} (x : Sw n k d) (hn : n ≤ n') (hk : k ≤ k') : Sw n' k' d := ⟨x.s, x.h, Nat.le_trans x.d hk, Nat.le_trans x.l hn⟩
theorem sw_all {n k : Nat} : ∀ (xs : List D), (∀ x ∈ xs, Sw n k x) → PyData.showableAll xs = true ∧ PyData.hasDictAll xs = false ∧ PyData.depthAll xs ≤ k ∧ ((PyData.shownAll xs).map (·.length)).sum ≤ xs.length * n ∧ (PyData.shownAll xs).length = xs.length
  | [], _ => ⟨by simp [PyData.showableAll], by simp [PyData.hasDictAll], by simp [PyData.depthAll], by simp [PyData.shownAll], by simp [PyData.shownAll]⟩
  | x :: xs, h => by
    have a := h x List.mem_cons_self
    obtain ⟨h1, h2, h3, h4, h5⟩ := sw_all xs fun y hy => h y (List.mem_cons_of_mem _ hy)
    refine ⟨by simp [PyData.showableAll, a.s, h1], by simp [PyData.hasDictAll, a.h, h2], ?_, ?_, by simp [PyData.shownAll, h5]⟩
    · have := a.d
      simp only [PyData.depthAll]; omega
    · have := a.l
      simp only [PyData.shownAll, List.map_cons, List.sum_cons, List.length_cons, Nat.add_mul]
      omega
theorem sw_tup {n k m : Nat} {xs : List D} (h : ∀ x ∈ xs, Sw n k x) (hl : xs.length ≤ m) : Sw (m * (n + 2) + 3) (k + 1) (.tuple xs) := by
  obtain ⟨h1, h2, h3, h4, h5⟩ := sw_all xs h
  refine ⟨by simp only [PyData.showable]; exact h1, by simp only [PyData.hasDict]; exact h2, by simp only [PyData.depth]; omega, ?_⟩
  have := tupleText_len_le (PyData.shownAll xs)
  rw [h5] at this
  have a1 : xs.length * (n + 2) ≤ m * (n + 2) := Nat.mul_le_mul_right _ hl
  have a2 : xs.length * (n + 2) = xs.length * n + xs.length * 2 := Nat.mul_add ..
  simp only [PyData.shown]
  omega
theorem sw_lst {n k m : Nat} {xs : List D} (h : ∀ x ∈ xs, Sw n k x) (hl : xs.length ≤ m) : Sw (m * (n + 2) + 3) (k + 1) (.list xs) := by
  obtain ⟨h1, h2, h3, h4, h5⟩ := sw_all xs h
  refine ⟨by simp only [PyData.showable]; exact h1, by simp only [PyData.hasDict]; exact h2, by simp only [PyData.depth]; omega, ?_⟩
  have := listText_len_le (PyData.shownAll xs)
  rw [h5] at this
  have a1 : xs.length * (n + 2) ≤ m * (n + 2) := Nat.mul_le_mul_right _ hl
  have a2 : xs.length * (n + 2) = xs.length * n + xs.length * 2 := Nat.mul_add ..
  simp only [PyData.shown]
  omega
theorem shw_TI {xs : List Int} (hl : xs.length ≤ 1000) (h : ∀ x ∈ xs, x.natAbs < 2 ^ 200) : Shw (cT cI xs) :=
  (sw_tup (n := 201) (k := 0) (m := 1000) (fun d hd => by
    obtain ⟨x, hx, rfl⟩ := List.mem_map.mp hd
    exact sw_int (log2_lt (k := 199) (h x hx))) (by rw [List.length_map]; exact hl)).shw (by decide) (by decide)
theorem eqv_T {α : Type} {c : α → D} {n : Nat} (h : Cq n c) (x : α) : PyData.eqv (c x) (c x) = true := PySem.SeqAt.eqv_refl _ (h.lay x)
end Y
namespace Y
open PySem PySem.Spec PyProof.Rows L2

/-! ### data of more than one form -/
section
variable {X : Cx} {B : Bd} {ow : List Nat} {E α β : Type} {Γ : E → List (Option D)} {p s : Bool} {e : Expr} {pos : Pos} {c : α → D} {c' : β → D} {G : E → Prop} {d : E → α} {u : E → E}
/-- told by another codec where it is of that form -/
theorem De.cast (g : α → β) (h : De X B ow Γ p s e c G d u) : De X B ow Γ p s e c' (fun ε => G ε ∧ c (d ε) = c' (g (d ε))) (fun ε => g (d ε)) u :=
  ⟨h.pe.weaken fun σ H Q ⟨H0, ε, r, ⟨gg, ge⟩, k⟩ => ⟨H0, ε, r, gg, fun v H' f r' z => k v H' f r' (by
    show Fz _ _ _ _ (c' (g (d ε)))
    rw [← ge]; exact z)⟩⟩
def asI : D → Int
  | .int i => i
  | _ => 0
def asB : D → Bool
  | .bool i => i
  | _ => false
def asS : D → Str
  | .str i => i
  | _ => default
def asT {α : Type} (f : D → α) : D → List α
  | .tuple ds => ds.map f
  | _ => []
def asL {α : Type} (f : D → α) : D → List α
  | .list ds => ds.map f
  | _ => []
def asO {α : Type} (f : D → α) : D → Option α
  | .none => none
  | d => some (f d)
def dnth (d : D) (n : Int) : D := match d with
  | .tuple ds => (atI ds n).getD .none
  | .list ds => (atI ds n).getD .none
  | _ => .none
def as2 {α β : Type} (f : D → α) (g : D → β) : D → α × β := fun d => (f (dnth d 0), g (dnth d 1))
def as3 {α β γ : Type} (f : D → α) (g : D → β) (h : D → γ) : D → α × β × γ := fun d => (f (dnth d 0), g (dnth d 1), h (dnth d 2))
/-- a part of a tuple of any form -/
def NthT (d : D) (n : Int) : Prop := ∃ ds x, d = .tuple ds ∧ atI ds n = some x
theorem d_nth {b : Expr} (n : Int) {dd : E → D} (h : De X B ow Γ p s e cD G dd u) (hb : De X B ow Γ true true b cI (fun _ => True) (fun _ => n) (fun ε => ε)) (hx : PlainIx b := by exact fun _ _ => rfl) :
    De X B ow Γ p s (.Subscript e b pos) cD (fun ε => G ε ∧ NthT (dd ε) n) (fun ε => dnth (dd ε) n) u :=
  ⟨(pe_ix (pos := pos) ix_tup h.pe hb.pe hx).weaken fun σ H Q ⟨H0, ε, rl, ⟨g1, g2⟩, k⟩ => ⟨H0, ε, rl, g1, fun v H1 f1 r1 z1 => ⟨H0, u ε, r1, trivial, fun w H2 f2 r2 z2 => by
    obtain ⟨ds, x, e1, e2⟩ := g2
    have z1' : Fz X.K (cond s (B.full σ ow) B.base) H1 v (.tuple ds) := by rw [← e1]; exact z1
    obtain ⟨a, vs, rfl, nd, l⟩ := z1'.tup_inv
    cases z2.int_inv
    obtain ⟨v', e3, z⟩ := l.atI e2
    have f2' : Fr [] H1 H2 := f2
    refine ⟨a, vs, n, v', rfl, rfl, (nd.fr f2'.nil).sq, e3, k _ H2 (f1.trans f2'.nil) r2 ?_⟩
    show Fz _ _ _ _ (dnth (dd ε) n)
    rw [e1]
    show Fz _ _ _ _ ((atI ds n).getD .none)
    rw [e2]
    exact z.fr f2'.nil⟩⟩⟩
/-- not, by truth -/
theorem d_notT {b : α → Bool} (h : De X B ow Γ p s e c G d u) (hb : ∀ (A : List Addr) (H : Hp) (v : V) (x : α), Fz X.K A H v (c x) → TruV X.K v H (b x)) : De X B ow Γ p s (.UnaryOp .Not e pos) cB G (fun ε => !b (d ε)) u :=
  ⟨(pe_notT h.pe).weaken fun σ H Q ⟨H0, ε, rl, g, k⟩ => ⟨H0, ε, rl, g, fun v H1 f1 r1 z1 => ⟨_, hb _ _ _ _ z1, k _ H1 f1 r1 (.bl _)⟩⟩⟩
end
/-- name, name = [] , e -/
theorem s_parN {X : Cx} {B : Bd} {ow ow' owS : List Nat} {E R S α β : Type} {Γ : E → List (Option D)} {ΓS : S → List (Option D)} {cr : R → D} {ci : R → List D} {pos px py pt pl : Pos} {x y : Str} {b : Expr} {ca : α → D} {cb : β → D} {G : E → Prop} {db : E → β} {kt k2 pt2} (i j : Nat)
    (h : ∀ B', De X B' ow Γ true true b cb G db (fun ε => ε)) (hl : ∀ ε, i < (Γ ε).length) (h' : ∀ m, m ∈ ow' ↔ m ∈ ow ∨ m = i) (h0 : B.io ≠ none → i ≠ 0)
    (hw : swappedStores [.Tuple [.Name x px, .Name y py] kt pt] (.Tuple [.List [] pl, b] k2 pt2) X.env = pure (some [x, y])) (hij : i ≠ j := by decide) (hjo : j ∉ ow := by decide) (hi : X.N[i]? = some x := by rfl) (hj : X.N[j]? = some y := by rfl)
    (hx : X.env.scope.names.lookup x = some .local := by rfl) (hy : X.env.scope.names.lookup y = some .local := by rfl) (hN : X.N.Nodup := by assumption) (hc : X.calm = true := by rfl)
    (hst1 : starEach [.List [] pl, b] X.env = (false, eval (.List [] pl) X.env) :: starEach [b] X.env := by rfl) (hst2 : starEach [b] X.env = (false, eval b X.env) :: starEach [] X.env := by rfl)
    (hs : swapsWithSole [.Tuple [.Name x px, .Name y py] kt pt] (.Tuple [.List [] pl, b] k2 pt2) pos.line X.env = pure false := by rfl) :
    Ds X B ow Γ cr ci owS ΓS (.Assign [.Tuple [.Name x px, .Name y py] kt pt] (.Tuple [.List [] pl, b] k2 pt2) pos) G (fun ε => .nx ((ε, ([] : List α)), db ε)) ow' (fun q : (E × List α) × β => ((Γ q.1.1).set i (some (.list (q.1.2.map ca)))).set j (some (cb q.2))) :=
  ⟨(ps_par hc hN hi hj hij hx hy (pa_cons (pe_lst pa_nil) (pa_cons (te := fun σ H Q => ∃ B', tS X.K B' ow Γ true true cb G db (fun ε => ε) σ H Q) ⟨fun pins s σ H Q I ⟨B', q⟩ => (h B').pe.run pins s σ H Q I q⟩ pa_nil hst2) hst1) hw hs).weaken fun Dn σ H ⟨H0, ε, rl, g, k⟩ => by
    refine ⟨Nat.zero_le _, fun q hq => ⟨B.plus q, H0, ε, rl.plus hq, g, fun w H' f r z => ⟨.ref q, w, rfl, ?_⟩⟩⟩
    have f' : Fr [] (upd H q (.lst [])) H' := f
    have r1 := (r.set hjo z)
    have z1 : FzL X.K ((B.plus q).full (σ.set j (some w)) ow) H' [] [] := .nil
    have hbq : q ∉ B.base := fun z => rl.base_trk q z hq
    have r2 := r1.setOwn (i := i) (ow' := ow') (f' _ _ upd_same (by simp)) (Nat.zero_le _) ((rl.h0 hq).resolve_right (rl.notio hq)) hbq z1 (by rw [List.length_set]; exact hl ε) h' h0
    have e1 : (σ.set j (some w)).set i (some (.ref q)) = (σ.set i (some (.ref q))).set j (some w) := (List.set_comm _ _ hij.symm)
    have e2 : ((Γ ε).set j (some (cb (db ε)))).set i (some (.list [])) = ((Γ ε).set i (some (.list []))).set j (some (cb (db ε))) := (List.set_comm _ _ hij.symm)
    rw [e1, e2] at r2
    exact k _ H' r2⟩
/-- name, name, name = e, e, e -/
theorem s_par3 {X : Cx} {B : Bd} {ow owS : List Nat} {E R S α β γ τ : Type} {Γ : E → List (Option D)} {ΓS : S → List (Option D)} {cr : R → D} {ci : R → List D} {pos px py pz pt : Pos} {x y z : Str} {a b c : Expr} {p : Bool} {u : E → E} {cs : τ → List D} {ca : α → D} {cb : β → D} {cc : γ → D} {dv : E → τ} {ga : τ → α} {gb : τ → β} {gc : τ → γ} {G : E → Prop} {kt k2 pt2} (i j l : Nat)
    (h : DA X B ow Γ p true [a, b, c] cs G dv u) (hcs : ∀ t, cs t = [ca (ga t), cb (gb t), cc (gc t)]) (hw : swappedStores [.Tuple [.Name x px, .Name y py, .Name z pz] kt pt] (.Tuple [a, b, c] k2 pt2) X.env = pure (some [x, y, z]))
    (hij : i ≠ j := by decide) (hil : i ≠ l := by decide) (hjl : j ≠ l := by decide) (hio : i ∉ ow := by decide) (hjo : j ∉ ow := by decide) (hlo : l ∉ ow := by decide) (hi : X.N[i]? = some x := by rfl) (hj : X.N[j]? = some y := by rfl) (hl : X.N[l]? = some z := by rfl)
    (hx : X.env.scope.names.lookup x = some .local := by rfl) (hy : X.env.scope.names.lookup y = some .local := by rfl) (hz : X.env.scope.names.lookup z = some .local := by rfl) (hN : X.N.Nodup := by assumption) (hc : X.calm = true := by rfl)
    (hs : swapsWithSole [.Tuple [.Name x px, .Name y py, .Name z pz] kt pt] (.Tuple [a, b, c] k2 pt2) pos.line X.env = pure false := by rfl) :
    Ds X B ow Γ cr ci owS ΓS (.Assign [.Tuple [.Name x px, .Name y py, .Name z pz] kt pt] (.Tuple [a, b, c] k2 pt2) pos) G (fun ε => .nx (((u ε, ga (dv ε)), gb (dv ε)), gc (dv ε))) ow
      (fun q : ((E × α) × β) × γ => (((Γ q.1.1.1).set i (some (ca q.1.1.2))).set j (some (cb q.1.2))).set l (some (cc q.2))) :=
  ⟨(ps_par3 hc hN hi hj hl hij hil hjl hx hy hz h.pa hw hs).weaken fun Dn σ H ⟨H0, ε, rl, g, k⟩ => ⟨H0, ε, rl, g, fun vs H' f r q => by
    have q' : FzL X.K (B.full σ ow) H' vs [ca (ga (dv ε)), cb (gb (dv ε)), cc (gc (dv ε))] := by rw [← hcs]; exact q
    obtain ⟨v, w, m, rfl, z1, z2, z3⟩ := fzl3 q'
    have r1 := r.set hio z1
    have e1 : oa (σ.set i (some v)) ow = oa σ ow := oa_set hio
    have r2 := r1.set (i := j) (v := w) (d := cb (gb (dv ε))) hjo (by unfold Bd.full; rw [e1]; exact z2)
    have e2 : oa ((σ.set i (some v)).set j (some w)) ow = oa σ ow := by rw [oa_set hjo, e1]
    exact ⟨v, w, m, rfl, k _ H' (r2.set hlo (by unfold Bd.full; rw [e2]; exact z3))⟩⟩⟩
end Y
namespace Y
open PySem PySem.Spec PyProof.Rows L2

/-! ### lists of one's own, read as if frozen -/
theorem Rel.plusTo {K : Frag} {B : Bd} {H0 H H' : Hp} {ow : List Nat} {σ : L2.St} {γ : List (Option D)} {q : Addr} {o : HO} (r : Rel K B H0 ow σ H γ) (hq : H q = none) (f : Fr [] H H') (h : H' q = some o) : Rel K (B.plus q) H0 ow σ H' γ :=
  (r.plus hq (o := o)).grow fun b u e _ => by
    by_cases hb : b = q
    · rw [hb, upd_same] at e
      rw [hb, h, e]
    · rw [upd_ne hb] at e
      exact f b u e (by simp)
theorem lfs_map {α : Type} {c : α → D} (h : ∀ x, lf (c x) = true) : ∀ xs : List α, lf.lfs (xs.map c) = true
  | [] => by simp [lf.lfs]
  | x :: xs => by simp [lf.lfs, h x, lfs_map h xs]
section
variable {X : Cx} {B : Bd} {ow ow2 owS : List Nat} {E R S α β : Type} {Γ : E → List (Option D)} {ΓS : S → List (Option D)} {cr : R → D} {ci : R → List D} {pos spos py : Pos} {tg e elt : Expr} {ifs : List Expr} {c : α → D} {ce : β → D} {s : Bool} {G : E → Prop} {dl : E → List β} {dv : E → β}
theorem tFs_thaw {K : Frag} {σ : L2.St} {H : Hp} {Q : VK} (hs : ∀ i ∈ ow2, i ∈ ow) (hio : B.io ≠ none → 0 ∈ ow2) (hl : ∀ x, lf (ce x) = true) (h : tFs K B ow Γ true ce G dl (fun ε => ε) σ H Q) : tFs K B ow2 Γ true ce G dl (fun ε => ε) σ H Q := by
  obtain ⟨H0, ε, rl, g, k⟩ := h
  refine ⟨H0, ε, rl.freeze hs hio, g, fun q H' vs hq f r hv hz z => ?_⟩
  have f' : Fr [] H H' := f
  have r1 := rl.plusTo hq f' hv
  refine k q H' vs hq f r1 hv hz ((z.up (A' := oa σ ow) r1.trk (lfs_map hl _)).sub fun a ha => ?_)
  rcases mem_full.mp ha with h | h
  · exact List.mem_append_left _ (mem_full.mpr (.inl h))
  · exact List.mem_append_right _ h
theorem DL.thaw (hs : ∀ i ∈ ow2, i ∈ ow) (hio : B.io ≠ none → 0 ∈ ow2) (hl : ∀ x, lf (ce x) = true) (h : DL X B ow2 Γ true e ce G dl (fun ε => ε)) : DL X B ow Γ true e ce G dl (fun ε => ε) :=
  ⟨h.pe.weaken fun σ H Q q => tFs_thaw hs hio hl q⟩
theorem De.thaw (hs : ∀ i ∈ ow2, i ∈ ow) (hio : B.io ≠ none → 0 ∈ ow2) (hl : ∀ x, lf (ce x) = true) (h : De X B ow2 Γ true true e ce G dv (fun ε => ε)) : De X B ow Γ true true e ce G dv (fun ε => ε) :=
  ⟨h.pe.weaken fun σ H Q ⟨H0, ε, rl, g, k⟩ => ⟨H0, ε, rl.freeze hs hio, g, fun v H' f r z => by
    have f' : Fr [] H H' := f
    have r1 := rl.grow f'
    refine k v H' f r1 ?_
    have z1 : Fz X.K (B.full σ ow2) H' v (ce (dv ε)) := z
    refine (z1.up (A' := oa σ ow) r1.trk (hl _)).sub fun a ha => ?_
    rcases mem_full.mp ha with h | h
    · exact List.mem_append_left _ (mem_full.mpr (.inl h))
    · exact List.mem_append_right _ h⟩⟩
variable {xs : E → List α} {js : List Nat} {g : TG} {ft : α → List (Option D) → List (Option D)} {tt : E × α → Bool} {Gt Ge : E × α → Prop} {de : E × α → β} {own : List (Str × Nat)} {scope : Scope} {y : Str}
theorem s_asgLcT (i : Nat) (hsw : swapsWith (.ListComp elt [⟨tg, e, ifs, 0⟩] scope pos) (some (.Name y py)) spos.line X.env = pure true) (hs2 : ∀ i ∈ ow2, i ∈ ow) (hio2 : B.io ≠ none → 0 ∈ ow2) (hl : ∀ x, lf (ce x) = true) (hi : DI X B ow2 Γ true tg e c G xs (fun ε => ε)) (ok : BlkOk X.N X.env.scope scope own) (ht : TgR X.K c js g ft)
    (hg : ∀ (s : Shared) (H : Hp) (C : Addr) (cl : List (Str × Addr)) (fp : List Addr), PG (X.blk s H scope (compEnvC scope cl C X.env) fp) tg g)
    (hT : ∀ (s : Shared) (H : Hp) (C : Addr) (cl : List (Str × Addr)) (fp : List Addr), DT (X.blk s H scope (compEnvC scope cl C X.env) fp) ow2 (fun q : E × α => ft q.2 (wipeG (Γ q.1) (own.map (·.2)))) ifs Gt tt)
    (hE : ∀ (s : Shared) (H : Hp) (C : Addr) (cl : List (Str × Addr)) (fp : List Addr) (B' : Bd), De (X.blk s H scope (compEnvC scope cl C X.env) fp) B' ow2 (fun q : E × α => ft q.2 (wipeG (Γ q.1) (own.map (·.2)))) true true elt ce Ge de (fun q => q))
    (hio : i ∉ ow := by decide) (hjv : ∀ j ∈ js, j ∈ own.map (·.2) := by decide) (hvo : ∀ j ∈ own.map (·.2), j ∉ ow2 := by decide) (hy : X.N[i]? = some y := by rfl) (hyl : X.env.scope.names.lookup y = some .local := by rfl)
    (hN : X.N.Nodup := by assumption) (hc : X.calm = true := by rfl) (hs : ∀ x, foldedSetIterable e X.env x = pure x := by intro _; rfl) :
    Ds X B ow Γ cr ci owS ΓS (.Assign [.Name y py] (.ListComp elt [⟨tg, e, ifs, 0⟩] scope pos) spos) (fun ε => G ε ∧ ∀ x ∈ xs ε, Gt (ε, x) ∧ (tt (ε, x) = true → Ge (ε, x))) (fun ε => .nx (ε, ((xs ε).filter fun x => tt (ε, x)).map fun x => de (ε, x))) ow
      (fun q : E × List β => (Γ q.1).set i (some (cL ce q.2))) :=
  ⟨(ps_setLc (te := tSB X.K ow2 (fun q : E × α => ft q.2 (wipeG (Γ q.1) (own.map (·.2)))) ce Ge de) hc hN hy hyl hsw hi.pi ok hg (fun s H C cl fp => (hT s H C cl fp).pts) (fun s H C cl fp => ⟨fun pins s' σ H' Q I ⟨B', q⟩ => (hE s H C cl fp B').pe.run pins s' σ H' Q I q⟩) hs).weaken fun Dn σ H ⟨H0, ε, rl, g, k⟩ => by
    refine lc_pure (Q := fun x H1 => Dn.nx (σ.set i (some x)) H1) ht hjv hvo (tFs_thaw (ow := ow) hs2 hio2 hl ⟨H0, ε, rl, g, fun q H' vs hq f r hv hz z => ?_⟩)
    have z2 : Fz X.K (B.full σ ow) H' (.ref q) (cL ce (((xs ε).filter fun x => tt (ε, x)).map fun x => de (ε, x))) := by
      refine .lst ⟨⟨fun h => ?_, hv⟩, hz⟩ (z.sub full_plus)
      rcases mem_full.mp h with h | h
      · exact rl.base_trk q h hq
      · exact (r.xt q (by simp [Bd.plus])).2 h
    exact k _ H' (r.unplus.set hio z2)⟩
theorem s_asgLcT0 (i : Nat) (hsw : swapsWith (.ListComp elt [⟨tg, e, [], 0⟩] scope pos) (some (.Name y py)) spos.line X.env = pure true) (hs2 : ∀ i ∈ ow2, i ∈ ow) (hio2 : B.io ≠ none → 0 ∈ ow2) (hl : ∀ x, lf (ce x) = true) (hi : DI X B ow2 Γ true tg e c G xs (fun ε => ε)) (ok : BlkOk X.N X.env.scope scope own) (ht : TgR X.K c js g ft)
    (hg : ∀ (s : Shared) (H : Hp) (C : Addr) (cl : List (Str × Addr)) (fp : List Addr), PG (X.blk s H scope (compEnvC scope cl C X.env) fp) tg g)
    (hE : ∀ (s : Shared) (H : Hp) (C : Addr) (cl : List (Str × Addr)) (fp : List Addr) (B' : Bd), De (X.blk s H scope (compEnvC scope cl C X.env) fp) B' ow2 (fun q : E × α => ft q.2 (wipeG (Γ q.1) (own.map (·.2)))) true true elt ce Ge de (fun q => q))
    (hio : i ∉ ow := by decide) (hjv : ∀ j ∈ js, j ∈ own.map (·.2) := by decide) (hvo : ∀ j ∈ own.map (·.2), j ∉ ow2 := by decide) (hy : X.N[i]? = some y := by rfl) (hyl : X.env.scope.names.lookup y = some .local := by rfl)
    (hN : X.N.Nodup := by assumption) (hc : X.calm = true := by rfl) (hs : ∀ x, foldedSetIterable e X.env x = pure x := by intro _; rfl) :
    Ds X B ow Γ cr ci owS ΓS (.Assign [.Name y py] (.ListComp elt [⟨tg, e, [], 0⟩] scope pos) spos) (fun ε => G ε ∧ ∀ x ∈ xs ε, Ge (ε, x)) (fun ε => .nx (ε, (xs ε).map fun x => de (ε, x))) ow
      (fun q : E × List β => (Γ q.1).set i (some (cL ce q.2))) :=
  (s_asgLcT i hsw hs2 hio2 hl hi ok ht hg (fun _ _ _ _ _ => dt_nil) hE hio hjv hvo hy hyl hN hc hs).is (fun _ h => ⟨h.1, fun x hx => ⟨trivial, fun _ => h.2 x hx⟩⟩) fun _ _ => by rw [filt_true]
end
theorem lf_T {α : Type} {c : α → D} (h : ∀ x, lf (c x) = true) (xs : List α) : lf (cT c xs) = true := by
  simp only [lf]
  exact lfs_map h xs
theorem lf_O {α : Type} {c : α → D} (h : ∀ x, lf (c x) = true) (o : Option α) : lf (cO c o) = true := by
  cases o with
  | none => rfl
  | some x => exact h x
theorem lf_1 {α : Type} {a : α → D} (h : ∀ x, lf (a x) = true) (x : α) : lf (c1 a x) = true := by simp [lf, lf.lfs, h]
theorem lf_2 {α β : Type} {a : α → D} {b : β → D} (h : ∀ x, lf (a x) = true) (h2 : ∀ x, lf (b x) = true) (x : α × β) : lf (c2 a b x) = true := by simp [lf, lf.lfs, h, h2]
theorem lf_3 {α β γ : Type} {a : α → D} {b : β → D} {c : γ → D} (h : ∀ x, lf (a x) = true) (h2 : ∀ x, lf (b x) = true) (h3 : ∀ x, lf (c x) = true) (x : α × β × γ) : lf (c3 a b c x) = true := by simp [lf, lf.lfs, h, h2, h3]
theorem lf_4 {α β γ δ : Type} {a : α → D} {b : β → D} {c : γ → D} {d : δ → D} (h : ∀ x, lf (a x) = true) (h2 : ∀ x, lf (b x) = true) (h3 : ∀ x, lf (c x) = true) (h4 : ∀ x, lf (d x) = true) (x : α × β × γ × δ) : lf (c4 a b c d x) = true := by simp [lf, lf.lfs, h, h2, h3, h4]
theorem dss_eq {X : Cx} {B : Bd} {ow ow' owS : List Nat} {E N R S : Type} {Γ : E → List (Option D)} {Γ' : N → List (Option D)} {ΓS : S → List (Option D)} {cr : R → D} {ci : R → List D} {sts : List Stmt} {G G' : E → Prop} {d d' : E → Out N R S} (h : Dss X B ow Γ cr ci owS ΓS sts G d ow' Γ') (hg : G' = G) (hd : d' = d) : Dss X B ow Γ cr ci owS ΓS sts G' d' ow' Γ' := by
  subst hg hd; exact h
end Y
namespace Y
open PySem PySem.Spec PyProof.Rows PySem.W L2

/-! ### plain facts of loops that seek -/
section
variable {α β R S T : Type}
theorem forO_find {f : Unit × α → Out Unit R Unit} (p : α → Bool) (v : α → R) : ∀ (xs : List α), (∀ x ∈ xs, f ((), x) = if p x = true then .rt (v x) else .nx ()) → forO (S := S) f () xs = match xs.find? p with
    | some x => .rt (v x)
    | none => .nx ()
  | [], _ => rfl
  | x :: xs, h => by
    have h1 := h x List.mem_cons_self
    have ih := forO_find p v xs fun y hy => h y (List.mem_cons_of_mem _ hy)
    rw [forO, h1, List.find?_cons]
    cases p x
    · exact ih
    · rfl
theorem forG_all {g : Unit × α → Prop} {f : Unit × α → Out Unit R Unit} : ∀ (xs : List α), (∀ x ∈ xs, g ((), x)) → forG g f () xs
  | [], _ => trivial
  | x :: xs, h => by
    refine ⟨h x List.mem_cons_self, ?_⟩
    have ih := forG_all (g := g) (f := f) xs fun y hy => h y (List.mem_cons_of_mem _ hy)
    cases f ((), x) <;> first | exact ih | trivial
/-- a loop that no turn leaves, by its states -/
theorem forG_inv {g : T × α → Prop} {f : T × α → Out T R T} (P : T → Prop) : ∀ (xs : List α) (t : T), P t → (∀ t x, P t → x ∈ xs → g (t, x) ∧ ∀ t', f (t, x) = .nx t' ∨ f (t, x) = .ct t' → P t') → forG g f t xs
  | [], t, h, _ => trivial
  | x :: xs, t, h, k => by
    obtain ⟨h1, h2⟩ := k t x h List.mem_cons_self
    refine ⟨h1, ?_⟩
    have ih := fun t' (q : P t') => forG_inv (g := g) (f := f) P xs t' q fun t y p m => k t y p (List.mem_cons_of_mem _ m)
    cases e : f (t, x) with
    | nx t' => exact ih t' (h2 t' (.inl e))
    | ct t' => exact ih t' (h2 t' (.inr e))
    | bk t' => trivial
    | rt r => trivial
theorem forN_inv {g : T × α → Prop} {f : T × α → T} (P : T → Prop) : ∀ (xs : List α) (t : T), P t → (∀ t x, P t → x ∈ xs → g (t, x) ∧ P (f (t, x))) → forN g f t xs ∧ P (xs.foldl (fun m x => f (m, x)) t)
  | [], t, h, _ => ⟨trivial, h⟩
  | x :: xs, t, h, k => by
    obtain ⟨h1, h2⟩ := k t x h List.mem_cons_self
    obtain ⟨i1, i2⟩ := forN_inv P xs _ h2 fun t y p m => k t y p (List.mem_cons_of_mem _ m)
    exact ⟨⟨h1, i1⟩, i2⟩
theorem forN_rest {g : T × α → Prop} {f : T × α → T} (P : T → List α → Prop) (k : ∀ t x xs, P t (x :: xs) → g (t, x) ∧ P (f (t, x)) xs) : ∀ (xs : List α) (t : T), P t xs → forN g f t xs ∧ P (xs.foldl (fun m x => f (m, x)) t) []
  | [], t, h => ⟨trivial, h⟩
  | x :: xs, t, h => by
    obtain ⟨h1, h2⟩ := k t x xs h
    obtain ⟨i1, i2⟩ := forN_rest P k xs _ h2
    exact ⟨⟨h1, i1⟩, i2⟩
theorem forN_all {g : T × α → Prop} {f : T × α → T} (xs : List α) (t : T) (h : ∀ t, ∀ x ∈ xs, g (t, x)) : forN g f t xs := (forN_inv (fun _ => True) xs t trivial fun t x _ m => ⟨h t x m, trivial⟩).1
theorem srt_map {c : α → D} {c' : β → D} {f : α → β} {xs : List α} (h : ∀ a ∈ xs, ∀ b ∈ xs, dataLe false c a b = dataLe false c' (f a) (f b)) : srt c' (xs.map f) = (srt c xs).map f := (List.map_mergeSort h).symm
theorem srt_mem {c : α → D} {xs : List α} {x : α} : x ∈ srt c xs ↔ x ∈ xs := List.mem_mergeSort
theorem srt_length {c : α → D} {xs : List α} : (srt c xs).length = xs.length := List.length_mergeSort _
theorem le_I : dataLe false cI = fun a b : Int => decide (a ≤ b) := dataLe_int (β := Int) id
end
theorem rng_nil {a b : Int} (h : b ≤ a) : rng a b = [] := by
  unfold rng
  have : (b - a).toNat = 0 := by omega
  rw [this]; rfl
theorem rng_cons {a b : Int} (h : a < b) : rng a b = a :: rng (a + 1) b := by
  unfold rng
  obtain ⟨n, hn⟩ : ∃ n, (b - a).toNat = n + 1 := ⟨(b - a).toNat - 1, by omega⟩
  have h2 : (b - (a + 1)).toNat = n := by omega
  rw [hn, h2, List.range_succ_eq_map, List.map_cons, List.map_map]
  congr 1
  · omega
  · exact List.map_congr_left fun i _ => by simp only [Function.comp]; omega
theorem rng_snoc {a b : Int} (h : a ≤ b) : rng a (b + 1) = rng a b ++ [b] := by
  unfold rng
  have h2 : (b + 1 - a).toNat = (b - a).toNat + 1 := by omega
  rw [h2, List.range_succ, List.map_append, List.map_singleton]
  congr 2
  omega
end Y
namespace HT
open PySem PySem.Spec PyProof.Rows
section
variable {prog : Program} {w : World} {A : Around} {E : Value → Shared → Prop} {s : Shared}
theorem sliceApplied_rev {sl : Addr} {vl vu vs : Value} {n : Nat} {Q : Int × Int × Nat → Shared → Prop} (hs : s.heap.IsSliceOf sl vl vu vs) (pl : IsPart vl none) (pu : IsPart vu none) (ps : IsPart vs (some (-1)))
    (h : Q ((n : Int) - 1, -1, n) s) : wpAny (model prog w) A (Builtin.Slice.sliceApplied (.ref sl) (pure (n : Int))) Q E s := by
  obtain ⟨os, hos, hcs, hds⟩ := id hs
  unfold Builtin.Slice.sliceApplied Builtin.Slice.sliceFields
  refine wpAny_bind (wpAny_bind (wpAny_field hos hds (x := vl) rfl (wpAny_bind (wpAny_field hos hds (x := vu) rfl (wpAny_bind (wpAny_field hos hds (x := vs) rfl (wpAny_pure ?_)))))))
  refine wpAny_bind (slicePart_ ps ?_)
  show wpAny _ _ (if ((-1 : Int) == 0) = true then _ else _) _ _ s
  rw [if_neg (by decide)]
  refine wpAny_bind (slicePart_ pl (wpAny_bind (slicePart_ pu (wpAny_bind (wpAny_pure ?_)))))
  show wpAny _ _ (match Builtin.Slice.sliceAdjust none none (-1) (n : Int) with | (lo, hi) => pure (lo, (-1 : Int), Builtin.Slice.slicePlaces lo hi (-1))) _ _ s
  show wpAny _ _ (pure ((n : Int) - 1, (-1 : Int), Builtin.Slice.slicePlaces ((n : Int) - 1) (-1) (-1))) _ _ s
  have e : Builtin.Slice.slicePlaces ((n : Int) - 1) (-1) (-1) = n := by
    unfold Builtin.Slice.slicePlaces
    have h1 : ¬ ((-1 : Int) > 0) := by omega
    simp only [h1, if_false, Int.neg_neg, Int.ediv_one]
    split <;> omega
  rw [e]
  exact wpAny_pure h
theorem filterMap_same {α β : Type} {f g : α → Option β} : ∀ (xs : List α), (∀ x ∈ xs, f x = g x) → xs.filterMap f = xs.filterMap g
  | [], _ => rfl
  | x :: xs, h => by
    rw [List.filterMap_cons, List.filterMap_cons, h x List.mem_cons_self, filterMap_same xs fun y hy => h y (List.mem_cons_of_mem _ hy)]
theorem pick_rev (xs : Array Value) : ((List.range xs.size).filterMap fun (m : Nat) => xs[((xs.size : Int) - 1 + (m : Int) * (-1)).toNat]?).toArray = xs.toList.reverse.toArray := by
  have e : ∀ m ∈ List.range xs.size, (fun (m : Nat) => xs[((xs.size : Int) - 1 + (m : Int) * (-1)).toNat]?) m = (fun m => xs.toList.reverse[m]?) m := fun m hm => by
    rw [List.mem_range] at hm
    show xs[((xs.size : Int) - 1 + (m : Int) * (-1)).toNat]? = xs.toList.reverse[m]?
    have : ((xs.size : Int) - 1 + (m : Int) * (-1)).toNat = xs.size - 1 - m := by omega
    rw [this, List.getElem?_reverse (by simpa using hm), Array.getElem?_toList, Array.length_toList]
  rw [filterMap_same _ e]
  congr 1
  have : ∀ ys : List Value, (List.range ys.length).filterMap (fun m => ys[m]?) = ys := fun ys => by
    induction ys with
    | nil => rfl
    | cons y ys ih =>
      rw [List.length_cons, List.range_succ_eq_map, List.filterMap_cons]
      simp only [List.getElem?_cons_zero, List.filterMap_map]
      congr 1
  have := this xs.toList.reverse
  rw [List.length_reverse, Array.length_toList] at this
  exact this
theorem getItem_tuple_rev {t sl : Addr} {items : Array Value} {vl vu vs : Value} {Q : Value → Shared → Prop} (ht : IsTup s.heap t items) (hs : s.heap.IsSliceOf sl vl vu vs) (pl : IsPart vl none) (pu : IsPart vu none) (ps : IsPart vs (some (-1)))
    (h : Q (.ref s.heap.objs.size) { s with heap := s.heap.push { cls := .type "tuple", data := .seq items.toList.reverse.toArray } })
    (hsz : items.size ≤ sizeLine) : wpAny (model prog w) A (getItem (.ref t) (.ref sl)) Q E s := by
  have htake : sizeOk (.seq items.toList.reverse.toArray) := by
    show items.toList.reverse.toArray.size ≤ sizeLine
    rw [List.size_toArray, List.length_reverse, Array.length_toList]
    omega
  obtain ⟨os, hos, hcs, hds⟩ := id hs
  have hTs : s.TypeIs (.ref sl) "slice" := ⟨os, hos, hcs⟩
  unfold getItem
  try with_reducible refine wpAny_holding ?_
  first | refine wpAny_bind (wpAny_pure ?_) | skip
  refine wpAny_bind (wpAny_sequenceKey ht.typeIs (by decide) ?_)
  refine wpAny_bind (wpAny_callSpecial?_slot (name := Str.ofString "__getitem__") ht.typeIs PyProof.Rows.slot_tuple_getitem
    (wpAny_call_entry PyProof.Rows.slot_tuple_getitem ht.typeIs entry_tuple_getitem ?_ (args_tuple_getitem _ _)))
  show wpAny _ _ (Builtin.Tuple.tupleItemsOf (.ref t) >>= _) _ _ s
  refine wpAny_bind (tupleItemsOf_ ht ?_)
  refine wpAny_bind (wpAny_typeOf hTs ?_)
  rw [if_pos (by decide)]
  refine wpAny_bind (sliceApplied_rev hs pl pu ps ?_)
  have hno : ¬ (((items.size : Int) - 1 == 0 && (-1 : Int) == 1 && items.size == items.size) = true) := by
    intro q
    rw [Bool.and_eq_true, Bool.and_eq_true] at q
    exact absurd q.1.2 (by decide)
  show wpAny _ _ (if ((items.size : Int) - 1 == 0 && (-1 : Int) == 1 && items.size == items.size) = true then _ else _) _ _ s
  rw [if_neg hno, pick_rev]
  first
    | exact wpAny_bind (m := Builtin.Tuple.tupleExact _) (wpAny_newObj_type (wpAny_pure ⟨_, rfl, wpAny_pure h⟩) htake)
    | exact wpAny_bind (m := Builtin.Tuple.tupleExact _) (wpAny_newObj_type (wpAny_bind (wpAny_pure (wpAny_pure ⟨_, rfl, wpAny_pure h⟩))) htake)
    | exact wpAny_bind (wpAny_bind (m := Builtin.Tuple.tupleExact _) (wpAny_newObj_type (wpAny_pure (wpAny_pure ⟨_, rfl, wpAny_pure h⟩)) htake))
    | exact wpAny_bind (wpAny_bind (m := Builtin.Tuple.tupleExact _) (wpAny_newObj_type (wpAny_pure ⟨_, rfl, wpAny_pure h⟩) htake))
end
end HT
namespace Y
open PySem PySem.Spec PyProof.Rows L2
/-! ### xs[::-1] -/
section
variable {X : Cx}
def tRevT (K : PySem.W.Frag) (te : TE) : TE := fun σ H Q => te σ H fun x H1 => ∃ a xs, x = .ref a ∧ SqT K H1 a xs ∧ ∀ p, H1 p = none → Q (.ref p) (upd H1 p (.tup xs.reverse))
theorem pe_revT {e : Expr} {te : TE} {k : Nat} {p1 p2 p3 pos : Pos} (he : PE X e te) : PE X (.Subscript e (.Slice none none (some (.UnaryOp .USub (.Constant (.int 1) k p1) p2)) p3) pos) (tRevT X.K te) := by
  refine ⟨fun pins s σ H Q I h => ?_⟩
  refine Subscript_ (thn (he.run pins s σ H _ I h) fun v s1 ⟨x, H1, I1, r1, q1⟩ => ?_)
  obtain ⟨a, xs, ex, hx, q⟩ := q1
  subst ex
  cases r1
  have hst : PO X (some (.UnaryOp .USub (.Constant (.int 1) k p1) p2)) (tPart (tUn (rU fun i => .int (-i)) (tC (.int 1)))) := po_some (pe_un un_neg pe_int)
  refine wpAny_Slice (thn (po_none.run pins s1 σ H1 (fun o H2 => o = none ∧ H2 = H1) I1 ⟨rfl, rfl⟩) fun vl s2 ⟨l, H2, I2, pl, el, e2⟩ => ?_)
  subst el e2
  refine thn (po_none.run pins s2 σ H2 (fun o H3 => o = none ∧ H3 = H2) I2 ⟨rfl, rfl⟩) fun vu s3 ⟨u, H3, I3, pu, eu, e3⟩ => ?_
  subst eu e3
  refine thn (hst.run pins s3 σ H3 (fun o H4 => o = some (-1) ∧ H4 = H3) I3 ⟨1, rfl, -1, rfl, rfl, rfl⟩) fun vs s4 ⟨o, H4, I4, ps, eo, e4⟩ => ?_
  subst eo e4
  have I5 : Inv X pins σ H4 { s4 with heap := s4.heap.push { cls := .type "slice", data := .fields #[vl, vu, vs] } } := I4.kept (t' := s4.toks) fun b ob q => Heap.get?_push_of_some _ q
  obtain ⟨its, r, ht, hz⟩ := I5.tuple hx
  have hlen := r.length
  show wpAny (model X.prog X.w) X.A (subscriptTail e (.Slice none none (some (.UnaryOp .USub (.Constant (.int 1) k p1) p2)) p3) (.ref a) (.ref s4.heap.objs.size)) (EP X pins σ Q) X.xe { s4 with heap := s4.heap.push { cls := .type "slice", data := .fields #[vl, vu, vs] } }
  refine tail_any (ops := [.ref a, .ref s4.heap.objs.size]) ht.typeIs (PyProof.Rows.slot_tuple_getitem.lookup) ?_ (by with_unfolding_all rfl)
  refine HT.getItem_tuple_rev ht (Heap.IsSliceOf.new _ vl vu vs) pl pu ps ?_ (by rw [List.size_toArray]; omega)
  refine ⟨.ref _, _, I5.laid (t' := s4.toks) (o := .tup xs.reverse) (fun b ob q => Heap.get?_push_of_some _ q) (Nat.le_refl _) ?_, rfl, q _ (I5.hok.fresh (Nat.le_refl _))⟩
  exact ⟨by rw [List.length_reverse]; exact hz, _, r.reverse, IsTup.new _ _⟩
end
section
variable {X : Cx} {B : Bd} {ow : List Nat} {E α β : Type} {Γ : E → List (Option D)} {p s : Bool} {e : Expr} {pos p1 p2 p3 : Pos} {kk : Nat} {c : α → D} {G : E → Prop} {d : E → List α} {u : E → E}
theorem d_revT (h : De X B ow Γ p s e (cT c) G d u) : De X B ow Γ p s (.Subscript e (.Slice none none (some (.UnaryOp .USub (.Constant (.int 1) kk p1) p2)) p3) pos) (cT c) G (fun ε => (d ε).reverse) u :=
  ⟨(pe_revT h.pe).weaken fun σ H Q ⟨H0, ε, rl, g, k⟩ => ⟨H0, ε, rl, g, fun v H1 f1 r1 z1 => by
    obtain ⟨a, vs, rfl, n, l⟩ := z1.tup_inv
    refine ⟨a, vs, rfl, n.sq, fun q hq => k _ _ ((show Fr _ H H1 from f1).trans (Fr.new hq)) (r1.grow (Fr.new hq)) ?_⟩
    refine .tup (.inl ⟨(r1.tr s).new hq, upd_same, by rw [List.length_reverse]; exact n.sz⟩) ?_
    dsimp only
    rw [List.map_reverse]
    exact l.rev.fr (Fr.new hq)⟩⟩
theorem d_revL (h : De X B ow Γ true true e (cL c) G d u) : DL X B ow Γ true (.Subscript e (.Slice none none (some (.UnaryOp .USub (.Constant (.int 1) kk p1) p2)) p3) pos) c G (fun ε => (d ε).reverse) u :=
  ⟨(pe_revL h.pe).weaken fun σ H Q ⟨H0, ε, rl, g, k⟩ => ⟨H0, ε, rl, g, fun v H1 f1 r1 z1 => by
    have f1' : Fr [] H H1 := f1
    obtain ⟨a, vs, rfl, n, l⟩ := z1.lst_inv
    refine ⟨a, vs, rfl, n.sq, fun q hq => k q _ _ (f1'.back hq) (f1'.trans (Fr.new hq)) (r1.plus hq) upd_same (by rw [List.length_reverse]; exact n.2) ?_⟩
    dsimp only
    rw [List.map_reverse]
    exact fzl_plus hq l.rev⟩⟩
end
end Y
namespace Y
open PySem PySem.Spec PyProof.Rows L2

/-! ### what is shown, what is shaped -/
section
variable {α β γ : Type} {n k m l : Nat} {c : α → D} {c' : β → D} {a b d : D}
theorem sw_I {x : Int} (h : -1000000000000000000 ≤ x ∧ x ≤ 1000000000000000000) : Sw 201 0 (cI x) := sw_int (log2_lt (k := 199) (by
  have : x.natAbs ≤ 1000000000000000000 := by omega
  exact Nat.lt_of_le_of_lt this (by decide)))
theorem sw_1 (h1 : Sw n k a) : Sw (1 * (n + 2) + 3) (k + 1) (.tuple [a]) := sw_tup (fun d hd => by
  simp only [List.mem_cons, List.not_mem_nil, or_false] at hd
  rw [hd]; exact h1) (by simp)
theorem sw_2 (h1 : Sw n k a) (h2 : Sw n k b) : Sw (2 * (n + 2) + 3) (k + 1) (.tuple [a, b]) := sw_tup (fun d hd => by
  simp only [List.mem_cons, List.not_mem_nil, or_false] at hd
  rcases hd with rfl | rfl
  · exact h1
  · exact h2) (by simp)
theorem sw_3 {e : D} (h1 : Sw n k a) (h2 : Sw n k b) (h3 : Sw n k e) : Sw (3 * (n + 2) + 3) (k + 1) (.tuple [a, b, e]) := sw_tup (fun d hd => by
  simp only [List.mem_cons, List.not_mem_nil, or_false] at hd
  rcases hd with rfl | rfl | rfl
  · exact h1
  · exact h2
  · exact h3) (by simp)
theorem sw_4 {e f : D} (h1 : Sw n k a) (h2 : Sw n k b) (h3 : Sw n k e) (h4 : Sw n k f) : Sw (4 * (n + 2) + 3) (k + 1) (.tuple [a, b, e, f]) := sw_tup (fun d hd => by
  simp only [List.mem_cons, List.not_mem_nil, or_false] at hd
  rcases hd with rfl | rfl | rfl | rfl
  · exact h1
  · exact h2
  · exact h3
  · exact h4) (by simp)
theorem sw_T {xs : List α} (m : Nat) (hl : xs.length ≤ m) (h : ∀ x ∈ xs, Sw n k (c x)) : Sw (m * (n + 2) + 3) (k + 1) (cT c xs) := sw_tup (fun d hd => by
  obtain ⟨x, hx, rfl⟩ := List.mem_map.mp hd
  exact h x hx) (by rw [List.length_map]; exact hl)
theorem sw_L {xs : List α} (m : Nat) (hl : xs.length ≤ m) (h : ∀ x ∈ xs, Sw n k (c x)) : Sw (m * (n + 2) + 3) (k + 1) (cL c xs) := sw_lst (fun d hd => by
  obtain ⟨x, hx, rfl⟩ := List.mem_map.mp hd
  exact h x hx) (by rw [List.length_map]; exact hl)
theorem sw_O {o : Option α} (h : ∀ x, o = some x → Sw n k (c x)) : Sw (n + 4) k (cO c o) := by
  cases o with
  | none => exact sw_none.mono (by omega) (by omega)
  | some x => exact (h x rfl).mono (by omega) (by omega)
theorem shaped_lay {d : D} (h : SeqAt.shaped d = true) : d.canLay0 = true := SeqAt.canLay_of_shaped h
/-- shaped, by depth -/
structure Sp (k : Nat) (d : D) : Prop where
  l : d.canLay0 = true
  d : d.depth ≤ k
theorem Sp.ok (h : Sp k d) (hk : k ≤ 64 := by decide) : SeqAt.shaped d = true := by
  show (d.canLay0 && decide (d.depth ≤ 64)) = true
  rw [Bool.and_eq_true]
  exact ⟨h.l, decide_eq_true (Nat.le_trans h.d hk)⟩
theorem Sp.mono (h : Sp k d) (hk : k ≤ l) : Sp l d := ⟨h.l, Nat.le_trans h.d hk⟩
theorem sp_int (i : Int) : Sp 0 (.int i) := ⟨by simp [PyData.canLay0], by simp [PyData.depth]⟩
theorem sp_bool (i : Bool) : Sp 0 (.bool i) := ⟨by simp [PyData.canLay0], by simp [PyData.depth]⟩
theorem sp_none : Sp 0 .none := ⟨by simp [PyData.canLay0], by simp [PyData.depth]⟩
theorem sp_str {x : Str} (h : (PyData.str x).canLay0 = true) : Sp 0 (.str x) := ⟨h, by simp [PyData.depth]⟩
theorem sp_all : ∀ (xs : List D), (∀ x ∈ xs, Sp k x) → PyData.canLayAll0 xs = true ∧ PyData.depthAll xs ≤ k
  | [], _ => ⟨by simp [PyData.canLayAll0], by simp [PyData.depthAll]⟩
  | x :: xs, h => by
    obtain ⟨h1, h2⟩ := sp_all xs fun y hy => h y (List.mem_cons_of_mem _ hy)
    have h3 := h x List.mem_cons_self
    refine ⟨by simp [PyData.canLayAll0, h3.l, h1], ?_⟩
    have := h3.d
    simp only [PyData.depthAll]; omega
theorem sp_tup {xs : List D} (h : ∀ x ∈ xs, Sp k x) : Sp (k + 1) (.tuple xs) := ⟨by simp only [PyData.canLay0]; exact (sp_all xs h).1, by have := (sp_all xs h).2; simp only [PyData.depth]; omega⟩
theorem sp_lst {xs : List D} (h : ∀ x ∈ xs, Sp k x) : Sp (k + 1) (.list xs) := ⟨by simp only [PyData.canLay0]; exact (sp_all xs h).1, by have := (sp_all xs h).2; simp only [PyData.depth]; omega⟩
theorem sp_1 (h1 : Sp k a) : Sp (k + 1) (.tuple [a]) := sp_tup fun d hd => by
  simp only [List.mem_cons, List.not_mem_nil, or_false] at hd
  rw [hd]; exact h1
theorem sp_2 (h1 : Sp k a) (h2 : Sp k b) : Sp (k + 1) (.tuple [a, b]) := sp_tup fun d hd => by
  simp only [List.mem_cons, List.not_mem_nil, or_false] at hd
  rcases hd with rfl | rfl
  · exact h1
  · exact h2
theorem sp_3 {e : D} (h1 : Sp k a) (h2 : Sp k b) (h3 : Sp k e) : Sp (k + 1) (.tuple [a, b, e]) := sp_tup fun d hd => by
  simp only [List.mem_cons, List.not_mem_nil, or_false] at hd
  rcases hd with rfl | rfl | rfl
  · exact h1
  · exact h2
  · exact h3
theorem sp_T {xs : List α} (h : ∀ x ∈ xs, Sp k (c x)) : Sp (k + 1) (cT c xs) := sp_tup fun d hd => by
  obtain ⟨x, hx, rfl⟩ := List.mem_map.mp hd
  exact h x hx
theorem sp_L {xs : List α} (h : ∀ x ∈ xs, Sp k (c x)) : Sp (k + 1) (cL c xs) := sp_lst fun d hd => by
  obtain ⟨x, hx, rfl⟩ := List.mem_map.mp hd
  exact h x hx
theorem sp_O {o : Option α} (h : ∀ x, o = some x → Sp k (c x)) : Sp k (cO c o) := by
  cases o with
  | none => exact sp_none.mono (by omega)
  | some x => exact h x rfl
theorem eqv_str (x y : Str) : PyData.eqv (.str x) (.str y) = decide (x = y) := by
  by_cases h : x = y
  · subst h; rw [decide_eq_true rfl]; simp [PyData.eqv]
  · rw [decide_eq_false h]; simp [PyData.eqv, h]
theorem eqv_int (x y : Int) : PyData.eqv (.int x) (.int y) = decide (x = y) := by
  by_cases h : x = y
  · subst h; rw [decide_eq_true rfl]; simp [PyData.eqv]
  · rw [decide_eq_false h]; simp [PyData.eqv, h]
end
theorem ixD_last {α : Type} [Inhabited α] {xs : List α} {a : α} : ixD (xs ++ [a]) (-1) = a := by
  have e : ixN (xs ++ [a]).length (-1) = some xs.length := by
    unfold ixN
    rw [if_neg (by omega), List.length_append, List.length_singleton, if_pos (by omega)]
    congr 1
    omega
  unfold ixD L2.atI
  rw [e]
  simp
theorem ixD_zero {α : Type} [Inhabited α] {xs : List α} {a : α} : ixD (a :: xs) 0 = a := ixD_of (k := 0) rfl
theorem cix_ne {α : Type} {xs : List α} (h : (!xs.isEmpty) = true) : CIx xs 0 := by
  have : 0 < xs.length := List.length_pos_iff.mpr fun e => by rw [e] at h; cases h
  exact ⟨by omega, by omega⟩
theorem cix_ne1 {α : Type} {xs : List α} (h : (!xs.isEmpty) = true) : CIx xs (-1) := by
  have : 0 < xs.length := List.length_pos_iff.mpr fun e => by rw [e] at h; cases h
  exact ⟨by omega, by omega⟩
end Y
namespace Y
open PySem PySem.Spec PyProof.Rows L2
section
variable {X : Cx} {B : Bd} {ow : List Nat} {E α β τ : Type} {Γ : E → List (Option D)} {p p0 p1 p2 s : Bool} {e e1 e2 : Expr} {pos : Pos} {c : α → D} {c' : β → D} {G G1 G2 : E → Prop} {d d1 d2 : E → α} {t : E → Bool} {u u0 u1 u2 : E → E} {s1 s2 : E → τ}
/-- a if c else b, with effects -/
theorem d_ifE (put : E → τ → E) (hc : Dt X B ow Γ p0 e G t u0) (h1 : De X B ow Γ p1 s e1 c G1 d1 u1) (h2 : De X B ow Γ p2 s e2 c G2 d2 u2) (q1 : ∀ ε, u1 (u0 ε) = put ε (s1 ε)) (q2 : ∀ ε, u2 (u0 ε) = put ε (s2 ε)) :
    De X B ow Γ false s (.IfExp e e1 e2 pos) c (fun ε => G ε ∧ (t ε = true → G1 (u0 ε)) ∧ (t ε = false → G2 (u0 ε))) (fun ε => if t ε = true then d1 (u0 ε) else d2 (u0 ε)) (fun ε => put ε (if t ε = true then s1 ε else s2 ε)) :=
  ⟨(pe_ifExp hc.pt h1.pe h2.pe).weaken fun σ H Q ⟨H0, ε, rl, ⟨g, g1, g2⟩, k⟩ => ⟨H0, ε, rl, g, fun H1 f1 r1 => by
    have w : ∀ {q : Bool} {A : List Addr} {H H' : Hp}, Fr (cond q [] A) H H' → Fr A H H' := fun {q A H H'} f => by
      cases q
      · exact f
      · exact Fr.nil f
    cases h : t ε with
    | true =>
      show tS X.K B ow Γ p1 s c G1 d1 u1 σ H1 Q
      simp only [h, if_true] at k
      refine ⟨H0, u0 ε, r1, g1 h, fun v H2 f2 r2 z2 => k v H2 ((w f1).trans (w f2)) ?_ z2⟩
      rw [← q1]; exact r2
    | false =>
      show tS X.K B ow Γ p2 s c G2 d2 u2 σ H1 Q
      simp only [h, Bool.false_eq_true, if_false] at k
      refine ⟨H0, u0 ε, r1, g2 h, fun v H2 f2 r2 z2 => k v H2 ((w f1).trans (w f2)) ?_ z2⟩
      rw [← q2]; exact r2⟩⟩
/-- told by another codec, of that form wherever it stands -/
theorem De.asD (g : α → β) (h : De X B ow Γ p s e c G d u) (hc : ∀ ε, c (d ε) = c' (g (d ε))) : De X B ow Γ p s e c' G (fun ε => g (d ε)) u :=
  ⟨h.pe.weaken fun σ H Q ⟨H0, ε, r, gg, k⟩ => ⟨H0, ε, r, gg, fun v H' f r' z => k v H' f r' (by
    show Fz _ _ _ _ (c' (g (d ε)))
    rw [← hc]; exact z)⟩⟩
end
def fx1 {α : Type} [Inhabited α] : List α → α
  | a :: _ => a
  | _ => default
def fx2 {α : Type} [Inhabited α] : List α → α × α
  | a :: b :: _ => (a, b)
  | _ => default
def fx3 {α : Type} [Inhabited α] : List α → α × α × α
  | a :: b :: c :: _ => (a, b, c)
  | _ => default
def fx4 {α : Type} [Inhabited α] : List α → α × α × α × α
  | a :: b :: c :: d :: _ => (a, b, c, d)
  | _ => default

theorem v_mulW {K : Frag} : Op2 K (rI CMulW fun i j => .int (i * j)) cI cI cI CMulW (fun i j => i * j) := v_I fun _ _ _ _ => .int _
end Y
namespace Y
open PySem PySem.Spec PyProof.Rows PySem.W L2
section
variable {α β R S T : Type}
/-- a loop whose state is told by what was gone through -/
theorem fold_pre {g : T × α → Prop} {f : T × α → T} (st : List α → T) (xs : List α) (h : ∀ l1 x l2, xs = l1 ++ x :: l2 → g (st l1, x) ∧ f (st l1, x) = st (l1 ++ [x])) : forN g f (st []) xs ∧ xs.foldl (fun m x => f (m, x)) (st []) = st xs := by
  have key : ∀ l2 l1, xs = l1 ++ l2 → forN g f (st l1) l2 ∧ l2.foldl (fun m x => f (m, x)) (st l1) = st xs := by
    intro l2
    induction l2 with
    | nil =>
      intro l1 e
      rw [List.append_nil] at e
      subst e
      exact ⟨trivial, rfl⟩
    | cons x l2 ih =>
      intro l1 e
      obtain ⟨h1, h2⟩ := h l1 x l2 e
      obtain ⟨i1, i2⟩ := ih (l1 ++ [x]) (by rw [e, List.append_assoc]; rfl)
      refine ⟨⟨h1, ?_⟩, ?_⟩
      · rw [h2]; exact i1
      · rw [List.foldl_cons, h2]; exact i2
  exact key xs [] rfl
/-- the same over a range -/
theorem fold_rng {g : T × Int → Prop} {f : T × Int → T} (st : Nat → T) (n : Nat) (h : ∀ k, k < n → g (st k, (k : Int)) ∧ f (st k, (k : Int)) = st (k + 1)) : forN g f (st 0) (rng 0 (n : Int)) ∧ (rng 0 (n : Int)).foldl (fun m x => f (m, x)) (st 0) = st n := by
  have key : ∀ d k : Nat, k + d = n → forN g f (st k) (rng (k : Int) n) ∧ (rng (k : Int) n).foldl (fun m x => f (m, x)) (st k) = st n := by
    intro d
    induction d with
    | zero =>
      intro k e
      have : k = n := by omega
      subst this
      rw [rng_nil (Int.le_refl _)]
      exact ⟨trivial, rfl⟩
    | succ d ih =>
      intro k e
      obtain ⟨h1, h2⟩ := h k (by omega)
      obtain ⟨i1, i2⟩ := ih (k + 1) (by omega)
      have e2 : ((k + 1 : Nat) : Int) = (k : Int) + 1 := by omega
      rw [e2] at i1 i2
      rw [rng_cons (by omega)]
      refine ⟨⟨h1, ?_⟩, ?_⟩
      · rw [h2]; exact i1
      · rw [List.foldl_cons, h2]; exact i2
  exact key n 0 (by omega)
/-- a loop that does not leave, whose state is told by what was gone through -/
theorem forO_pre {g : T × α → Prop} {f : T × α → Out T R T} (st : List α → T) (xs : List α) (h : ∀ l1 x l2, xs = l1 ++ x :: l2 → g (st l1, x) ∧ (f (st l1, x) = .nx (st (l1 ++ [x])) ∨ f (st l1, x) = .ct (st (l1 ++ [x])))) : forG g f (st []) xs ∧ forO (S := S) f (st []) xs = .nx (st xs) := by
  have key : ∀ l2 l1, xs = l1 ++ l2 → forG g f (st l1) l2 ∧ forO (S := S) f (st l1) l2 = .nx (st xs) := by
    intro l2
    induction l2 with
    | nil =>
      intro l1 e
      rw [List.append_nil] at e
      subst e
      exact ⟨trivial, rfl⟩
    | cons x l2 ih =>
      intro l1 e
      obtain ⟨h1, h2⟩ := h l1 x l2 e
      obtain ⟨i1, i2⟩ := ih (l1 ++ [x]) (by rw [e, List.append_assoc]; rfl)
      rcases h2 with h2 | h2
      · refine ⟨⟨h1, ?_⟩, ?_⟩
        · rw [h2]; exact i1
        · rw [forO, h2]; exact i2
      · refine ⟨⟨h1, ?_⟩, ?_⟩
        · rw [h2]; exact i1
        · rw [forO, h2]; exact i2
  exact key xs [] rfl
/-- a loop over a range that may leave at a turn -/
theorem forO_rng {g : T × Int → Prop} {f : T × Int → Out T R T} (st : Nat → T) (p : Nat → Bool) (v : Nat → R) (n : Nat) (h : ∀ k, k < n → g (st k, (k : Int)) ∧ f (st k, (k : Int)) = if p k = true then .rt (v k) else .nx (st (k + 1))) :
    forG g f (st 0) (rng 0 (n : Int)) ∧ forO (S := S) f (st 0) (rng 0 (n : Int)) = match (List.range n).find? p with
      | some k => .rt (v k)
      | none => .nx (st n) := by
  have key : ∀ d k : Nat, k + d = n → forG g f (st k) (rng (k : Int) n) ∧ forO (S := S) f (st k) (rng (k : Int) n) = match (List.range' k d).find? p with
      | some k => .rt (v k)
      | none => .nx (st n) := by
    intro d
    induction d with
    | zero =>
      intro k e
      have : k = n := by omega
      subst this
      rw [rng_nil (Int.le_refl _)]
      exact ⟨trivial, rfl⟩
    | succ d ih =>
      intro k e
      obtain ⟨h1, h2⟩ := h k (by omega)
      obtain ⟨i1, i2⟩ := ih (k + 1) (by omega)
      have e2 : ((k + 1 : Nat) : Int) = (k : Int) + 1 := by omega
      rw [e2] at i1 i2
      rw [rng_cons (by omega), List.range'_succ, List.find?_cons]
      cases c : p k with
      | true =>
        rw [c, if_pos rfl] at h2
        refine ⟨⟨h1, by rw [h2]; trivial⟩, ?_⟩
        rw [forO, h2]
      | false =>
        rw [c, if_neg Bool.false_ne_true] at h2
        refine ⟨⟨h1, by rw [h2]; exact i1⟩, ?_⟩
        rw [forO, h2]
        exact i2
  have := key n 0 (by omega)
  rwa [← List.range_eq_range'] at this
theorem ixD_getLast [Inhabited α] {xs : List α} {a : α} (h : xs.getLast? = some a) : ixD xs (-1) = a := by
  obtain ⟨ys, rfl⟩ := List.getLast?_eq_some_iff.mp h
  exact ixD_last
theorem zip_maps {γ : Type} (f : α → β) (g : α → γ) (l : List α) : (l.map f).zip (l.map g) = l.map fun x => (f x, g x) := by
  induction l with
  | nil => rfl
  | cons x l ih => simp only [List.map_cons, List.zip_cons_cons, ih]
theorem mem_enum {xs : List α} {p : Int × α} (h : p ∈ enum xs) : ∃ (k : Nat) (hk : k < xs.length), p = ((k : Int), xs[k]) := by
  obtain ⟨k, hk, e⟩ := List.mem_iff_getElem.mp h
  have hk' : k < xs.length := by rw [enum_length] at hk; exact hk
  exact ⟨k, hk', by rw [← e]; exact enum_eq xs k hk⟩
theorem nx_all {N R S : Type} (v : N) (P : N → Prop) : (∀ l, (Out.nx v : Out N R S) = .nx l → P l) = P v := propext ⟨fun h => h v rfl, fun h l e => by injection e with e; rw [← e]; exact h⟩
theorem nx_bind {M N R S : Type} (v : N) (k : N → Out M R S) : (Out.nx v : Out N R S).bind k = k v := rfl
theorem rt_bind {M N R S : Type} (v : R) (k : N → Out M R S) : (Out.rt v : Out N R S).bind k = .rt v := rfl
theorem rt_nx {N R S : Type} (v : R) (P : N → Prop) : (∀ l, (Out.rt v : Out N R S) = .nx l → P l) = True := propext ⟨fun _ => trivial, fun _ l e => by cases e⟩
end
end Y
namespace Y
open PySem PySem.Spec PyProof.Rows L2
section
variable {K : Frag} {α β γ' δ : Type}
theorem fzl4 {K : Frag} {A : List Addr} {H : Hp} {vs : List V} {d d' d'' d3 : D} (h : FzL K A H vs [d, d', d'', d3]) : ∃ v w u t, vs = [v, w, u, t] ∧ Fz K A H v d ∧ Fz K A H w d' ∧ Fz K A H u d'' ∧ Fz K A H t d3 := by
  cases h with | cons a b => cases b with | cons a' b' => cases b' with | cons a'' b'' => cases b'' with | cons a3 b3 => cases b3; exact ⟨_, _, _, _, rfl, a, a', a'', a3⟩
theorem tg_four {ca : α → D} {cb : β → D} {cc : γ' → D} {cd : δ → D} (i j l o : Nat) : TgR K (c4 ca cb cc cd) [i, j, l, o] (gTup K 4 (gCons (gName i) (gCons (gName j) (gCons (gName l) (gCons (gName o) gNil))))) fun q γ => (((γ.set i (some (ca q.1))).set j (some (cb q.2.1))).set l (some (cc q.2.2.1))).set o (some (cd q.2.2.2)) := fun B H0 ow σ H γ v q Q hj r z k => by
  obtain ⟨a, xs, rfl, n, lz⟩ := z.tup_inv
  obtain ⟨x, y, w, t, rfl, z1, z2, z3, z4⟩ := fzl4 lz
  have r1 := r.set (hj i (by simp)) z1
  have e1 : ∀ u : Option V, oa (σ.set i u) ow = oa σ ow := fun u => oa_set (hj i (by simp))
  have r2 := r1.set (i := j) (v := y) (d := cb q.2.1) (hj j (by simp)) (by unfold Bd.full; rw [e1]; exact z2)
  have e2 : ∀ u w : Option V, oa ((σ.set i u).set j w) ow = oa σ ow := fun u w => by rw [oa_set (hj j (by simp)), e1]
  have r3 := r2.set (i := l) (v := w) (d := cc q.2.2.1) (hj l (by simp)) (by unfold Bd.full; rw [e2]; exact z3)
  have e3 : ∀ u w t : Option V, oa (((σ.set i u).set j w).set l t) ow = oa σ ow := fun u w t => by rw [oa_set (hj l (by simp)), e2]
  refine ⟨a, _, rfl, n.sq, rfl, x, _, rfl, y, _, rfl, w, _, rfl, t, [], rfl, rfl, k _ (r3.set (hj o (by simp)) ?_) (fun m hm => ?_) (by simp)⟩
  · unfold Bd.full
    rw [e3]
    exact z4
  · have h1 : i ≠ m := fun e => hm (by simp [e])
    have h2 : j ≠ m := fun e => hm (by simp [e])
    have h3 : l ≠ m := fun e => hm (by simp [e])
    have h4 : o ≠ m := fun e => hm (by simp [e])
    rw [List.getElem?_set_ne h4, List.getElem?_set_ne h3, List.getElem?_set_ne h2, List.getElem?_set_ne h1]
end
theorem rgV_rng (a b : Int) : rgV a b = (rng a b).map V.int := by
  unfold rgV rng
  rw [List.map_map]
  rfl
section
variable {X : Cx} {B : Bd} {ow : List Nat} {E α β : Type} {Γ : E → List (Option D)} {p s : Bool} {e e1 e2 : Expr} {pos px p2 p3 : Pos} {c : α → D} {G G1 G2 : E → Prop} {d1 d2 : E → Int} {u u1 u2 : E → E}
theorem crg_ok {a b : Int} (h : CRg a b) : RgOk a b := by
  obtain ⟨h1, h2, h3, h4, h5⟩ := h
  refine ⟨by omega, by omega, by omega, by omega, by omega⟩
theorem l_lrg1 (h : De X B ow Γ true true e cI G d1 (fun ε => ε)) (hm : X.mg "list" = none) (hm2 : X.mg "range" = none) (hg : Gl X "list" := by rfl) (hg2 : Gl X "range" := by rfl) (hc : X.calm = true := by rfl)
    (na : starEach [e] X.env = (false, eval e X.env) :: starEach [] X.env := by rfl) (na2 : starEach [.Call (.Name "range" p2) [e] [] p3] X.env = (false, eval (.Call (.Name "range" p2) [e] [] p3) X.env) :: starEach [] X.env := by rfl) :
    DL X B ow Γ true (.Call (.Name "list" px) [.Call (.Name "range" p2) [e] [] p3] [] pos) cI (fun ε => G ε ∧ CRg 0 (d1 ε)) (fun ε => rng 0 (d1 ε)) (fun ε => ε) :=
  ⟨(pe_listRg hc hg hm (prg_1 hg2 hm2 h.pe na) na2).weaken fun σ H Q ⟨H0, ε, rl, ⟨g1, g2⟩, k⟩ => ⟨H0, ε, rl, g1, fun v H1 f1 r1 z1 => by
    have f1' : Fr [] H H1 := f1
    cases z1.int_inv
    refine ⟨_, rfl, crg_ok g2, fun q hq => k q _ _ (f1'.back hq) (f1'.trans (Fr.new hq)) (r1.plus hq) upd_same ?_ ?_⟩
    · rw [rgV_length]
      have := g2.2.2.2.2
      show _ ≤ 16777216
      omega
    · rw [rgV_rng]
      exact ints_fzl _⟩⟩
theorem l_lrg2 (h1 : De X B ow Γ true true e1 cI G1 d1 (fun ε => ε)) (h2 : De X B ow Γ true true e2 cI G2 d2 (fun ε => ε)) (hm : X.mg "list" = none) (hm2 : X.mg "range" = none) (hg : Gl X "list" := by rfl) (hg2 : Gl X "range" := by rfl) (hc : X.calm = true := by rfl)
    (na : starEach [e1, e2] X.env = (false, eval e1 X.env) :: starEach [e2] X.env := by rfl) (nb : starEach [e2] X.env = (false, eval e2 X.env) :: starEach [] X.env := by rfl) (na2 : starEach [.Call (.Name "range" p2) [e1, e2] [] p3] X.env = (false, eval (.Call (.Name "range" p2) [e1, e2] [] p3) X.env) :: starEach [] X.env := by rfl)
    (hp : (backTo p3 (starEach [e2] X.env)).any (·.1) = false := by rfl) :
    DL X B ow Γ true (.Call (.Name "list" px) [.Call (.Name "range" p2) [e1, e2] [] p3] [] pos) cI (fun ε => G1 ε ∧ G2 ε ∧ CRg (d1 ε) (d2 ε)) (fun ε => rng (d1 ε) (d2 ε)) (fun ε => ε) :=
  ⟨(pe_listRg hc hg hm (prg_2 hg2 hm2 h1.pe h2.pe na nb hp) na2).weaken fun σ H Q ⟨H0, ε, rl, ⟨g1, g2, g3⟩, k⟩ => ⟨H0, ε, rl, g1, fun v H1 f1 r1 z1 => ⟨H0, ε, r1, g2, fun w H2 f2 r2 z2 => by
    have f1' : Fr [] H H1 := f1
    have f2' : Fr [] H1 H2 := f2
    have fa := f1'.trans f2'
    cases z1.int_inv
    cases z2.int_inv
    refine ⟨_, _, rfl, rfl, crg_ok g3, fun q hq => k q _ _ (fa.back hq) (fa.trans (Fr.new hq)) (r2.plus hq) upd_same ?_ ?_⟩
    · rw [rgV_length]
      have := g3.2.2.2.2
      show _ ≤ 16777216
      omega
    · rw [rgV_rng]
      exact ints_fzl _⟩⟩⟩
theorem d_trg1 (h : De X B ow Γ true s e cI G d1 (fun ε => ε)) (hm : X.mg "tuple" = none) (hm2 : X.mg "range" = none) (hg : Gl X "tuple" := by rfl) (hg2 : Gl X "range" := by rfl) (hc : X.calm = true := by rfl)
    (na : starEach [e] X.env = (false, eval e X.env) :: starEach [] X.env := by rfl) (na2 : starEach [.Call (.Name "range" p2) [e] [] p3] X.env = (false, eval (.Call (.Name "range" p2) [e] [] p3) X.env) :: starEach [] X.env := by rfl) :
    De X B ow Γ true s (.Call (.Name "tuple" px) [.Call (.Name "range" p2) [e] [] p3] [] pos) (cT cI) (fun ε => G ε ∧ CRg 0 (d1 ε)) (fun ε => rng 0 (d1 ε)) (fun ε => ε) :=
  ⟨(pe_tupRg hc hg hm (prg_1 hg2 hm2 h.pe na) na2).weaken fun σ H Q ⟨H0, ε, rl, ⟨g1, g2⟩, k⟩ => ⟨H0, ε, rl, g1, fun v H1 f1 r1 z1 => by
    have f1' : Fr [] H H1 := f1
    cases z1.int_inv
    refine ⟨_, rfl, crg_ok g2, fun q hq => k _ _ (f1'.trans (Fr.new hq)) (r1.grow (Fr.new hq)) ?_⟩
    refine .tup (.inl ⟨(r1.tr s).new hq, upd_same, ?_⟩) ?_
    · rw [rgV_length]
      have := g2.2.2.2.2
      show _ ≤ 16777216
      omega
    · rw [rgV_rng]
      exact ints_fzl _⟩⟩
theorem d_trg2 (h1 : De X B ow Γ true s e1 cI G1 d1 (fun ε => ε)) (h2 : De X B ow Γ true s e2 cI G2 d2 (fun ε => ε)) (hm : X.mg "tuple" = none) (hm2 : X.mg "range" = none) (hg : Gl X "tuple" := by rfl) (hg2 : Gl X "range" := by rfl) (hc : X.calm = true := by rfl)
    (na : starEach [e1, e2] X.env = (false, eval e1 X.env) :: starEach [e2] X.env := by rfl) (nb : starEach [e2] X.env = (false, eval e2 X.env) :: starEach [] X.env := by rfl) (na2 : starEach [.Call (.Name "range" p2) [e1, e2] [] p3] X.env = (false, eval (.Call (.Name "range" p2) [e1, e2] [] p3) X.env) :: starEach [] X.env := by rfl)
    (hp : (backTo p3 (starEach [e2] X.env)).any (·.1) = false := by rfl) :
    De X B ow Γ true s (.Call (.Name "tuple" px) [.Call (.Name "range" p2) [e1, e2] [] p3] [] pos) (cT cI) (fun ε => G1 ε ∧ G2 ε ∧ CRg (d1 ε) (d2 ε)) (fun ε => rng (d1 ε) (d2 ε)) (fun ε => ε) :=
  ⟨(pe_tupRg hc hg hm (prg_2 hg2 hm2 h1.pe h2.pe na nb hp) na2).weaken fun σ H Q ⟨H0, ε, rl, ⟨g1, g2, g3⟩, k⟩ => ⟨H0, ε, rl, g1, fun v H1 f1 r1 z1 => ⟨H0, ε, r1, g2, fun w H2 f2 r2 z2 => by
    have f1' : Fr [] H H1 := f1
    have f2' : Fr [] H1 H2 := f2
    have fa := f1'.trans f2'
    cases z1.int_inv
    cases z2.int_inv
    refine ⟨_, _, rfl, rfl, crg_ok g3, fun q hq => k _ _ (fa.trans (Fr.new hq)) (r2.grow (Fr.new hq)) ?_⟩
    refine .tup (.inl ⟨(r2.tr s).new hq, upd_same, ?_⟩) ?_
    · rw [rgV_length]
      have := g3.2.2.2.2
      show _ ≤ 16777216
      omega
    · rw [rgV_rng]
      exact ints_fzl _⟩⟩⟩
/-! ### xs.index(y) -/
def idxD {α : Type} (c : α → D) (xs : List α) (y : α) : Int := ((xs.findIdx fun x => PyData.eqv (c x) (c y) : Nat) : Int)
def IdxOk {α : Type} (c : α → D) (xs : List α) (y : α) : Prop := SeqAt.shaped (cL c xs) = true ∧ SeqAt.shaped (c y) = true ∧ ∃ x ∈ xs, PyData.eqv (c x) (c y) = true
theorem d_index {o e : Expr} {apos : Pos} {dx : E → List α} {dy : E → α} {u' : E → E} {p' : Bool} (hu : X.A.units + 65 < cLine) (ho : De X B ow Γ p true o (cL c) G1 dx u) (he : De X B ow Γ p' true e c G2 dy u')
    (hp' : p' = true)
    (hbase : attributeBase o "index" X.env (eval o X.env) = eval o X.env := by rfl)
    (hst : starEach [e] X.env = (false, eval e X.env) :: starEach [] X.env := by rfl)
    (hfew : ((backTo pos (starEach [e] X.env)).all (fun x => !x.1) && (backToKw pos (keywordEach [] X.env)).all (fun x => x.1.isSome)
      && decide (([e] : List Expr).length + ([] : List Keyword).length + (if ([] : List Keyword).isEmpty then 0 else 1) < 30)) = true := by rfl)
    (hline : (apos.endLine == pos.line) = true := by rfl) (hplain : (backTo pos (starEach [] X.env)).any (·.1) = false := by rfl) :
    De X B ow Γ p true (.Call (.Attribute o "index" apos) [e] [] pos) cI (fun ε => G1 ε ∧ G2 (u ε) ∧ IdxOk c (dx ε) (dy (u ε))) (fun ε => idxD c (dx ε) (dy (u ε))) (fun ε => u' (u ε)) :=
  ⟨(pe_bm PySem.F.plainAttrs_list PySem.F.slot_list_index PySem.F.type_list_index (mt_indexD hu) ho.pe (pa_cons he.pe pa_nil hst) hbase hfew hline hst hplain).weaken fun σ H Q ⟨H0, ε, rl, ⟨g1, g2, g3⟩, k⟩ => ⟨H0, ε, rl, g1, fun v H1 f1 r1 z1 => by
    obtain ⟨a, vs, rfl, n, l⟩ := z1.lst_inv
    refine ⟨.inl ⟨rfl, _, n.sq⟩, H0, u ε, r1, g2, fun w H2 f2 r2 z2 => ?_⟩
    subst hp'
    have f2' : Fr [] H1 H2 := f2
    obtain ⟨s1, s2, x, hx, ex⟩ := g3
    have hlt : (dx ε).findIdx (fun x => PyData.eqv (c x) (c (dy (u ε)))) < (dx ε).length := List.findIdx_lt_length_of_exists ⟨x, hx, ex⟩
    have z1' : Fz X.K (B.full σ ow) H2 (.ref a) (cL c (dx ε)) := (Fz.lst n l).fr f2'.nil
    refine ⟨a, w, _, _, (dx ε).findIdx (fun x => PyData.eqv (c x) (c (dy (u ε)))), c (dx ε)[(dx ε).findIdx (fun x => PyData.eqv (c x) (c (dy (u ε))))], rfl, rfl, z1'.dp, z2.dp, s1, s2, ?_, ?_, fun m z' hm e => ?_, k _ H2 ?_ r2 (.int _)⟩
    · rw [List.getElem?_map, List.getElem?_eq_getElem hlt]; rfl
    · exact List.findIdx_getElem (w := hlt)
    · rw [List.getElem?_map] at e
      have hml : m < (dx ε).length := by omega
      rw [List.getElem?_eq_getElem hml] at e
      injection e with e
      rw [← e]
      have := List.not_of_lt_findIdx hm
      simpa using this
    · exact (show Fr (cond p [] (oa σ ow)) H H1 from f1).trans f2'.nil⟩⟩
end
section
variable {E M N R S : Type}
theorem keep_ite {c : Prop} [Decidable c] (a b : Out M R S) (ε : E) : (if c then a else b).keep ε = if c then a.keep ε else b.keep ε := by split <;> rfl
theorem keep_bind (o : Out N R S) (k : N → Out M R S) (ε : E) : (o.bind k).keep ε = o.bind fun n => (k n).keep ε := by cases o <;> rfl
end
section
variable {X : Cx} {B : Bd} {ow : List Nat} {E α β : Type} {Γ : E → List (Option D)} {p s : Bool} {e : Expr} {c : α → D} {c' : β → D} {G : E → Prop} {d : E → List α} {u : E → E}
theorem De.asL (g : α → β) (hc : ∀ x, c x = c' (g x)) (h : De X B ow Γ p s e (cL c) G d u) : De X B ow Γ p s e (cL c') G (fun ε => (d ε).map g) u :=
  h.as (c' := cL c') (g := List.map g) fun x => by
    show PyData.list (x.map c) = .list ((x.map g).map c')
    rw [List.map_map]
    exact congrArg _ (List.map_congr_left fun a _ => hc a)
theorem De.asT (g : α → β) (hc : ∀ x, c x = c' (g x)) (h : De X B ow Γ p s e (cT c) G d u) : De X B ow Γ p s e (cT c') G (fun ε => (d ε).map g) u :=
  h.as (c' := cT c') (g := List.map g) fun x => by
    show PyData.tuple (x.map c) = .tuple ((x.map g).map c')
    rw [List.map_map]
    exact congrArg _ (List.map_congr_left fun a _ => hc a)
end
theorem v_fdivN {K : Frag} : Op2 K (rI CDivN fun i j => .int (i.fdiv j)) cI cI cI CDivN (fun i j => i.fdiv j) := v_I fun _ _ _ _ => .int _
end Y
namespace Y
open PySem PySem.Spec PyProof.Rows L2

/-! ### a loop over a list of one's own, whose body sets one slot -/
def tSX {E M : Type} (K : Frag) (B : Bd) (ow : List Nat) (Γ : E → List (Option D)) (G : E → Prop) (d : E → M) (Γ' : M → List (Option D)) (j : Nat) : TS := fun Dn σ H =>
  ∃ H0 ε, Rel K B H0 ow σ H (Γ ε) ∧ G ε ∧ ∀ σ' H', Rel K B H0 ow σ' H' (Γ' (d ε)) → σ'[j]? = σ[j]? → Fr [] H H' → Dn.nx σ' H'
structure Dsx (X : Cx) (B : Bd) (ow : List Nat) {E M : Type} (Γ : E → List (Option D)) (body : List Stmt) (G : E → Prop) (d : E → M) (Γ' : M → List (Option D)) (j : Nat) : Prop where
  pss : PSs X body (tSX X.K B ow Γ G d Γ' j)
section
variable {X : Cx} {B : Bd} {ow owS : List Nat} {E M R S α β : Type} {Γ : E → List (Option D)} {ΓL : E → M → List (Option D)} {ΓS : S → List (Option D)} {cr : R → D} {ci : R → List D} {body : List Stmt} {pos px py pe : Pos} {e : Expr} {c : α → D} {cb : β → D} {G : E → Prop} {xs : E → List α} {js : List Nat} {g : TG} {y : Str}
theorem sx_asg {x : Str} {dv : E → β} {Γ' : M → List (Option D)} {j : Nat} (i : Nat) (he : De X B ow Γ true true e cb G dv (fun ε => ε)) (cv : E × β → M) (hc : ∀ (H0 : Hp) (q : E × β) σ H, Rel X.K B H0 ow σ H ((Γ q.1).set i (some (cb q.2))) → Rel X.K B H0 ow σ H (Γ' (cv q))) (hij : i ≠ j := by decide)
    (hio : i ∉ ow := by decide) (hi : X.N[i]? = some x := by rfl) (hx : Loc X.env.scope x := by first | exact .inl rfl | exact .inr rfl) (hN : X.N.Nodup := by assumption)
    (hs : swapsWith e (some (.Name x px)) pos.line X.env = pure false := by rfl) (hf : X.fn x = true ∨ X.env.scope.names.lookup x = some .local := by first | exact .inl rfl | exact .inr rfl) :
    Dsx X B ow Γ [.Assign [.Name x px] e pos] G (fun ε => cv (ε, dv ε)) Γ' j :=
  ⟨(pss_one (ps_set (pos' := px) (pos := pos) hN hi hx he.pe hs hf)).weaken fun Dn σ H ⟨H0, ε, rl, g, k⟩ => ⟨H0, ε, rl, g, fun v H' f r z =>
    k _ H' (hc H0 (ε, dv ε) _ _ (r.set hio z)) (by rw [List.getElem?_set_ne hij]) f⟩⟩
theorem s_forOE {elts : List Expr} {kk : Nat} {tpos : Pos} {ft : Int × α → List (Option D) → List (Option D)} {gb : E → M × (Int × α) → Prop} {fb : E → M × (Int × α) → M} (j : Nat) (xs : E → List α) (m0 : E → M) (hget : ∀ ε, (Γ ε)[j]? = some (some (.list ((xs ε).map c)))) (hgetL : ∀ ε m, (ΓL ε m)[j]? = some (some (.list ((xs ε).map c))))
    (hc0 : ∀ (H0 : Hp) ε σ H, Rel X.K B H0 ow σ H (Γ ε) → Rel X.K B H0 ow σ H (ΓL ε (m0 ε))) (hg : PG X (.Tuple elts kk tpos) g) (ht : TgR X.K (c2 cI c) js g ft)
    (hb : ∀ ε, Dsx X B ow (fun q : M × (Int × α) => ft q.2 (ΓL ε q.1)) body (gb ε) (fb ε) (ΓL ε) j) (hp : PassesOwn (model X.prog X.w) X.A X.env X.xe) (hm : X.mg "enumerate" = none) (hj : j ∈ ow := by decide) (hN : X.N[j]? = some y := by rfl)
    (hv : Vis X.env.scope y := by first | exact Or.inl rfl | exact Or.inr (Or.inl rfl) | exact Or.inr (Or.inr rfl)) (hd : (y == ("__debug__" : Str)) = false := by decide) (hcd : (y == ("__classdict__" : Str)) = false := by decide)
    (hgl : Gl X "enumerate" := by rfl) (hse : starEach [.Name y py] X.env = [(false, eval (.Name y py) X.env)] := by rfl) (hst : starEach (.Name y py :: []) X.env = (false, eval (.Name y py) X.env) :: starEach [] X.env := by rfl)
    (hjs : ∀ j ∈ js, j ∉ ow := by decide) (hcalm : X.calm = true := by rfl) (hs : ∀ x, foldedSetIterable (.Call (.Name "enumerate" px) [.Name y py] [] pe) X.env x = pure x := by intro _; rfl) :
    Ds X B ow Γ cr ci owS ΓS (.For (.Tuple elts kk tpos) (.Call (.Name "enumerate" px) [.Name y py] [] pe) body [] pos) (fun ε => forN (gb ε) (fb ε) (m0 ε) (enum (xs ε))) (fun ε => .nx (ε, (enum (xs ε)).foldl (fun m x => fb ε (m, x)) (m0 ε))) ow (fun n : E × M => ΓL n.1 n.2) :=
  ⟨(ps_for (tb := fun Dn σ H => ∃ ε, tSX X.K B ow (fun q : M × (Int × α) => ft q.2 (ΓL ε q.1)) (gb ε) (fb ε) (ΓL ε) j Dn σ H) hp hcalm (pi_enum hgl hm (pa_cons (pe_var hN hv hd hcd) pa_nil hst) hse) hg ⟨fun pins s σ H Dn I ⟨ε, q⟩ => (hb ε).pss.run pins s σ H Dn I q⟩ hs).weaken fun Dn σ H ⟨H0, ε, rl, g2, k⟩ => by
    obtain ⟨a, vs, e1, nb, e3, e4, hl⟩ := rl.ownAt hj (hget ε)
    have k' : ∀ σ' H', Rel X.K B H0 ow σ' H' (ΓL ε ((enum (xs ε)).foldl (fun m x => fb ε (m, x)) (m0 ε))) → Dn.nx σ' H' := k
    refine ⟨_, e1, a, vs, rfl, .inl (.inl e3.1), ?_⟩
    have hn : vs.length = (enum (xs ε)).length := by rw [enum_length, hl]
    refine for_it (walk_enum (K := X.K) (a := a) (xs := vs)) (g := g) (D := Dn) (tb := fun Dn σ H => ∃ ε, tSX X.K B ow (fun q : M × (Int × α) => ft q.2 (ΓL ε q.1)) (gb ε) (fb ε) (ΓL ε) j Dn σ H) (fun i σ' H' => σ'[j]? = some (some (.ref a)) ∧ H' a = some (.lst vs) ∧ ∃ t, Rel X.K B H0 ow σ' H' (ΓL ε t) ∧ forN (gb ε) (fb ε) t ((enum (xs ε)).drop i) ∧ ((enum (xs ε)).drop i).foldl (fun m x => fb ε (m, x)) t = (enum (xs ε)).foldl (fun m x => fb ε (m, x)) (m0 ε)) ⟨e1, e3.1, m0 ε, hc0 _ _ _ _ rl, g2, rfl⟩ ?_ ?_ ?_
    · rintro i σ' H' _ ⟨_, h, _⟩
      exact .inl (.inl h)
    · rintro i x σ' H' H2 hlt ⟨e1', e3', t, r', hg', ho'⟩ ⟨T, va, vb, rfl, hT, rfl, h1, h2⟩
      injection h1 with h1
      obtain ⟨a', vs', e1'', _, e3'', e4'', hl'⟩ := r'.ownAt hj (hgetL ε t)
      have ea : a' = a := by rw [e1'] at e1''; injection e1'' with q; injection q with q; injection q with q; exact q.symm
      subst ea
      have ev : vs' = vs := by rw [e3'] at e3''; have := e3''.1; injection this with q; injection q with q; exact q.symm
      subst ev
      have hx : i < (xs ε).length := by omega
      have hd : (enum (xs ε)).drop i = ((i : Int), (xs ε)[i]) :: (enum (xs ε)).drop (i + 1) := by
        have hl2 : i < (enum (xs ε)).length := by rw [enum_length]; exact hx
        rw [List.drop_eq_getElem_cons hl2]
        congr 1
        have := enum_get (xs ε) i
        rw [List.getElem?_eq_getElem hl2, List.getElem?_eq_getElem hx] at this
        exact Option.some.inj this
      rw [hd] at hg' ho'
      have zb : Fz X.K (B.full σ' ow) H' vb (c (xs ε)[i]) := by
        obtain ⟨d, q1, q2⟩ := e4''.get h2
        rw [List.getElem?_map, List.getElem?_eq_getElem hx] at q1
        injection q1 with q1
        rw [q1]; exact q2
      have fT : Fr [] H' (upd H' T (.tup [va, vb])) := Fr.new hT
      have zT : Fz X.K (B.full σ' ow) (upd H' T (.tup [va, vb])) (.ref T) (c2 cI c ((i : Int), (xs ε)[i])) :=
        .tup (.inl ⟨Tr.new (A := B.full σ' ow) (fun b hb => r'.tracked b hb) hT, upd_same, by show 2 ≤ szN; decide⟩) (.cons (by rw [← h1]; exact .int _) (.cons (zb.fr fT.nil) .nil))
      refine ht B _ ow σ' _ _ _ ((i : Int), (xs ε)[i]) _ hjs (r'.grow fT) zT fun σ2 r2 hsame _ => ⟨ε, _, (t, ((i : Int), (xs ε)[i])), r2, hg'.1, fun σ3 H3 r3 s3 f3 => ?_⟩
      have e5 : σ2[j]? = σ'[j]? := hsame j fun q => hjs j q hj
      have nT : a' ≠ T := fun e => by rw [e] at e3'; rw [hT] at e3'; cases e3'
      exact ⟨by rw [s3, e5]; exact e1', f3 _ _ (by rw [upd_ne nT]; exact e3') (by simp), _, r3, hg'.2, ho'⟩
    · rintro σ' H' ⟨_, _, t, r', _, ho'⟩
      rw [hn, List.drop_length] at ho'
      exact k' σ' H' (by rw [← ho']; exact r')⟩
end
end Y
namespace Z
open PySem PySem.Spec PyProof.Rows L2 Y
def topS (i : Nat) : Stmt := PySem.Challenge.pw_ferrybook_k21_minutes_moved_to_and_fro.main.body.getD i (.Pass ⟨0, 0, 0, 0⟩)
structure Tx (K : Y.Frag) (mg : Str → Option Value) (ad : Nat → Addr) (fd : Nat → FuncData) : Prop where
  F5 : Fun K "is_integer" "is_integer" (topS 5) (ad 5) (fd 5)
  M5 : mg "is_integer" = some (.ref (ad 5))
  F10 : Fun K "greatest_divisor" "greatest_divisor" (topS 10) (ad 10) (fd 10)
  M10 : mg "greatest_divisor" = some (.ref (ad 10))
  F11 : Fun K "quotient" "quotient" (topS 11) (ad 11) (fd 11)
  M11 : mg "quotient" = some (.ref (ad 11))
  F12 : Fun K "plus" "plus" (topS 12) (ad 12) (fd 12)
  M12 : mg "plus" = some (.ref (ad 12))
  F13 : Fun K "minus" "minus" (topS 13) (ad 13) (fd 13)
  M13 : mg "minus" = some (.ref (ad 13))
  F14 : Fun K "is_less" "is_less" (topS 14) (ad 14) (fd 14)
  M14 : mg "is_less" = some (.ref (ad 14))
  F15 : Fun K "sum_of" "sum_of" (topS 15) (ad 15) (fd 15)
  M15 : mg "sum_of" = some (.ref (ad 15))
  F17 : Fun K "check_lengths" "check_lengths" (topS 17) (ad 17) (fd 17)
  M17 : mg "check_lengths" = some (.ref (ad 17))
  F18 : Fun K "are_minutes" "are_minutes" (topS 18) (ad 18) (fd 18)
  M18 : mg "are_minutes" = some (.ref (ad 18))
  F19 : Fun K "check_minutes" "check_minutes" (topS 19) (ad 19) (fd 19)
  M19 : mg "check_minutes" = some (.ref (ad 19))
  F20 : Fun K "fuel_in" "fuel_in" (topS 20) (ad 20) (fd 20)
  M20 : mg "fuel_in" = some (.ref (ad 20))
  F21 : Fun K "fuel_for" "fuel_for" (topS 21) (ad 21) (fd 21)
  M21 : mg "fuel_for" = some (.ref (ad 21))
  F22 : Fun K "judge_even" "judge_even" (topS 22) (ad 22) (fd 22)
  M22 : mg "judge_even" = some (.ref (ad 22))
  F23 : Fun K "fuel_wasted" "fuel_wasted" (topS 23) (ad 23) (fd 23)
  M23 : mg "fuel_wasted" = some (.ref (ad 23))
  F24 : Fun K "gain_of" "gain_of" (topS 24) (ad 24) (fd 24)
  M24 : mg "gain_of" = some (.ref (ad 24))
  F25 : Fun K "best_minutes" "best_minutes" (topS 25) (ad 25) (fd 25)
  M25 : mg "best_minutes" = some (.ref (ad 25))
  F26 : Fun K "accept_minutes" "accept_minutes" (topS 26) (ad 26) (fd 26)
  M26 : mg "accept_minutes" = some (.ref (ad 26))
  F27 : Fun K "minute_moved" "minute_moved" (topS 27) (ad 27) (fd 27)
  M27 : mg "minute_moved" = some (.ref (ad 27))
  F29 : Fun K "_law_start" "_law_start" (topS 29) (ad 29) (fd 29)
  M29 : mg "_law_start" = some (.ref (ad 29))
  F30 : Fun K "_law_draw" "_law_draw" (topS 30) (ad 30) (fd 30)
  M30 : mg "_law_draw" = some (.ref (ad 30))
  F31 : Fun K "_law_pick" "_law_pick" (topS 31) (ad 31) (fd 31)
  M31 : mg "_law_pick" = some (.ref (ad 31))
  F32 : Fun K "_law_same" "_law_same" (topS 32) (ad 32) (fd 32)
  M32 : mg "_law_same" = some (.ref (ad 32))
  F33 : Fun K "_law_low" "_law_low" (topS 33) (ad 33) (fd 33)
  M33 : mg "_law_low" = some (.ref (ad 33))
  F34 : Fun K "_law_plus" "_law_plus" (topS 34) (ad 34) (fd 34)
  M34 : mg "_law_plus" = some (.ref (ad 34))
  F35 : Fun K "_law_mul" "_law_mul" (topS 35) (ad 35) (fd 35)
  M35 : mg "_law_mul" = some (.ref (ad 35))
  F36 : Fun K "_law_lengths" "_law_lengths" (topS 36) (ad 36) (fd 36)
  M36 : mg "_law_lengths" = some (.ref (ad 36))
  F37 : Fun K "_law_best_hold" "_law_best_hold" (topS 37) (ad 37) (fd 37)
  M37 : mg "_law_best_hold" = some (.ref (ad 37))
  F38 : Fun K "_law_fuel_holds" "_law_fuel_holds" (topS 38) (ad 38) (fd 38)
  M38 : mg "_law_fuel_holds" = some (.ref (ad 38))
  F39 : Fun K "_law_moved_hold" "_law_moved_hold" (topS 39) (ad 39) (fd 39)
  M39 : mg "_law_moved_hold" = some (.ref (ad 39))
  F40 : Fun K "law" "law" (topS 40) (ad 40) (fd 40)
  M40 : mg "law" = some (.ref (ad 40))
  z_abs : mg "abs" = none
  z_all : mg "all" = none
  z_bool : mg "bool" = none
  z_enumerate : mg "enumerate" = none
  z_int : mg "int" = none
  z_isinstance : mg "isinstance" = none
  z_len : mg "len" = none
  z_list : mg "list" = none
  z_range : mg "range" = none
  z_repr : mg "repr" = none
  z_sorted : mg "sorted" = none
  z_sum : mg "sum" = none
  z_tuple : mg "tuple" = none
  z_zip : mg "zip" = none
  c_MAX_LEGS : ∃ t, mg "MAX_LEGS" = some (.int 10 t)
  c_MAX_LENGTH : ∃ t, mg "MAX_LENGTH" = some (.int 1000000 t)
  c_MAX_MINUTES : ∃ t, mg "MAX_MINUTES" = some (.int 1000 t)
abbrev E0_is_integer : Type := Int × Unit
def o_is_integer (a : E0_is_integer) : Out Empty (Bool) Empty :=
  (let value := a.1; (Out.rt ((true && (!false)))))
def m_is_integer (a : E0_is_integer) : Bool := (o_is_integer a).ret
def g_is_integer (a : E0_is_integer) : Prop :=
  (let value := a.1; (True ∧ (true = true → True)))
theorem sc_is_integer : FnScope ["value"] ["value"] (defScope (topS 5)) := ⟨rfl, rfl, rfl, by decide +kernel, rfl, by decide +kernel, by decide +kernel⟩
theorem b_is_integer {K : Y.Frag} {mg : Str → Option Value} {ad : Nat → Addr} {fd : Nat → FuncData} (T : Tx K mg ad fd) : Binds K (fd 5) ["value"] [] := T.F5.binds (ps := ["value"]) fun _ _ _ _ _ _ us hl => match us, hl with | [_], _ => rfl
theorem f_is_integer {P : Program} {w : World} {K : Y.Frag} {mg : Str → Option Value} {base : Heap} {ad : Nat → Addr} {fd : Nat → FuncData} (T : Tx K mg ad fd) : FnG P w K mg base 1 (ad 5) (fd 5) ["value"] (spP K (ac cI an) cB g_is_integer m_is_integer) :=
  fn_pure T.F5 sc_is_integer 0 (fun _ => rfl) rfl (owS := []) (ow' := []) (ΓS := fun _ : Empty => []) (Γ' := fun _ : Empty => []) (cr := cB) (ci := fun _ => []) (G := g_is_integer) (d := o_is_integer) (fun A0 cdv A outer s H E hr hg => by
    have hu : (A.deeper (envOfC _ (defScope (topS 5)) s.heap.objs.size _ cdv)).units + 64 < cLine := Nat.lt_of_le_of_lt (Nat.add_le_add_left (by decide) _) (room_un hr)
    have key : Dss (XF P w K mg base ["value"] "is_integer" (topS 5) (ad 5) cdv A outer s H E) ⟨A0, [], none⟩ [] (fun a : E0_is_integer => ((ac cI an) a).map some ++ List.replicate 0 none) cB (fun _ => []) [] (fun _ : Empty => []) (defBody (topS 5)) _ _ [] (fun _ : Empty => []) := (s_one (s_ret (r := fun v (_ : E0_is_integer) => v) (fun _ _ => rfl) rfl (d_and (d_isi (C := "int") (b := true) (d_var 0 (fun q : E0_is_integer => q.1) cI (fun _ => rfl)) ty_I T.z_isinstance T.z_int (by decide +kernel) (by decide +kernel)) (d_one (d_not (d_isi (C := "bool") (b := false) (d_var 0 (fun q : E0_is_integer => q.1) cI (fun _ => rfl)) ty_I T.z_isinstance T.z_bool (by decide +kernel) (by decide +kernel)))))))
    exact dss_eq key (by kernel_rfl) (by kernel_rfl)) (fun _ h => h) (fun a _ => ends_ret (fun r => r) (fun _ => rfl) (o_is_integer a))
abbrev E0_greatest_divisor : Type := Int × Int × Unit
abbrev E1_greatest_divisor : Type := Int × Int
abbrev E2_greatest_divisor : Type := E1_greatest_divisor × Int
abbrev E3_greatest_divisor : Type := E2_greatest_divisor × Int
abbrev E4_greatest_divisor : Type := E0_greatest_divisor × E1_greatest_divisor
def k1_greatest_divisor (q2 : E1_greatest_divisor) : Out E1_greatest_divisor Int E1_greatest_divisor :=
  (let first3 : Int := q2.2; let second4 : Int := (q2.1 % q2.2); (Out.nx ((first3, second4))))
def kg1_greatest_divisor (q2 : E1_greatest_divisor) : Prop :=
  ((True ∧ ((True ∧ True ∧ ((0 : Int) < q2.2)) ∧ True)) ∧ (let first3 : Int := q2.2; let second4 : Int := (q2.1 % q2.2); True))
def kt1_greatest_divisor (q2 : E1_greatest_divisor) : Bool :=
  (decide ((0 : Int) < q2.2))
def ktg1_greatest_divisor (q2 : E1_greatest_divisor) : Prop :=
  (True ∧ True ∧ True)
def o_greatest_divisor (a : E0_greatest_divisor) : Out Empty (Int) Empty :=
  (let first := a.1; let second := a.2.1; ((whO kt1_greatest_divisor k1_greatest_divisor (((Int.toNat second) + 1)) (first, second)).bind (fun l5 : E1_greatest_divisor => (Out.rt l5.1))))
def m_greatest_divisor (a : E0_greatest_divisor) : Int := (o_greatest_divisor a).ret
def g_greatest_divisor (a : E0_greatest_divisor) : Prop :=
  (let first := a.1; let second := a.2.1; ((whG ktg1_greatest_divisor kt1_greatest_divisor kg1_greatest_divisor k1_greatest_divisor (((Int.toNat second) + 1)) (first, second)) ∧ (∀ l5 : E1_greatest_divisor, (whO kt1_greatest_divisor k1_greatest_divisor (((Int.toNat second) + 1)) (first, second)) = Out.nx (S := Empty) l5 → True)))
theorem sc_greatest_divisor : FnScope ["first", "second"] ["first", "second"] (defScope (topS 10)) := ⟨rfl, rfl, rfl, by decide +kernel, rfl, by decide +kernel, by decide +kernel⟩
theorem b_greatest_divisor {K : Y.Frag} {mg : Str → Option Value} {ad : Nat → Addr} {fd : Nat → FuncData} (T : Tx K mg ad fd) : Binds K (fd 10) ["first", "second"] [] := T.F10.binds (ps := ["first", "second"]) fun _ _ _ _ _ _ us hl => match us, hl with | [_, _], _ => rfl
theorem f_greatest_divisor {P : Program} {w : World} {K : Y.Frag} {mg : Str → Option Value} {base : Heap} {ad : Nat → Addr} {fd : Nat → FuncData} (T : Tx K mg ad fd) : FnG P w K mg base 1 (ad 10) (fd 10) ["first", "second"] (spP K (ac cI (ac cI an)) cI g_greatest_divisor m_greatest_divisor) :=
  fn_pure T.F10 sc_greatest_divisor 0 (fun _ => rfl) rfl (owS := []) (ow' := []) (ΓS := fun _ : Empty => []) (Γ' := fun _ : Empty => []) (cr := cI) (ci := fun _ => []) (G := g_greatest_divisor) (d := o_greatest_divisor) (fun A0 cdv A outer s H E hr hg => by
    have hu : (A.deeper (envOfC _ (defScope (topS 10)) s.heap.objs.size _ cdv)).units + 64 < cLine := Nat.lt_of_le_of_lt (Nat.add_le_add_left (by decide) _) (room_un hr)
    have key : Dss (XF P w K mg base ["first", "second"] "greatest_divisor" (topS 10) (ad 10) cdv A outer s H E) ⟨A0, [], none⟩ [] (fun a : E0_greatest_divisor => ((ac cI (ac cI an)) a).map some ++ List.replicate 0 none) cI (fun _ => []) [] (fun _ : Empty => []) (defBody (topS 10)) _ _ [] (fun _ : Empty => []) := (s_consK (s_whileP (ΓL := (fun (e1 : E0_greatest_divisor) (m : E1_greatest_divisor) => [some (cI m.1), some (cI m.2)])) (fun q : E0_greatest_divisor => (q.1, q.2.1)) (fun (e1 : E0_greatest_divisor) (m : E1_greatest_divisor) => ((Int.toNat m.2) + 1)) (fun _ _ _ _ r => r) (fun e1 : E0_greatest_divisor => (t_cmp op_gt v_gt (d_var 1 (fun q : E1_greatest_divisor => q.2) cI (fun _ => rfl)) d_int (nomark _))) (fun e1 : E0_greatest_divisor => (s_cons (s_par 0 1 (ca := cI) (cb := cI) (ga := fun x : Int × Int × Unit => x.1) (gb := fun x : Int × Int × Unit => x.2.1) (a_cons (d_var 1 (fun q : E1_greatest_divisor => q.2) cI (fun _ => rfl)) (a_cons (d_op op_mod v_mod (d_var 0 (fun q : E1_greatest_divisor => q.1) cI (fun _ => rfl)) (d_var 1 (fun q : E1_greatest_divisor => q.2) cI (fun _ => rfl))) a_nil)) (fun _ => rfl) rfl (hN := sc_greatest_divisor.nd)) (s_end (ow2 := []) (Γ2 := (fun m : E1_greatest_divisor => [some (cI m.1), some (cI m.2)])) (fun q : E3_greatest_divisor => (q.1.2, q.2)) (fun _ _ _ _ r => r)))) PassesOwn.never) (s_one (s_ret (r := fun v (_ : E4_greatest_divisor) => v) (fun _ _ => rfl) rfl (d_var 0 (fun q : E4_greatest_divisor => q.2.1) cI (fun _ => rfl)))))
    exact dss_eq key (by kernel_rfl) (by kernel_rfl)) (fun _ h => h) (fun a _ => ends_ret (fun r => r) (fun _ => rfl) (o_greatest_divisor a))
abbrev E0_quotient : Type := Int × Int × Unit
abbrev E1_quotient : Type := E0_quotient × Int
abbrev E2_quotient : Type := E1_quotient × Int
abbrev E3_quotient : Type := E0_quotient × (Int × Int)
abbrev E4_quotient : Type := E3_quotient × Int
def o_quotient (a : E0_quotient) : Out Empty (Int × Int) Empty :=
  (let up := a.1; let down := a.2.1; (let j4 : Int × Int := (if (decide (down < (0 : Int))) = true then (let up2 : Int := (-up); let down3 : Int := (-down); (up2, down3)) else (up, down)); (let divisor5 : Int := (m_greatest_divisor ((((j4.1).natAbs : Nat) : Int), j4.2, ())); (Out.rt (((j4.1 / divisor5), (j4.2 / divisor5)))))))
def m_quotient (a : E0_quotient) : Int × Int := (o_quotient a).ret
def g_quotient (a : E0_quotient) : Prop :=
  (let up := a.1; let down := a.2.1; (((True ∧ True ∧ True) ∧ ((decide (down < (0 : Int))) = true → (((True ∧ True) ∧ ((True ∧ True) ∧ True)) ∧ (let up2 : Int := (-up); let down3 : Int := (-down); True))) ∧ ((decide (down < (0 : Int))) = false → True)) ∧ (let j4 : Int × Int := (if (decide (down < (0 : Int))) = true then (let up2 : Int := (-up); let down3 : Int := (-down); (up2, down3)) else (up, down)); (((((True ∧ True) ∧ True) ∧ (True ∧ True)) ∧ (g_greatest_divisor ((((j4.1).natAbs : Nat) : Int), j4.2, ()))) ∧ (let divisor5 : Int := (m_greatest_divisor ((((j4.1).natAbs : Nat) : Int), j4.2, ())); ((True ∧ True ∧ (CDivW j4.1 divisor5)) ∧ ((True ∧ True ∧ (CDivW j4.2 divisor5)) ∧ True)))))))
theorem sc_quotient : FnScope ["up", "down", "divisor"] ["up", "down"] (defScope (topS 11)) := ⟨rfl, rfl, rfl, by decide +kernel, rfl, by decide +kernel, by decide +kernel⟩
theorem b_quotient {K : Y.Frag} {mg : Str → Option Value} {ad : Nat → Addr} {fd : Nat → FuncData} (T : Tx K mg ad fd) : Binds K (fd 11) ["up", "down"] [] := T.F11.binds (ps := ["up", "down"]) fun _ _ _ _ _ _ us hl => match us, hl with | [_, _], _ => rfl
theorem f_quotient {P : Program} {w : World} {K : Y.Frag} {mg : Str → Option Value} {base : Heap} {ad : Nat → Addr} {fd : Nat → FuncData} (T : Tx K mg ad fd) : FnG P w K mg base 2 (ad 11) (fd 11) ["up", "down"] (spP K (ac cI (ac cI an)) (c2 cI cI) g_quotient m_quotient) :=
  fn_pure T.F11 sc_quotient 1 (fun _ => rfl) rfl (owS := []) (ow' := []) (ΓS := fun _ : Empty => []) (Γ' := fun _ : Empty => []) (cr := (c2 cI cI)) (ci := fun _ => []) (G := g_quotient) (d := o_quotient) (fun A0 cdv A outer s H E hr hg => by
    have hu : (A.deeper (envOfC _ (defScope (topS 11)) s.heap.objs.size _ cdv)).units + 64 < cLine := Nat.lt_of_le_of_lt (Nat.add_le_add_left (by decide) _) (room_un hr)
    have key : Dss (XF P w K mg base ["up", "down", "divisor"] "quotient" (topS 11) (ad 11) cdv A outer s H E) ⟨A0, [], none⟩ [] (fun a : E0_quotient => ((ac cI (ac cI an)) a).map some ++ List.replicate 1 none) (c2 cI cI) (fun _ => []) [] (fun _ : Empty => []) (defBody (topS 11)) _ _ [] (fun _ : Empty => []) := (s_cons (s_ifJ (t_cmp op_lt v_lt (d_var 1 (fun q : E0_quotient => q.2.1) cI (fun _ => rfl)) d_int (nomark _)) (s_cons (s_par 0 1 (ca := cI) (cb := cI) (ga := fun x : Int × Int × Unit => x.1) (gb := fun x : Int × Int × Unit => x.2.1) (a_cons (d_un un_neg v_neg (d_var 0 (fun q : E0_quotient => q.1) cI (fun _ => rfl))) (a_cons (d_un un_neg v_neg (d_var 1 (fun q : E0_quotient => q.2.1) cI (fun _ => rfl))) a_nil)) (fun _ => rfl) rfl (hN := sc_quotient.nd)) (s_end (ow2 := []) (Γ2 := fun q : E3_quotient => [some (cI q.2.1), some (cI q.2.2), none]) (fun q : E2_quotient => (q.1.1, (q.1.2, q.2))) (fun _ _ _ _ r => r))) (s_end (ow2 := []) (Γ2 := fun q : E3_quotient => [some (cI q.2.1), some (cI q.2.2), none]) (fun q : E0_quotient => (q, (q.1, q.2.1))) (fun _ _ _ _ r => r)) (fun _ => rfl) (fun _ => rfl)) (s_cons (s_asg 2 (d_call ((f_greatest_divisor T).mono (by decide)) hr hg T.M10 T.F10.kp (b_greatest_divisor T) (a_cons (d_blt call_abs v_abs T.z_abs (by decide +kernel) (a_cons (d_var 0 (fun q : E3_quotient => q.2.1) cI (fun _ => rfl)) a_nil)) (a_cons (d_var 1 (fun q : E3_quotient => q.2.2) cI (fun _ => rfl)) a_nil))) (hN := sc_quotient.nd)) (s_one (s_ret (r := fun v (_ : E4_quotient) => v) (fun _ _ => rfl) rfl (d_tp2 (a_cons (d_op op_fdivW v_fdiv (d_var 0 (fun q : E4_quotient => q.1.2.1) cI (fun _ => rfl)) (d_var 2 (fun q : E4_quotient => q.2) cI (fun _ => rfl))) (a_cons (d_op op_fdivW v_fdiv (d_var 1 (fun q : E4_quotient => q.1.2.2) cI (fun _ => rfl)) (d_var 2 (fun q : E4_quotient => q.2) cI (fun _ => rfl))) a_nil)))))))
    exact dss_eq key (by kernel_rfl) (by kernel_rfl)) (fun _ h => h) (fun a _ => ends_ret (fun r => r) (fun _ => rfl) (o_quotient a))
abbrev E0_plus : Type := (Int × Int) × (Int × Int) × Unit
def o_plus (a : E0_plus) : Out Empty (Int × Int) Empty :=
  (let first := a.1; let second := a.2.1; (Out.rt ((m_quotient (((first.1 * second.2) + (second.1 * first.2)), (first.2 * second.2), ())))))
def m_plus (a : E0_plus) : Int × Int := (o_plus a).ret
def g_plus (a : E0_plus) : Prop :=
  (let first := a.1; let second := a.2.1; ((((True ∧ True ∧ (CMulW first.1 second.2)) ∧ (True ∧ True ∧ (CMulW second.1 first.2)) ∧ True) ∧ ((True ∧ True ∧ (CMulW first.2 second.2)) ∧ True)) ∧ (g_quotient (((first.1 * second.2) + (second.1 * first.2)), (first.2 * second.2), ()))))
theorem sc_plus : FnScope ["first", "second"] ["first", "second"] (defScope (topS 12)) := ⟨rfl, rfl, rfl, by decide +kernel, rfl, by decide +kernel, by decide +kernel⟩
theorem b_plus {K : Y.Frag} {mg : Str → Option Value} {ad : Nat → Addr} {fd : Nat → FuncData} (T : Tx K mg ad fd) : Binds K (fd 12) ["first", "second"] [] := T.F12.binds (ps := ["first", "second"]) fun _ _ _ _ _ _ us hl => match us, hl with | [_, _], _ => rfl
theorem f_plus {P : Program} {w : World} {K : Y.Frag} {mg : Str → Option Value} {base : Heap} {ad : Nat → Addr} {fd : Nat → FuncData} (T : Tx K mg ad fd) : FnG P w K mg base 3 (ad 12) (fd 12) ["first", "second"] (spP K (ac (c2 cI cI) (ac (c2 cI cI) an)) (c2 cI cI) g_plus m_plus) :=
  fn_pure T.F12 sc_plus 0 (fun _ => rfl) rfl (owS := []) (ow' := []) (ΓS := fun _ : Empty => []) (Γ' := fun _ : Empty => []) (cr := (c2 cI cI)) (ci := fun _ => []) (G := g_plus) (d := o_plus) (fun A0 cdv A outer s H E hr hg => by
    have hu : (A.deeper (envOfC _ (defScope (topS 12)) s.heap.objs.size _ cdv)).units + 64 < cLine := Nat.lt_of_le_of_lt (Nat.add_le_add_left (by decide) _) (room_un hr)
    have key : Dss (XF P w K mg base ["first", "second"] "plus" (topS 12) (ad 12) cdv A outer s H E) ⟨A0, [], none⟩ [] (fun a : E0_plus => ((ac (c2 cI cI) (ac (c2 cI cI) an)) a).map some ++ List.replicate 0 none) (c2 cI cI) (fun _ => []) [] (fun _ : Empty => []) (defBody (topS 12)) _ _ [] (fun _ : Empty => []) := (s_one (s_ret (r := fun v (_ : E0_plus) => v) (fun _ _ => rfl) rfl (d_call ((f_quotient T).mono (by decide)) hr hg T.M11 T.F11.kp (b_quotient T) (a_cons (d_op op_add v_add (d_op op_mulW v_mulW (d_prj 0 (fun x : Int × Int => x.1) (cb := cI) (fun _ => ⟨_, rfl, rfl⟩) (d_var 0 (fun q : E0_plus => q.1) (c2 cI cI) (fun _ => rfl)) d_int) (d_prj 1 (fun x : Int × Int => x.2) (cb := cI) (fun _ => ⟨_, rfl, rfl⟩) (d_var 1 (fun q : E0_plus => q.2.1) (c2 cI cI) (fun _ => rfl)) d_int)) (d_op op_mulW v_mulW (d_prj 0 (fun x : Int × Int => x.1) (cb := cI) (fun _ => ⟨_, rfl, rfl⟩) (d_var 1 (fun q : E0_plus => q.2.1) (c2 cI cI) (fun _ => rfl)) d_int) (d_prj 1 (fun x : Int × Int => x.2) (cb := cI) (fun _ => ⟨_, rfl, rfl⟩) (d_var 0 (fun q : E0_plus => q.1) (c2 cI cI) (fun _ => rfl)) d_int))) (a_cons (d_op op_mulW v_mulW (d_prj 1 (fun x : Int × Int => x.2) (cb := cI) (fun _ => ⟨_, rfl, rfl⟩) (d_var 0 (fun q : E0_plus => q.1) (c2 cI cI) (fun _ => rfl)) d_int) (d_prj 1 (fun x : Int × Int => x.2) (cb := cI) (fun _ => ⟨_, rfl, rfl⟩) (d_var 1 (fun q : E0_plus => q.2.1) (c2 cI cI) (fun _ => rfl)) d_int)) a_nil)))))
    exact dss_eq key (by kernel_rfl) (by kernel_rfl)) (fun _ h => h) (fun a _ => ends_ret (fun r => r) (fun _ => rfl) (o_plus a))
abbrev E0_minus : Type := (Int × Int) × (Int × Int) × Unit
def o_minus (a : E0_minus) : Out Empty (Int × Int) Empty :=
  (let first := a.1; let second := a.2.1; (Out.rt ((m_quotient (((first.1 * second.2) - (second.1 * first.2)), (first.2 * second.2), ())))))
def m_minus (a : E0_minus) : Int × Int := (o_minus a).ret
def g_minus (a : E0_minus) : Prop :=
  (let first := a.1; let second := a.2.1; ((((True ∧ True ∧ (CMulW first.1 second.2)) ∧ (True ∧ True ∧ (CMulW second.1 first.2)) ∧ True) ∧ ((True ∧ True ∧ (CMulW first.2 second.2)) ∧ True)) ∧ (g_quotient (((first.1 * second.2) - (second.1 * first.2)), (first.2 * second.2), ()))))
theorem sc_minus : FnScope ["first", "second"] ["first", "second"] (defScope (topS 13)) := ⟨rfl, rfl, rfl, by decide +kernel, rfl, by decide +kernel, by decide +kernel⟩
theorem b_minus {K : Y.Frag} {mg : Str → Option Value} {ad : Nat → Addr} {fd : Nat → FuncData} (T : Tx K mg ad fd) : Binds K (fd 13) ["first", "second"] [] := T.F13.binds (ps := ["first", "second"]) fun _ _ _ _ _ _ us hl => match us, hl with | [_, _], _ => rfl
theorem f_minus {P : Program} {w : World} {K : Y.Frag} {mg : Str → Option Value} {base : Heap} {ad : Nat → Addr} {fd : Nat → FuncData} (T : Tx K mg ad fd) : FnG P w K mg base 3 (ad 13) (fd 13) ["first", "second"] (spP K (ac (c2 cI cI) (ac (c2 cI cI) an)) (c2 cI cI) g_minus m_minus) :=
  fn_pure T.F13 sc_minus 0 (fun _ => rfl) rfl (owS := []) (ow' := []) (ΓS := fun _ : Empty => []) (Γ' := fun _ : Empty => []) (cr := (c2 cI cI)) (ci := fun _ => []) (G := g_minus) (d := o_minus) (fun A0 cdv A outer s H E hr hg => by
    have hu : (A.deeper (envOfC _ (defScope (topS 13)) s.heap.objs.size _ cdv)).units + 64 < cLine := Nat.lt_of_le_of_lt (Nat.add_le_add_left (by decide) _) (room_un hr)
    have key : Dss (XF P w K mg base ["first", "second"] "minus" (topS 13) (ad 13) cdv A outer s H E) ⟨A0, [], none⟩ [] (fun a : E0_minus => ((ac (c2 cI cI) (ac (c2 cI cI) an)) a).map some ++ List.replicate 0 none) (c2 cI cI) (fun _ => []) [] (fun _ : Empty => []) (defBody (topS 13)) _ _ [] (fun _ : Empty => []) := (s_one (s_ret (r := fun v (_ : E0_minus) => v) (fun _ _ => rfl) rfl (d_call ((f_quotient T).mono (by decide)) hr hg T.M11 T.F11.kp (b_quotient T) (a_cons (d_op op_sub v_sub (d_op op_mulW v_mulW (d_prj 0 (fun x : Int × Int => x.1) (cb := cI) (fun _ => ⟨_, rfl, rfl⟩) (d_var 0 (fun q : E0_minus => q.1) (c2 cI cI) (fun _ => rfl)) d_int) (d_prj 1 (fun x : Int × Int => x.2) (cb := cI) (fun _ => ⟨_, rfl, rfl⟩) (d_var 1 (fun q : E0_minus => q.2.1) (c2 cI cI) (fun _ => rfl)) d_int)) (d_op op_mulW v_mulW (d_prj 0 (fun x : Int × Int => x.1) (cb := cI) (fun _ => ⟨_, rfl, rfl⟩) (d_var 1 (fun q : E0_minus => q.2.1) (c2 cI cI) (fun _ => rfl)) d_int) (d_prj 1 (fun x : Int × Int => x.2) (cb := cI) (fun _ => ⟨_, rfl, rfl⟩) (d_var 0 (fun q : E0_minus => q.1) (c2 cI cI) (fun _ => rfl)) d_int))) (a_cons (d_op op_mulW v_mulW (d_prj 1 (fun x : Int × Int => x.2) (cb := cI) (fun _ => ⟨_, rfl, rfl⟩) (d_var 0 (fun q : E0_minus => q.1) (c2 cI cI) (fun _ => rfl)) d_int) (d_prj 1 (fun x : Int × Int => x.2) (cb := cI) (fun _ => ⟨_, rfl, rfl⟩) (d_var 1 (fun q : E0_minus => q.2.1) (c2 cI cI) (fun _ => rfl)) d_int)) a_nil)))))
    exact dss_eq key (by kernel_rfl) (by kernel_rfl)) (fun _ h => h) (fun a _ => ends_ret (fun r => r) (fun _ => rfl) (o_minus a))
abbrev E0_is_less : Type := (Int × Int) × (Int × Int) × Unit
def o_is_less (a : E0_is_less) : Out Empty (Bool) Empty :=
  (let first := a.1; let second := a.2.1; (Out.rt ((decide ((first.1 * second.2) < (second.1 * first.2))))))
def m_is_less (a : E0_is_less) : Bool := (o_is_less a).ret
def g_is_less (a : E0_is_less) : Prop :=
  (let first := a.1; let second := a.2.1; ((True ∧ True ∧ (CMulW first.1 second.2)) ∧ (True ∧ True ∧ (CMulW second.1 first.2)) ∧ True))
theorem sc_is_less : FnScope ["first", "second"] ["first", "second"] (defScope (topS 14)) := ⟨rfl, rfl, rfl, by decide +kernel, rfl, by decide +kernel, by decide +kernel⟩
theorem b_is_less {K : Y.Frag} {mg : Str → Option Value} {ad : Nat → Addr} {fd : Nat → FuncData} (T : Tx K mg ad fd) : Binds K (fd 14) ["first", "second"] [] := T.F14.binds (ps := ["first", "second"]) fun _ _ _ _ _ _ us hl => match us, hl with | [_, _], _ => rfl
theorem f_is_less {P : Program} {w : World} {K : Y.Frag} {mg : Str → Option Value} {base : Heap} {ad : Nat → Addr} {fd : Nat → FuncData} (T : Tx K mg ad fd) : FnG P w K mg base 1 (ad 14) (fd 14) ["first", "second"] (spP K (ac (c2 cI cI) (ac (c2 cI cI) an)) cB g_is_less m_is_less) :=
  fn_pure T.F14 sc_is_less 0 (fun _ => rfl) rfl (owS := []) (ow' := []) (ΓS := fun _ : Empty => []) (Γ' := fun _ : Empty => []) (cr := cB) (ci := fun _ => []) (G := g_is_less) (d := o_is_less) (fun A0 cdv A outer s H E hr hg => by
    have hu : (A.deeper (envOfC _ (defScope (topS 14)) s.heap.objs.size _ cdv)).units + 64 < cLine := Nat.lt_of_le_of_lt (Nat.add_le_add_left (by decide) _) (room_un hr)
    have key : Dss (XF P w K mg base ["first", "second"] "is_less" (topS 14) (ad 14) cdv A outer s H E) ⟨A0, [], none⟩ [] (fun a : E0_is_less => ((ac (c2 cI cI) (ac (c2 cI cI) an)) a).map some ++ List.replicate 0 none) cB (fun _ => []) [] (fun _ : Empty => []) (defBody (topS 14)) _ _ [] (fun _ : Empty => []) := (s_one (s_ret (r := fun v (_ : E0_is_less) => v) (fun _ _ => rfl) rfl (d_cmp op_lt v_lt (d_op op_mulW v_mulW (d_prj 0 (fun x : Int × Int => x.1) (cb := cI) (fun _ => ⟨_, rfl, rfl⟩) (d_var 0 (fun q : E0_is_less => q.1) (c2 cI cI) (fun _ => rfl)) d_int) (d_prj 1 (fun x : Int × Int => x.2) (cb := cI) (fun _ => ⟨_, rfl, rfl⟩) (d_var 1 (fun q : E0_is_less => q.2.1) (c2 cI cI) (fun _ => rfl)) d_int)) (d_op op_mulW v_mulW (d_prj 0 (fun x : Int × Int => x.1) (cb := cI) (fun _ => ⟨_, rfl, rfl⟩) (d_var 1 (fun q : E0_is_less => q.2.1) (c2 cI cI) (fun _ => rfl)) d_int) (d_prj 1 (fun x : Int × Int => x.2) (cb := cI) (fun _ => ⟨_, rfl, rfl⟩) (d_var 0 (fun q : E0_is_less => q.1) (c2 cI cI) (fun _ => rfl)) d_int)) (nomark _))))
    exact dss_eq key (by kernel_rfl) (by kernel_rfl)) (fun _ h => h) (fun a _ => ends_ret (fun r => r) (fun _ => rfl) (o_is_less a))
abbrev E0_sum_of : Type := (List (Int × Int)) × Unit
abbrev E1_sum_of : Type := E0_sum_of × (Int × Int)
abbrev E2_sum_of : Type := Int × Int
abbrev E3_sum_of : Type := E2_sum_of × (Int × Int)
abbrev E4_sum_of : Type := E3_sum_of × (Int × Int)
abbrev E5_sum_of : Type := E1_sum_of × E2_sum_of
def k1_sum_of (q3 : E3_sum_of) : E2_sum_of :=
  (let total4 : Int × Int := (m_plus (q3.1, q3.2, ())); total4)
def kg1_sum_of (q3 : E3_sum_of) : Prop :=
  (((True ∧ (True ∧ True)) ∧ (g_plus (q3.1, q3.2, ()))) ∧ (let total4 : Int × Int := (m_plus (q3.1, q3.2, ())); True))
def o_sum_of (a : E0_sum_of) : Out Empty (Int × Int) Empty :=
  (let rows := a.1; (let total1 : Int × Int := ((0 : Int), (1 : Int)); (let l5 : E2_sum_of := (rows.foldl (fun m x => k1_sum_of (m, x)) total1); (Out.rt l5))))
def m_sum_of (a : E0_sum_of) : Int × Int := (o_sum_of a).ret
def g_sum_of (a : E0_sum_of) : Prop :=
  (let rows := a.1; ((True ∧ (True ∧ True)) ∧ (let total1 : Int × Int := ((0 : Int), (1 : Int)); ((True ∧ (forN kg1_sum_of k1_sum_of total1 rows)) ∧ (let l5 : E2_sum_of := (rows.foldl (fun m x => k1_sum_of (m, x)) total1); True)))))
theorem sc_sum_of : FnScope ["rows", "total", "row"] ["rows"] (defScope (topS 15)) := ⟨rfl, rfl, rfl, by decide +kernel, rfl, by decide +kernel, by decide +kernel⟩
theorem b_sum_of {K : Y.Frag} {mg : Str → Option Value} {ad : Nat → Addr} {fd : Nat → FuncData} (T : Tx K mg ad fd) : Binds K (fd 15) ["rows"] [] := T.F15.binds (ps := ["rows"]) fun _ _ _ _ _ _ us hl => match us, hl with | [_], _ => rfl
theorem f_sum_of {P : Program} {w : World} {K : Y.Frag} {mg : Str → Option Value} {base : Heap} {ad : Nat → Addr} {fd : Nat → FuncData} (T : Tx K mg ad fd) : FnG P w K mg base 4 (ad 15) (fd 15) ["rows"] (spP K (ac (cL (c2 cI cI)) an) (c2 cI cI) g_sum_of m_sum_of) :=
  fn_pure T.F15 sc_sum_of 2 (fun _ => rfl) rfl (owS := []) (ow' := []) (ΓS := fun _ : Empty => []) (Γ' := fun _ : Empty => []) (cr := (c2 cI cI)) (ci := fun _ => []) (G := g_sum_of) (d := o_sum_of) (fun A0 cdv A outer s H E hr hg => by
    have hu : (A.deeper (envOfC _ (defScope (topS 15)) s.heap.objs.size _ cdv)).units + 64 < cLine := Nat.lt_of_le_of_lt (Nat.add_le_add_left (by decide) _) (room_un hr)
    have key : Dss (XF P w K mg base ["rows", "total", "row"] "sum_of" (topS 15) (ad 15) cdv A outer s H E) ⟨A0, [], none⟩ [] (fun a : E0_sum_of => ((ac (cL (c2 cI cI)) an) a).map some ++ List.replicate 2 none) (c2 cI cI) (fun _ => []) [] (fun _ : Empty => []) (defBody (topS 15)) _ _ [] (fun _ : Empty => []) := (s_cons (s_asg 1 (d_tp2 (a_cons d_int (a_cons d_int a_nil))) (hN := sc_sum_of.nd)) (s_cons (s_forN (ΓL := (fun (e2 : E1_sum_of) (m : E2_sum_of) => [some ((cL (c2 cI cI)) e2.1.1), some ((c2 cI cI) m), none])) (fun q : E1_sum_of => q.2) (i_lst (d_var 0 (fun q : E1_sum_of => q.1.1) (cL (c2 cI cI)) (fun _ => rfl))) (fun _ _ _ _ r => r) (pg_name (i := 2) sc_sum_of.nd rfl (by first | exact .inl rfl | exact .inr rfl)) (tg_name 2) (fun e2 : E1_sum_of => (s_cons (s_asg 1 (d_call ((f_plus T).mono (by decide)) hr hg T.M12 T.F12.kp (b_plus T) (a_cons (d_var 1 (fun q : E3_sum_of => q.1) (c2 cI cI) (fun _ => rfl)) (a_cons (d_var 2 (fun q : E3_sum_of => q.2) (c2 cI cI) (fun _ => rfl)) a_nil))) (hN := sc_sum_of.nd)) (s_end (ow2 := []) (Γ2 := (fun m : E2_sum_of => [some ((cL (c2 cI cI)) e2.1.1), some ((c2 cI cI) m), none])) (fun q : E4_sum_of => q.2) (fun _ _ _ _ r => r.wk (.k (.k (.f .nil))))))) (fun _ _ => rfl) PassesOwn.never) (s_one (s_ret (r := fun v (_ : E5_sum_of) => v) (fun _ _ => rfl) rfl (d_var 1 (fun q : E5_sum_of => q.2) (c2 cI cI) (fun _ => rfl))))))
    exact dss_eq key (by kernel_rfl) (by kernel_rfl)) (fun _ h => h) (fun a _ => ends_ret (fun r => r) (fun _ => rfl) (o_sum_of a))
abbrev E0_check_lengths : Type := (List Int) × Unit
abbrev E1_check_lengths : Type := E0_check_lengths × Int
def o_check_lengths (a : E0_check_lengths) : Out Unit (Unit) Empty :=
  (let lengths := a.1; (Out.nx ()))
def m_check_lengths (a : E0_check_lengths) : Unit := ()
def g_check_lengths (a : E0_check_lengths) : Prop :=
  (let lengths := a.1; (((True ∧ ((!true) = false → (True ∧ ((True ∧ True) ∧ True) ∧ ((decide ((1 : Int) ≤ ((lengths).length : Int))) = true → True)))) ∧ ((!true) || (!(((decide ((1 : Int) ≤ ((lengths).length : Int))) && (decide (((lengths).length : Int) ≤ (10 : Int))))))) = false) ∧ (((((True ∧ (∀ x1 ∈ lengths, (((True ∧ True) ∧ (g_is_integer (x1, ()))) ∧ ((m_is_integer (x1, ())) = true → (True ∧ True ∧ ((decide ((1 : Int) ≤ x1)) = true → True)))))) ∧ True) ∧ True) ∧ (!((((lengths.map fun x1 => ((m_is_integer (x1, ())) && ((decide ((1 : Int) ≤ x1)) && (decide (x1 ≤ (1000000 : Int))))))).all id))) = false) ∧ True)))
theorem sc_check_lengths : FnScope ["lengths", "own"] ["lengths"] (defScope (topS 17)) := ⟨rfl, rfl, rfl, by decide +kernel, rfl, by decide +kernel, by decide +kernel⟩
theorem b_check_lengths {K : Y.Frag} {mg : Str → Option Value} {ad : Nat → Addr} {fd : Nat → FuncData} (T : Tx K mg ad fd) : Binds K (fd 17) ["lengths"] [] := T.F17.binds (ps := ["lengths"]) fun _ _ _ _ _ _ us hl => match us, hl with | [_], _ => rfl
theorem f_check_lengths {P : Program} {w : World} {K : Y.Frag} {mg : Str → Option Value} {base : Heap} {ad : Nat → Addr} {fd : Nat → FuncData} (T : Tx K mg ad fd) : FnG P w K mg base 2 (ad 17) (fd 17) ["lengths"] (spP K (ac (cT cI) an) cN g_check_lengths m_check_lengths) :=
  fn_pure T.F17 sc_check_lengths 1 (fun _ => rfl) rfl (owS := []) (ow' := []) (ΓS := fun _ : Empty => []) (Γ' := fun _ : Unit => [none, none]) (cr := cN) (ci := fun _ => []) (G := g_check_lengths) (d := o_check_lengths) (fun A0 cdv A outer s H E hr hg => by
    have hu : (A.deeper (envOfC _ (defScope (topS 17)) s.heap.objs.size _ cdv)).units + 64 < cLine := Nat.lt_of_le_of_lt (Nat.add_le_add_left (by decide) _) (room_un hr)
    have key : Dss (XF P w K mg base ["lengths", "own"] "check_lengths" (topS 17) (ad 17) cdv A outer s H E) ⟨A0, [], none⟩ [] (fun a : E0_check_lengths => ((ac (cT cI) an) a).map some ++ List.replicate 1 none) cN (fun _ => []) [] (fun _ : Empty => []) (defBody (topS 17)) _ _ [] (fun _ : Unit => [none, none]) := (s_ifX (Dw.dt (w_orP (t_not (t_val (d_isi (C := "tuple") (b := true) (d_var 0 (fun q : E0_check_lengths => q.1) (cT cI) (fun _ => rfl)) (ty_T fun _ => rfl) T.z_isinstance T.z_tuple (by decide +kernel) (by decide +kernel)))) (w_or1 (t_not (t_chain op_le op_le v_le v_le d_int (d_blt call_len_seq (v_len sq_T) T.z_len (by decide +kernel) (a_cons (d_var 0 (fun q : E0_check_lengths => q.1) (cT cI) (fun _ => rfl)) a_nil)) (d_glob (v := .int 10) (c := cI) (a := 10) T.c_MAX_LEGS.choose_spec ⟨_, rfl⟩ (fun _ _ => .int _))))))) (s_ifX (t_not (t_val (d_blt (cr_all rfl) v_allL T.z_all (by decide +kernel) (a_cons (DL.de (d_lc0 (i_tup (d_var 0 (fun q : E0_check_lengths => q.1) (cT cI) (fun _ => rfl))) (blkOk_by (N := ["lengths", "own"]) (sc := defScope (topS 17)) (own := [("own", 1)]) (by decide +kernel)) (tg_name 1) (fun _ _ _ _ _ => (pg_name (i := 1) sc_check_lengths.nd rfl (by first | exact .inl rfl | exact .inr rfl))) (fun _ _ _ _ _ _ => (d_and (d_call ((f_is_integer T).mono (by decide)) hr hg T.M5 T.F5.kp (b_is_integer T) (a_cons (d_var 1 (fun q : E1_check_lengths => q.2) cI (fun _ => rfl)) a_nil)) (d_one (d_chain op_le op_le v_le v_le d_int (d_var 1 (fun q : E1_check_lengths => q.2) cI (fun _ => rfl)) (d_glob (v := .int 1000000) (c := cI) (a := 1000000) T.c_MAX_LENGTH.choose_spec ⟨_, rfl⟩ (fun _ _ => .int _)))))) (own := [("own", 1)]) (hN := sc_check_lengths.nd))) a_nil)))) (s_end (ow2 := []) (Γ2 := fun _ : Unit => [none, none]) (fun _ : E0_check_lengths => ()) (fun _ _ _ _ r => r.wk (.f (.k .nil))))))
    exact dss_eq key (by kernel_rfl) (by kernel_rfl)) (fun _ h => h) (fun a _ => ends_und (o_check_lengths a))
abbrev E0_are_minutes : Type := (List Int) × (List Int) × Unit
abbrev E1_are_minutes : Type := E0_are_minutes × Int
def o_are_minutes (a : E0_are_minutes) : Out Empty (Bool) Empty :=
  (let value := a.1; let lengths := a.2.1; (if ((!true) || (!decide (((value).length : Int) = ((lengths).length : Int)))) = true then (Out.rt false) else (Out.rt ((((value.map fun x1 => ((m_is_integer (x1, ())) && ((decide ((1 : Int) ≤ x1)) && (decide (x1 ≤ (1000 : Int))))))).all id)))))
def m_are_minutes (a : E0_are_minutes) : Bool := (o_are_minutes a).ret
def g_are_minutes (a : E0_are_minutes) : Prop :=
  (let value := a.1; let lengths := a.2.1; ((True ∧ ((!true) = false → (((True ∧ True) ∧ True) ∧ ((True ∧ True) ∧ True) ∧ True))) ∧ (((!true) || (!decide (((value).length : Int) = ((lengths).length : Int)))) = true → True) ∧ (((!true) || (!decide (((value).length : Int) = ((lengths).length : Int)))) = false → (((True ∧ (∀ x1 ∈ value, (((True ∧ True) ∧ (g_is_integer (x1, ()))) ∧ ((m_is_integer (x1, ())) = true → (True ∧ True ∧ ((decide ((1 : Int) ≤ x1)) = true → True)))))) ∧ True) ∧ True))))
theorem sc_are_minutes : FnScope ["value", "lengths", "own"] ["value", "lengths"] (defScope (topS 18)) := ⟨rfl, rfl, rfl, by decide +kernel, rfl, by decide +kernel, by decide +kernel⟩
theorem b_are_minutes {K : Y.Frag} {mg : Str → Option Value} {ad : Nat → Addr} {fd : Nat → FuncData} (T : Tx K mg ad fd) : Binds K (fd 18) ["value", "lengths"] [] := T.F18.binds (ps := ["value", "lengths"]) fun _ _ _ _ _ _ us hl => match us, hl with | [_, _], _ => rfl
theorem f_are_minutes {P : Program} {w : World} {K : Y.Frag} {mg : Str → Option Value} {base : Heap} {ad : Nat → Addr} {fd : Nat → FuncData} (T : Tx K mg ad fd) : FnG P w K mg base 2 (ad 18) (fd 18) ["value", "lengths"] (spP K (ac (cT cI) (ac (cT cI) an)) cB g_are_minutes m_are_minutes) :=
  fn_pure T.F18 sc_are_minutes 1 (fun _ => rfl) rfl (owS := []) (ow' := []) (ΓS := fun _ : Empty => []) (Γ' := fun _ : Empty => []) (cr := cB) (ci := fun _ => []) (G := g_are_minutes) (d := o_are_minutes) (fun A0 cdv A outer s H E hr hg => by
    have hu : (A.deeper (envOfC _ (defScope (topS 18)) s.heap.objs.size _ cdv)).units + 64 < cLine := Nat.lt_of_le_of_lt (Nat.add_le_add_left (by decide) _) (room_un hr)
    have key : Dss (XF P w K mg base ["value", "lengths", "own"] "are_minutes" (topS 18) (ad 18) cdv A outer s H E) ⟨A0, [], none⟩ [] (fun a : E0_are_minutes => ((ac (cT cI) (ac (cT cI) an)) a).map some ++ List.replicate 1 none) cB (fun _ => []) [] (fun _ : Empty => []) (defBody (topS 18)) _ _ [] (fun _ : Empty => []) := (s_ifR (Dw.dt (w_orP (t_not (t_val (d_isi (C := "tuple") (b := true) (d_var 0 (fun q : E0_are_minutes => q.1) (cT cI) (fun _ => rfl)) (ty_T fun _ => rfl) T.z_isinstance T.z_tuple (by decide +kernel) (by decide +kernel)))) (w_or1 (t_cmp op_ne v_neI (d_blt call_len_seq (v_len sq_T) T.z_len (by decide +kernel) (a_cons (d_var 0 (fun q : E0_are_minutes => q.1) (cT cI) (fun _ => rfl)) a_nil)) (d_blt call_len_seq (v_len sq_T) T.z_len (by decide +kernel) (a_cons (d_var 1 (fun q : E0_are_minutes => q.2.1) (cT cI) (fun _ => rfl)) a_nil)) (nomark _))))) (s_one (s_ret (r := fun v (_ : E0_are_minutes) => v) (fun _ _ => rfl) rfl d_bl)) (by intro ε n; (repeat' (first | (intro h; nomatch h) | split))) (s_one (s_ret (r := fun v (_ : E0_are_minutes) => v) (fun _ _ => rfl) rfl (d_blt (cr_all rfl) v_allL T.z_all (by decide +kernel) (a_cons (DL.de (d_lc0 (i_tup (d_var 0 (fun q : E0_are_minutes => q.1) (cT cI) (fun _ => rfl))) (blkOk_by (N := ["value", "lengths", "own"]) (sc := defScope (topS 18)) (own := [("own", 2)]) (by decide +kernel)) (tg_name 2) (fun _ _ _ _ _ => (pg_name (i := 2) sc_are_minutes.nd rfl (by first | exact .inl rfl | exact .inr rfl))) (fun _ _ _ _ _ _ => (d_and (d_call ((f_is_integer T).mono (by decide)) hr hg T.M5 T.F5.kp (b_is_integer T) (a_cons (d_var 2 (fun q : E1_are_minutes => q.2) cI (fun _ => rfl)) a_nil)) (d_one (d_chain op_le op_le v_le v_le d_int (d_var 2 (fun q : E1_are_minutes => q.2) cI (fun _ => rfl)) (d_glob (v := .int 1000) (c := cI) (a := 1000) T.c_MAX_MINUTES.choose_spec ⟨_, rfl⟩ (fun _ _ => .int _)))))) (own := [("own", 2)]) (hN := sc_are_minutes.nd))) a_nil)))))
    exact dss_eq key (by kernel_rfl) (by kernel_rfl)) (fun _ h => h) (fun a _ => ends_ret (fun r => r) (fun _ => rfl) (o_are_minutes a))
abbrev E0_check_minutes : Type := (List Int) × (List Int) × Unit
def o_check_minutes (a : E0_check_minutes) : Out Unit (Unit) Empty :=
  (let lengths := a.1; let minutes := a.2.1; (Out.nx ()))
def m_check_minutes (a : E0_check_minutes) : Unit := ()
def g_check_minutes (a : E0_check_minutes) : Prop :=
  (let lengths := a.1; let minutes := a.2.1; (((True ∧ True) ∧ (g_check_lengths (lengths, ()))) ∧ ((((True ∧ (True ∧ True)) ∧ (g_are_minutes (minutes, lengths, ()))) ∧ (!((m_are_minutes (minutes, lengths, ())))) = false) ∧ True)))
theorem sc_check_minutes : FnScope ["lengths", "minutes"] ["lengths", "minutes"] (defScope (topS 19)) := ⟨rfl, rfl, rfl, by decide +kernel, rfl, by decide +kernel, by decide +kernel⟩
theorem b_check_minutes {K : Y.Frag} {mg : Str → Option Value} {ad : Nat → Addr} {fd : Nat → FuncData} (T : Tx K mg ad fd) : Binds K (fd 19) ["lengths", "minutes"] [] := T.F19.binds (ps := ["lengths", "minutes"]) fun _ _ _ _ _ _ us hl => match us, hl with | [_, _], _ => rfl
theorem f_check_minutes {P : Program} {w : World} {K : Y.Frag} {mg : Str → Option Value} {base : Heap} {ad : Nat → Addr} {fd : Nat → FuncData} (T : Tx K mg ad fd) : FnG P w K mg base 3 (ad 19) (fd 19) ["lengths", "minutes"] (spP K (ac (cT cI) (ac (cT cI) an)) cN g_check_minutes m_check_minutes) :=
  fn_pure T.F19 sc_check_minutes 0 (fun _ => rfl) rfl (owS := []) (ow' := []) (ΓS := fun _ : Empty => []) (Γ' := fun _ : Unit => [none, none]) (cr := cN) (ci := fun _ => []) (G := g_check_minutes) (d := o_check_minutes) (fun A0 cdv A outer s H E hr hg => by
    have hu : (A.deeper (envOfC _ (defScope (topS 19)) s.heap.objs.size _ cdv)).units + 64 < cLine := Nat.lt_of_le_of_lt (Nat.add_le_add_left (by decide) _) (room_un hr)
    have key : Dss (XF P w K mg base ["lengths", "minutes"] "check_minutes" (topS 19) (ad 19) cdv A outer s H E) ⟨A0, [], none⟩ [] (fun a : E0_check_minutes => ((ac (cT cI) (ac (cT cI) an)) a).map some ++ List.replicate 0 none) cN (fun _ => []) [] (fun _ : Empty => []) (defBody (topS 19)) _ _ [] (fun _ : Unit => [none, none]) := (s_cons (s_drop (d_call ((f_check_lengths T).mono (by decide)) hr hg T.M17 T.F17.kp (b_check_lengths T) (a_cons (d_var 0 (fun q : E0_check_minutes => q.1) (cT cI) (fun _ => rfl)) a_nil))) (s_ifX (t_not (t_val (d_call ((f_are_minutes T).mono (by decide)) hr hg T.M18 T.F18.kp (b_are_minutes T) (a_cons (d_var 1 (fun q : E0_check_minutes => q.2.1) (cT cI) (fun _ => rfl)) (a_cons (d_var 0 (fun q : E0_check_minutes => q.1) (cT cI) (fun _ => rfl)) a_nil))))) (s_end (ow2 := []) (Γ2 := fun _ : Unit => [none, none]) (fun _ : E0_check_minutes => ()) (fun _ _ _ _ r => r.wk (.f (.f .nil))))))
    exact dss_eq key (by kernel_rfl) (by kernel_rfl)) (fun _ h => h) (fun a _ => ends_und (o_check_minutes a))
abbrev E0_fuel_in : Type := Int × Int × Unit
def o_fuel_in (a : E0_fuel_in) : Out Empty (Int × Int) Empty :=
  (let length := a.1; let minutes := a.2.1; (Out.rt ((m_quotient (((length * length) * length), (minutes * minutes), ())))))
def m_fuel_in (a : E0_fuel_in) : Int × Int := (o_fuel_in a).ret
def g_fuel_in (a : E0_fuel_in) : Prop :=
  (let length := a.1; let minutes := a.2.1; ((((True ∧ True ∧ (CMulW length length)) ∧ True ∧ (CMulW ((length * length)) length)) ∧ ((True ∧ True ∧ (CMulW minutes minutes)) ∧ True)) ∧ (g_quotient (((length * length) * length), (minutes * minutes), ()))))
theorem sc_fuel_in : FnScope ["length", "minutes"] ["length", "minutes"] (defScope (topS 20)) := ⟨rfl, rfl, rfl, by decide +kernel, rfl, by decide +kernel, by decide +kernel⟩
theorem b_fuel_in {K : Y.Frag} {mg : Str → Option Value} {ad : Nat → Addr} {fd : Nat → FuncData} (T : Tx K mg ad fd) : Binds K (fd 20) ["length", "minutes"] [] := T.F20.binds (ps := ["length", "minutes"]) fun _ _ _ _ _ _ us hl => match us, hl with | [_, _], _ => rfl
theorem f_fuel_in {P : Program} {w : World} {K : Y.Frag} {mg : Str → Option Value} {base : Heap} {ad : Nat → Addr} {fd : Nat → FuncData} (T : Tx K mg ad fd) : FnG P w K mg base 3 (ad 20) (fd 20) ["length", "minutes"] (spP K (ac cI (ac cI an)) (c2 cI cI) g_fuel_in m_fuel_in) :=
  fn_pure T.F20 sc_fuel_in 0 (fun _ => rfl) rfl (owS := []) (ow' := []) (ΓS := fun _ : Empty => []) (Γ' := fun _ : Empty => []) (cr := (c2 cI cI)) (ci := fun _ => []) (G := g_fuel_in) (d := o_fuel_in) (fun A0 cdv A outer s H E hr hg => by
    have hu : (A.deeper (envOfC _ (defScope (topS 20)) s.heap.objs.size _ cdv)).units + 64 < cLine := Nat.lt_of_le_of_lt (Nat.add_le_add_left (by decide) _) (room_un hr)
    have key : Dss (XF P w K mg base ["length", "minutes"] "fuel_in" (topS 20) (ad 20) cdv A outer s H E) ⟨A0, [], none⟩ [] (fun a : E0_fuel_in => ((ac cI (ac cI an)) a).map some ++ List.replicate 0 none) (c2 cI cI) (fun _ => []) [] (fun _ : Empty => []) (defBody (topS 20)) _ _ [] (fun _ : Empty => []) := (s_one (s_ret (r := fun v (_ : E0_fuel_in) => v) (fun _ _ => rfl) rfl (d_call ((f_quotient T).mono (by decide)) hr hg T.M11 T.F11.kp (b_quotient T) (a_cons (d_op op_mulW v_mulW (d_op op_mulW v_mulW (d_var 0 (fun q : E0_fuel_in => q.1) cI (fun _ => rfl)) (d_var 0 (fun q : E0_fuel_in => q.1) cI (fun _ => rfl))) (d_var 0 (fun q : E0_fuel_in => q.1) cI (fun _ => rfl))) (a_cons (d_op op_mulW v_mulW (d_var 1 (fun q : E0_fuel_in => q.2.1) cI (fun _ => rfl)) (d_var 1 (fun q : E0_fuel_in => q.2.1) cI (fun _ => rfl))) a_nil)))))
    exact dss_eq key (by kernel_rfl) (by kernel_rfl)) (fun _ h => h) (fun a _ => ends_ret (fun r => r) (fun _ => rfl) (o_fuel_in a))
abbrev E0_fuel_for : Type := (List Int) × (List Int) × Unit
abbrev E1_fuel_for : Type := E0_fuel_for × (Int × Int)
def o_fuel_for (a : E0_fuel_for) : Out Empty (Int × Int) Empty :=
  (let lengths := a.1; let minutes := a.2.1; (Out.rt ((m_sum_of ((((lengths.zip minutes)).map fun x1 => (m_fuel_in (x1.1, x1.2, ()))), ())))))
def m_fuel_for (a : E0_fuel_for) : Int × Int := (o_fuel_for a).ret
def g_fuel_for (a : E0_fuel_for) : Prop :=
  (let lengths := a.1; let minutes := a.2.1; (((True ∧ (True ∧ True)) ∧ (g_check_minutes (lengths, minutes, ()))) ∧ ((((True ∧ (True ∧ True)) ∧ (∀ x1 ∈ (lengths.zip minutes), ((True ∧ (True ∧ True)) ∧ (g_fuel_in (x1.1, x1.2, ()))))) ∧ True) ∧ (g_sum_of ((((lengths.zip minutes)).map fun x1 => (m_fuel_in (x1.1, x1.2, ()))), ())))))
theorem sc_fuel_for : FnScope ["lengths", "minutes", "length", "own"] ["lengths", "minutes"] (defScope (topS 21)) := ⟨rfl, rfl, rfl, by decide +kernel, rfl, by decide +kernel, by decide +kernel⟩
theorem b_fuel_for {K : Y.Frag} {mg : Str → Option Value} {ad : Nat → Addr} {fd : Nat → FuncData} (T : Tx K mg ad fd) : Binds K (fd 21) ["lengths", "minutes"] [] := T.F21.binds (ps := ["lengths", "minutes"]) fun _ _ _ _ _ _ us hl => match us, hl with | [_, _], _ => rfl
theorem f_fuel_for {P : Program} {w : World} {K : Y.Frag} {mg : Str → Option Value} {base : Heap} {ad : Nat → Addr} {fd : Nat → FuncData} (T : Tx K mg ad fd) : FnG P w K mg base 5 (ad 21) (fd 21) ["lengths", "minutes"] (spP K (ac (cT cI) (ac (cT cI) an)) (c2 cI cI) g_fuel_for m_fuel_for) :=
  fn_pure T.F21 sc_fuel_for 2 (fun _ => rfl) rfl (owS := []) (ow' := []) (ΓS := fun _ : Empty => []) (Γ' := fun _ : Empty => []) (cr := (c2 cI cI)) (ci := fun _ => []) (G := g_fuel_for) (d := o_fuel_for) (fun A0 cdv A outer s H E hr hg => by
    have hu : (A.deeper (envOfC _ (defScope (topS 21)) s.heap.objs.size _ cdv)).units + 64 < cLine := Nat.lt_of_le_of_lt (Nat.add_le_add_left (by decide) _) (room_un hr)
    have key : Dss (XF P w K mg base ["lengths", "minutes", "length", "own"] "fuel_for" (topS 21) (ad 21) cdv A outer s H E) ⟨A0, [], none⟩ [] (fun a : E0_fuel_for => ((ac (cT cI) (ac (cT cI) an)) a).map some ++ List.replicate 2 none) (c2 cI cI) (fun _ => []) [] (fun _ : Empty => []) (defBody (topS 21)) _ _ [] (fun _ : Empty => []) := (s_cons (s_drop (d_call ((f_check_minutes T).mono (by decide)) hr hg T.M19 T.F19.kp (b_check_minutes T) (a_cons (d_var 0 (fun q : E0_fuel_for => q.1) (cT cI) (fun _ => rfl)) (a_cons (d_var 1 (fun q : E0_fuel_for => q.2.1) (cT cI) (fun _ => rfl)) a_nil)))) (s_one (s_ret (r := fun v (_ : E0_fuel_for) => v) (fun _ _ => rfl) rfl (d_call ((f_sum_of T).mono (by decide)) hr hg T.M15 T.F15.kp (b_sum_of T) (a_cons (DL.de (d_lc0 (i_zipT (a_cons (d_var 0 (fun q : E0_fuel_for => q.1) (cT cI) (fun _ => rfl)) (a_cons (d_var 1 (fun q : E0_fuel_for => q.2.1) (cT cI) (fun _ => rfl)) a_nil)) T.z_zip) (blkOk_by (N := ["lengths", "minutes", "length", "own"]) (sc := defScope (topS 21)) (own := [("length", 2), ("own", 3)]) (by decide +kernel)) (tg_pair 2 3) (fun _ _ _ _ _ => (pg_tup rfl (pgs_cons (pg_name (i := 2) sc_fuel_for.nd rfl (by first | exact .inl rfl | exact .inr rfl)) (pgs_cons (pg_name (i := 3) sc_fuel_for.nd rfl (by first | exact .inl rfl | exact .inr rfl)) pgs_nil)))) (fun _ _ _ _ _ _ => (d_call ((f_fuel_in T).mono (by decide)) hr hg T.M20 T.F20.kp (b_fuel_in T) (a_cons (d_var 2 (fun q : E1_fuel_for => q.2.1) cI (fun _ => rfl)) (a_cons (d_var 3 (fun q : E1_fuel_for => q.2.2) cI (fun _ => rfl)) a_nil)))) (own := [("length", 2), ("own", 3)]) (hN := sc_fuel_for.nd))) a_nil)))))
    exact dss_eq key (by kernel_rfl) (by kernel_rfl)) (fun _ h => h) (fun a _ => ends_ret (fun r => r) (fun _ => rfl) (o_fuel_for a))
abbrev E0_judge_even : Type := (List Int) × (List Int) × Unit
abbrev E1_judge_even : Type := E0_judge_even × (Int × Int)
abbrev E2_judge_even : Type := E0_judge_even × (List (Int × Int))
abbrev E3_judge_even : Type := Unit
abbrev E4_judge_even : Type := E3_judge_even × (Int × (Int × Int))
abbrev E5_judge_even : Type := E2_judge_even × E3_judge_even
def k1_judge_even (speeds2 : List (Int × Int)) (q4 : E4_judge_even) : Out E3_judge_even (PySem.Str × PyData) E3_judge_even :=
  (if (!PyData.eqv ((c2 cI cI) q4.2.2) ((c2 cI cI) ((ixD speeds2 ((0 : Int)))))) = true then (Out.rt (((PySem.Str.ofString "uneven"), (cI q4.2.1)))) else (Out.nx (())))
def kg1_judge_even (speeds2 : List (Int × Int)) (q4 : E4_judge_even) : Prop :=
  ((True ∧ (True ∧ True ∧ (CIx speeds2 ((0 : Int)))) ∧ True) ∧ ((!PyData.eqv ((c2 cI cI) q4.2.2) ((c2 cI cI) ((ixD speeds2 ((0 : Int)))))) = true → (True ∧ (True ∧ True))) ∧ ((!PyData.eqv ((c2 cI cI) q4.2.2) ((c2 cI cI) ((ixD speeds2 ((0 : Int)))))) = false → True))
def o_judge_even (a : E0_judge_even) : Out Empty (PySem.Str × PyData) Empty :=
  (let lengths := a.1; let minutes := a.2.1; (let speeds2 : List (Int × Int) := (((lengths.zip minutes)).map fun x1 => (m_quotient (x1.1, x1.2, ()))); ((forO (k1_judge_even speeds2) () (enum speeds2)).bind (fun l5 : E3_judge_even => (Out.rt (((PySem.Str.ofString "even"), ((c2 cI cI) ((ixD speeds2 ((0 : Int))))))))))))
def m_judge_even (a : E0_judge_even) : PySem.Str × PyData := (o_judge_even a).ret
def g_judge_even (a : E0_judge_even) : Prop :=
  (let lengths := a.1; let minutes := a.2.1; (((True ∧ (True ∧ True)) ∧ (g_check_minutes (lengths, minutes, ()))) ∧ (((True ∧ (True ∧ True)) ∧ (∀ x1 ∈ (lengths.zip minutes), ((True ∧ (True ∧ True)) ∧ (g_quotient (x1.1, x1.2, ()))))) ∧ (let speeds2 : List (Int × Int) := (((lengths.zip minutes)).map fun x1 => (m_quotient (x1.1, x1.2, ()))); ((True ∧ (forG (kg1_judge_even speeds2) (k1_judge_even speeds2) () (enum speeds2))) ∧ (∀ l5 : E3_judge_even, (forO (k1_judge_even speeds2) () (enum speeds2)) = Out.nx (S := Empty) l5 → (True ∧ ((True ∧ True ∧ (CIx speeds2 ((0 : Int)))) ∧ True))))))))
theorem sc_judge_even : FnScope ["lengths", "minutes", "speeds", "at", "speed", "length", "own"] ["lengths", "minutes"] (defScope (topS 22)) := ⟨rfl, rfl, rfl, by decide +kernel, rfl, by decide +kernel, by decide +kernel⟩
theorem b_judge_even {K : Y.Frag} {mg : Str → Option Value} {ad : Nat → Addr} {fd : Nat → FuncData} (T : Tx K mg ad fd) : Binds K (fd 22) ["lengths", "minutes"] [] := T.F22.binds (ps := ["lengths", "minutes"]) fun _ _ _ _ _ _ us hl => match us, hl with | [_, _], _ => rfl
theorem f_judge_even {P : Program} {w : World} {K : Y.Frag} {mg : Str → Option Value} {base : Heap} {ad : Nat → Addr} {fd : Nat → FuncData} (T : Tx K mg ad fd) : FnG P w K mg base 4 (ad 22) (fd 22) ["lengths", "minutes"] (spP K (ac (cT cI) (ac (cT cI) an)) (c2 cS cD) g_judge_even m_judge_even) :=
  fn_pure T.F22 sc_judge_even 5 (fun _ => rfl) rfl (owS := []) (ow' := []) (ΓS := fun _ : Empty => []) (Γ' := fun _ : Empty => []) (cr := (c2 cS cD)) (ci := fun _ => []) (G := g_judge_even) (d := o_judge_even) (fun A0 cdv A outer s H E hr hg => by
    have hu : (A.deeper (envOfC _ (defScope (topS 22)) s.heap.objs.size _ cdv)).units + 64 < cLine := Nat.lt_of_le_of_lt (Nat.add_le_add_left (by decide) _) (room_un hr)
    have key : Dss (XF P w K mg base ["lengths", "minutes", "speeds", "at", "speed", "length", "own"] "judge_even" (topS 22) (ad 22) cdv A outer s H E) ⟨A0, [], none⟩ [] (fun a : E0_judge_even => ((ac (cT cI) (ac (cT cI) an)) a).map some ++ List.replicate 5 none) (c2 cS cD) (fun _ => []) [] (fun _ : Empty => []) (defBody (topS 22)) _ _ [] (fun _ : Empty => []) := (s_cons (s_drop (d_call ((f_check_minutes T).mono (by decide)) hr hg T.M19 T.F19.kp (b_check_minutes T) (a_cons (d_var 0 (fun q : E0_judge_even => q.1) (cT cI) (fun _ => rfl)) (a_cons (d_var 1 (fun q : E0_judge_even => q.2.1) (cT cI) (fun _ => rfl)) a_nil)))) (s_cons (s_asgLc0 2 (sw_true rfl rfl rfl (by decide +kernel)) (i_zipT (a_cons (d_var 0 (fun q : E0_judge_even => q.1) (cT cI) (fun _ => rfl)) (a_cons (d_var 1 (fun q : E0_judge_even => q.2.1) (cT cI) (fun _ => rfl)) a_nil)) T.z_zip) (blkOk_by (N := ["lengths", "minutes", "speeds", "at", "speed", "length", "own"]) (sc := defScope (topS 22)) (own := [("length", 5), ("own", 6)]) (by decide +kernel)) (tg_pair 5 6) (fun _ _ _ _ _ => (pg_tup rfl (pgs_cons (pg_name (i := 5) sc_judge_even.nd rfl (by first | exact .inl rfl | exact .inr rfl)) (pgs_cons (pg_name (i := 6) sc_judge_even.nd rfl (by first | exact .inl rfl | exact .inr rfl)) pgs_nil)))) (fun _ _ _ _ _ _ => (d_call ((f_quotient T).mono (by decide)) hr hg T.M11 T.F11.kp (b_quotient T) (a_cons (d_var 5 (fun q : E1_judge_even => q.2.1) cI (fun _ => rfl)) (a_cons (d_var 6 (fun q : E1_judge_even => q.2.2) cI (fun _ => rfl)) a_nil)))) (own := [("length", 5), ("own", 6)]) (hN := sc_judge_even.nd)) (s_consK (s_forP (ΓL := (fun (e3 : E2_judge_even) (m : E3_judge_even) => [some ((cT cI) e3.1.1), some ((cT cI) e3.1.2.1), some ((cL (c2 cI cI)) e3.2), none, none, none, none])) (fun q : E2_judge_even => ()) (i_enumL (d_var 2 (fun q : E2_judge_even => q.2) (cL (c2 cI cI)) (fun _ => rfl)) T.z_enumerate) (fun _ _ _ _ r => r) (pg_tup rfl (pgs_cons (pg_name (i := 3) sc_judge_even.nd rfl (by first | exact .inl rfl | exact .inr rfl)) (pgs_cons (pg_name (i := 4) sc_judge_even.nd rfl (by first | exact .inl rfl | exact .inr rfl)) pgs_nil))) (tg_pair 3 4) (fun e3 : E2_judge_even => (s_ifR (t_cmp (op_neD hu) (v_neD (cq_2 cq_I cq_I) (cq_2 cq_I cq_I)) (d_var 4 (fun q : E4_judge_even => q.2.2) (c2 cI cI) (fun _ => rfl)) (d_ix ix_list v_ixL (d_var 2 (fun q : E4_judge_even => e3.2) (cL (c2 cI cI)) (fun _ => rfl)) d_int) (nomark _)) (s_one (s_ret (r := fun v (_ : E4_judge_even) => v) (fun _ _ => rfl) rfl (d_tp2 (a_cons d_str (a_cons (De.as (c := cI) (c' := cD) (g := fun x : Int => (cI x)) (fun _ => rfl) (d_var 3 (fun q : E4_judge_even => q.2.1) cI (fun _ => rfl))) a_nil))))) (by intro ε n; (repeat' (first | (intro h; nomatch h) | split))) (s_end (ow2 := []) (Γ2 := (fun m : E3_judge_even => [some ((cT cI) e3.1.1), some ((cT cI) e3.1.2.1), some ((cL (c2 cI cI)) e3.2), none, none, none, none])) (fun q : E4_judge_even => ()) (fun _ _ _ _ r => r.wk (.k (.k (.k (.f (.f (.k (.k .nil))))))))))) PassesOwn.never) (s_one (s_ret (r := fun v (_ : E5_judge_even) => v) (fun _ _ => rfl) rfl (d_tp2 (a_cons d_str (a_cons (De.as (c := (c2 cI cI)) (c' := cD) (g := fun x : Int × Int => ((c2 cI cI) x)) (fun _ => rfl) (d_ix ix_list v_ixL (d_var 2 (fun q : E5_judge_even => q.1.2) (cL (c2 cI cI)) (fun _ => rfl)) d_int)) a_nil))))))))
    exact dss_eq key (by kernel_rfl) (by kernel_rfl)) (fun _ h => h) (fun a _ => ends_ret (fun r => r) (fun _ => rfl) (o_judge_even a))
abbrev E0_fuel_wasted : Type := (List Int) × (List Int) × Unit
abbrev E1_fuel_wasted : Type := E0_fuel_wasted × (Int × Int)
def o_fuel_wasted (a : E0_fuel_wasted) : Out Empty (Int × Int) Empty :=
  (let lengths := a.1; let minutes := a.2.1; (let used1 : Int × Int := (m_fuel_for (lengths, minutes, ())); (Out.rt ((m_minus (used1, (m_fuel_in ((lengths.sum), (minutes.sum), ())), ()))))))
def m_fuel_wasted (a : E0_fuel_wasted) : Int × Int := (o_fuel_wasted a).ret
def g_fuel_wasted (a : E0_fuel_wasted) : Prop :=
  (let lengths := a.1; let minutes := a.2.1; (((True ∧ (True ∧ True)) ∧ (g_fuel_for (lengths, minutes, ()))) ∧ (let used1 : Int × Int := (m_fuel_for (lengths, minutes, ())); ((True ∧ (((((True ∧ True) ∧ True) ∧ (((True ∧ True) ∧ True) ∧ True)) ∧ (g_fuel_in ((lengths.sum), (minutes.sum), ()))) ∧ True)) ∧ (g_minus (used1, (m_fuel_in ((lengths.sum), (minutes.sum), ())), ()))))))
theorem sc_fuel_wasted : FnScope ["lengths", "minutes", "used"] ["lengths", "minutes"] (defScope (topS 23)) := ⟨rfl, rfl, rfl, by decide +kernel, rfl, by decide +kernel, by decide +kernel⟩
theorem b_fuel_wasted {K : Y.Frag} {mg : Str → Option Value} {ad : Nat → Addr} {fd : Nat → FuncData} (T : Tx K mg ad fd) : Binds K (fd 23) ["lengths", "minutes"] [] := T.F23.binds (ps := ["lengths", "minutes"]) fun _ _ _ _ _ _ us hl => match us, hl with | [_, _], _ => rfl
theorem f_fuel_wasted {P : Program} {w : World} {K : Y.Frag} {mg : Str → Option Value} {base : Heap} {ad : Nat → Addr} {fd : Nat → FuncData} (T : Tx K mg ad fd) : FnG P w K mg base 6 (ad 23) (fd 23) ["lengths", "minutes"] (spP K (ac (cT cI) (ac (cT cI) an)) (c2 cI cI) g_fuel_wasted m_fuel_wasted) :=
  fn_pure T.F23 sc_fuel_wasted 1 (fun _ => rfl) rfl (owS := []) (ow' := []) (ΓS := fun _ : Empty => []) (Γ' := fun _ : Empty => []) (cr := (c2 cI cI)) (ci := fun _ => []) (G := g_fuel_wasted) (d := o_fuel_wasted) (fun A0 cdv A outer s H E hr hg => by
    have hu : (A.deeper (envOfC _ (defScope (topS 23)) s.heap.objs.size _ cdv)).units + 64 < cLine := Nat.lt_of_le_of_lt (Nat.add_le_add_left (by decide) _) (room_un hr)
    have key : Dss (XF P w K mg base ["lengths", "minutes", "used"] "fuel_wasted" (topS 23) (ad 23) cdv A outer s H E) ⟨A0, [], none⟩ [] (fun a : E0_fuel_wasted => ((ac (cT cI) (ac (cT cI) an)) a).map some ++ List.replicate 1 none) (c2 cI cI) (fun _ => []) [] (fun _ : Empty => []) (defBody (topS 23)) _ _ [] (fun _ : Empty => []) := (s_cons (s_asg 2 (d_call ((f_fuel_for T).mono (by decide)) hr hg T.M21 T.F21.kp (b_fuel_for T) (a_cons (d_var 0 (fun q : E0_fuel_wasted => q.1) (cT cI) (fun _ => rfl)) (a_cons (d_var 1 (fun q : E0_fuel_wasted => q.2.1) (cT cI) (fun _ => rfl)) a_nil))) (hN := sc_fuel_wasted.nd)) (s_one (s_ret (r := fun v (_ : E1_fuel_wasted) => v) (fun _ _ => rfl) rfl (d_call ((f_minus T).mono (by decide)) hr hg T.M13 T.F13.kp (b_minus T) (a_cons (d_var 2 (fun q : E1_fuel_wasted => q.2) (c2 cI cI) (fun _ => rfl)) (a_cons (d_call ((f_fuel_in T).mono (by decide)) hr hg T.M20 T.F20.kp (b_fuel_in T) (a_cons (d_blt (cr_sumT rfl) v_sumT T.z_sum (by decide +kernel) (a_cons (d_var 0 (fun q : E1_fuel_wasted => q.1.1) (cT cI) (fun _ => rfl)) a_nil)) (a_cons (d_blt (cr_sumT rfl) v_sumT T.z_sum (by decide +kernel) (a_cons (d_var 1 (fun q : E1_fuel_wasted => q.1.2.1) (cT cI) (fun _ => rfl)) a_nil)) a_nil))) a_nil))))))
    exact dss_eq key (by kernel_rfl) (by kernel_rfl)) (fun _ h => h) (fun a _ => ends_ret (fun r => r) (fun _ => rfl) (o_fuel_wasted a))
abbrev E0_gain_of : Type := Int × Int × Unit
def o_gain_of (a : E0_gain_of) : Out Empty (Int × Int) Empty :=
  (let length := a.1; let minutes := a.2.1; (Out.rt ((m_minus ((m_fuel_in (length, minutes, ())), (m_fuel_in (length, (minutes + (1 : Int)), ())), ())))))
def m_gain_of (a : E0_gain_of) : Int × Int := (o_gain_of a).ret
def g_gain_of (a : E0_gain_of) : Prop :=
  (let length := a.1; let minutes := a.2.1; ((((True ∧ (True ∧ True)) ∧ (g_fuel_in (length, minutes, ()))) ∧ (((True ∧ ((True ∧ True ∧ True) ∧ True)) ∧ (g_fuel_in (length, (minutes + (1 : Int)), ()))) ∧ True)) ∧ (g_minus ((m_fuel_in (length, minutes, ())), (m_fuel_in (length, (minutes + (1 : Int)), ())), ()))))
theorem sc_gain_of : FnScope ["length", "minutes"] ["length", "minutes"] (defScope (topS 24)) := ⟨rfl, rfl, rfl, by decide +kernel, rfl, by decide +kernel, by decide +kernel⟩
theorem b_gain_of {K : Y.Frag} {mg : Str → Option Value} {ad : Nat → Addr} {fd : Nat → FuncData} (T : Tx K mg ad fd) : Binds K (fd 24) ["length", "minutes"] [] := T.F24.binds (ps := ["length", "minutes"]) fun _ _ _ _ _ _ us hl => match us, hl with | [_, _], _ => rfl
theorem f_gain_of {P : Program} {w : World} {K : Y.Frag} {mg : Str → Option Value} {base : Heap} {ad : Nat → Addr} {fd : Nat → FuncData} (T : Tx K mg ad fd) : FnG P w K mg base 4 (ad 24) (fd 24) ["length", "minutes"] (spP K (ac cI (ac cI an)) (c2 cI cI) g_gain_of m_gain_of) :=
  fn_pure T.F24 sc_gain_of 0 (fun _ => rfl) rfl (owS := []) (ow' := []) (ΓS := fun _ : Empty => []) (Γ' := fun _ : Empty => []) (cr := (c2 cI cI)) (ci := fun _ => []) (G := g_gain_of) (d := o_gain_of) (fun A0 cdv A outer s H E hr hg => by
    have hu : (A.deeper (envOfC _ (defScope (topS 24)) s.heap.objs.size _ cdv)).units + 64 < cLine := Nat.lt_of_le_of_lt (Nat.add_le_add_left (by decide) _) (room_un hr)
    have key : Dss (XF P w K mg base ["length", "minutes"] "gain_of" (topS 24) (ad 24) cdv A outer s H E) ⟨A0, [], none⟩ [] (fun a : E0_gain_of => ((ac cI (ac cI an)) a).map some ++ List.replicate 0 none) (c2 cI cI) (fun _ => []) [] (fun _ : Empty => []) (defBody (topS 24)) _ _ [] (fun _ : Empty => []) := (s_one (s_ret (r := fun v (_ : E0_gain_of) => v) (fun _ _ => rfl) rfl (d_call ((f_minus T).mono (by decide)) hr hg T.M13 T.F13.kp (b_minus T) (a_cons (d_call ((f_fuel_in T).mono (by decide)) hr hg T.M20 T.F20.kp (b_fuel_in T) (a_cons (d_var 0 (fun q : E0_gain_of => q.1) cI (fun _ => rfl)) (a_cons (d_var 1 (fun q : E0_gain_of => q.2.1) cI (fun _ => rfl)) a_nil))) (a_cons (d_call ((f_fuel_in T).mono (by decide)) hr hg T.M20 T.F20.kp (b_fuel_in T) (a_cons (d_var 0 (fun q : E0_gain_of => q.1) cI (fun _ => rfl)) (a_cons (d_op op_add v_add (d_var 1 (fun q : E0_gain_of => q.2.1) cI (fun _ => rfl)) d_int) a_nil))) a_nil)))))
    exact dss_eq key (by kernel_rfl) (by kernel_rfl)) (fun _ h => h) (fun a _ => ends_ret (fun r => r) (fun _ => rfl) (o_gain_of a))
abbrev E0_best_minutes : Type := (List Int) × Int × Unit
abbrev E1_best_minutes : Type := E0_best_minutes × (List Int)
abbrev E2_best_minutes : Type := E1_best_minutes × Int
abbrev E3_best_minutes : Type := E1_best_minutes × (List (Int × Int))
abbrev E4_best_minutes : Type := (List Int) × (List (Int × Int))
abbrev E5_best_minutes : Type := E4_best_minutes × Int
abbrev E6_best_minutes : Type := E5_best_minutes × Int
abbrev E7_best_minutes : Type := Int
abbrev E8_best_minutes : Type := E7_best_minutes × (Int × (Int × Int))
abbrev E9_best_minutes : Type := E8_best_minutes × Int
abbrev E10_best_minutes : Type := E6_best_minutes × E7_best_minutes
def k1_best_minutes (q5 : E5_best_minutes) (q8 : E8_best_minutes) : E7_best_minutes :=
  (let best9 : Int := (if (m_is_less ((ixD q5.1.2 q8.1), q8.2.2, ())) = true then q8.2.1 else q8.1); best9)
def kg1_best_minutes (q5 : E5_best_minutes) (q8 : E8_best_minutes) : Prop :=
  ((((True ∧ True ∧ (CIx q5.1.2 q8.1)) ∧ (True ∧ True)) ∧ (g_is_less ((ixD q5.1.2 q8.1), q8.2.2, ()))) ∧ ((m_is_less ((ixD q5.1.2 q8.1), q8.2.2, ())) = true → True) ∧ ((m_is_less ((ixD q5.1.2 q8.1), q8.2.2, ())) = false → True))
abbrev E11_best_minutes : Type := E10_best_minutes × (List Int)
abbrev E12_best_minutes : Type := E11_best_minutes × (List (Int × Int))
abbrev E13_best_minutes : Type := E3_best_minutes × E4_best_minutes
def k2_best_minutes (lengths : List Int) (q5 : E5_best_minutes) : E4_best_minutes :=
  (let best6 : Int := (0 : Int); (let l10 : E7_best_minutes := (((enum q5.1.2)).foldl (fun m x => (k1_best_minutes q5) (m, x)) best6); (let found11 : List Int := setI q5.1.1 l10 (ixD q5.1.1 l10 + (1 : Int)); (let gains12 : List (Int × Int) := setI q5.1.2 l10 ((m_gain_of ((ixD lengths l10), (ixD found11 l10), ()))); (found11, gains12)))))
def kg2_best_minutes (lengths : List Int) (q5 : E5_best_minutes) : Prop :=
  (True ∧ (let best6 : Int := (0 : Int); ((forN (kg1_best_minutes q5) (k1_best_minutes q5) best6 (enum q5.1.2)) ∧ (let l10 : E7_best_minutes := (((enum q5.1.2)).foldl (fun m x => (k1_best_minutes q5) (m, x)) best6); ((True ∧ True ∧ (CIx q5.1.1 l10)) ∧ (let found11 : List Int := setI q5.1.1 l10 (ixD q5.1.1 l10 + (1 : Int)); (((((True ∧ True ∧ (CIx lengths l10)) ∧ ((True ∧ True ∧ (CIx found11 l10)) ∧ True)) ∧ (g_gain_of ((ixD lengths l10), (ixD found11 l10), ()))) ∧ True ∧ (CIx q5.1.2 l10)) ∧ (let gains12 : List (Int × Int) := setI q5.1.2 l10 ((m_gain_of ((ixD lengths l10), (ixD found11 l10), ()))); True))))))))
def o_best_minutes (a : E0_best_minutes) : Out Empty (List Int) Empty :=
  (let lengths := a.1; let total := a.2.1; (let found1 : List Int := (repI [(1 : Int)] ((lengths).length : Int)); (let gains3 : List (Int × Int) := (lengths.map fun x2 => (m_gain_of (x2, (1 : Int), ()))); (let l13 : E4_best_minutes := (((rng 0 ((total - ((lengths).length : Int))))).foldl (fun m x => (k2_best_minutes lengths) (m, x)) (found1, gains3)); (Out.rt l13.1)))))
def m_best_minutes (a : E0_best_minutes) : List Int := (o_best_minutes a).ret
def g_best_minutes (a : E0_best_minutes) : Prop :=
  (let lengths := a.1; let total := a.2.1; (((True ∧ True) ∧ (g_check_lengths (lengths, ()))) ∧ (((((True ∧ True) ∧ (g_is_integer (total, ()))) ∧ ((!((m_is_integer (total, ())))) = false → (((True ∧ True) ∧ True) ∧ True ∧ ((decide (((lengths).length : Int) ≤ total)) = true → True)))) ∧ ((!((m_is_integer (total, ())))) || (!(((decide (((lengths).length : Int) ≤ total)) && (decide (total ≤ (1000 : Int))))))) = false) ∧ (((True ∧ True) ∧ ((True ∧ True) ∧ True) ∧ -1000000 ≤ ((lengths).length : Int) ∧ ((lengths).length : Int) ≤ 1000000 ∧ (([(1 : Int)]).length * (((lengths).length : Int)).toNat ≤ 16777216)) ∧ (let found1 : List Int := (repI [(1 : Int)] ((lengths).length : Int)); ((True ∧ (∀ x2 ∈ lengths, ((True ∧ (True ∧ True)) ∧ (g_gain_of (x2, (1 : Int), ()))))) ∧ (let gains3 : List (Int × Int) := (lengths.map fun x2 => (m_gain_of (x2, (1 : Int), ()))); (((((True ∧ ((True ∧ True) ∧ True) ∧ True) ∧ True) ∧ (CRg 0 ((total - ((lengths).length : Int))))) ∧ (forN (kg2_best_minutes lengths) (k2_best_minutes lengths) (found1, gains3) (rng 0 ((total - ((lengths).length : Int)))))) ∧ (let l13 : E4_best_minutes := (((rng 0 ((total - ((lengths).length : Int))))).foldl (fun m x => (k2_best_minutes lengths) (m, x)) (found1, gains3)); ((True ∧ True) ∧ True))))))))))
theorem sc_best_minutes : FnScope ["lengths", "total", "found", "gains", "step", "best", "at", "own", "length"] ["lengths", "total"] (defScope (topS 25)) := ⟨rfl, rfl, rfl, by decide +kernel, rfl, by decide +kernel, by decide +kernel⟩
theorem b_best_minutes {K : Y.Frag} {mg : Str → Option Value} {ad : Nat → Addr} {fd : Nat → FuncData} (T : Tx K mg ad fd) : Binds K (fd 25) ["lengths", "total"] [] := T.F25.binds (ps := ["lengths", "total"]) fun _ _ _ _ _ _ us hl => match us, hl with | [_, _], _ => rfl
theorem f_best_minutes {P : Program} {w : World} {K : Y.Frag} {mg : Str → Option Value} {base : Heap} {ad : Nat → Addr} {fd : Nat → FuncData} (T : Tx K mg ad fd) : FnG P w K mg base 5 (ad 25) (fd 25) ["lengths", "total"] (spP K (ac (cT cI) (ac cI an)) (cT cI) g_best_minutes m_best_minutes) :=
  fn_pure T.F25 sc_best_minutes 7 (fun _ => rfl) rfl (owS := []) (ow' := []) (ΓS := fun _ : Empty => []) (Γ' := fun _ : Empty => []) (cr := (cT cI)) (ci := fun _ => []) (G := g_best_minutes) (d := o_best_minutes) (fun A0 cdv A outer s H E hr hg => by
    have hu : (A.deeper (envOfC _ (defScope (topS 25)) s.heap.objs.size _ cdv)).units + 64 < cLine := Nat.lt_of_le_of_lt (Nat.add_le_add_left (by decide) _) (room_un hr)
    have key : Dss (XF P w K mg base ["lengths", "total", "found", "gains", "step", "best", "at", "own", "length"] "best_minutes" (topS 25) (ad 25) cdv A outer s H E) ⟨A0, [], none⟩ [] (fun a : E0_best_minutes => ((ac (cT cI) (ac cI an)) a).map some ++ List.replicate 7 none) (cT cI) (fun _ => []) [] (fun _ : Empty => []) (defBody (topS 25)) _ _ [] (fun _ : Empty => []) := (s_cons (s_drop (d_call ((f_check_lengths T).mono (by decide)) hr hg T.M17 T.F17.kp (b_check_lengths T) (a_cons (d_var 0 (fun q : E0_best_minutes => q.1) (cT cI) (fun _ => rfl)) a_nil))) (s_ifX (Dw.dt (w_orP (t_not (t_val (d_call ((f_is_integer T).mono (by decide)) hr hg T.M5 T.F5.kp (b_is_integer T) (a_cons (d_var 1 (fun q : E0_best_minutes => q.2.1) cI (fun _ => rfl)) a_nil)))) (w_or1 (t_not (t_chain op_le op_le v_le v_le (d_blt call_len_seq (v_len sq_T) T.z_len (by decide +kernel) (a_cons (d_var 0 (fun q : E0_best_minutes => q.1) (cT cI) (fun _ => rfl)) a_nil)) (d_var 1 (fun q : E0_best_minutes => q.2.1) cI (fun _ => rfl)) (d_glob (v := .int 1000) (c := cI) (a := 1000) T.c_MAX_MINUTES.choose_spec ⟨_, rfl⟩ (fun _ _ => .int _))))))) (s_cons (s_own 2 (l_rep (DL.de (l_disp (c := cI) (g := fun x : Int × Unit => [x.1]) (fun _ => rfl) (fun _ => Nat.le_of_ble_eq_true rfl) (a_cons d_int a_nil))) (d_blt call_len_seq (v_len sq_T) T.z_len (by decide +kernel) (a_cons (d_var 0 (fun q : E0_best_minutes => q.1) (cT cI) (fun _ => rfl)) a_nil))) (fun _ => by show _ < List.length _; simp) (ow' := [2]) (by intro j; simp only [List.mem_cons, List.not_mem_nil, or_false, false_or]; try omega) (fun h => absurd rfl h) (hN := sc_best_minutes.nd)) (s_cons (s_ownLc0 3 (sw_true rfl rfl rfl (by decide +kernel)) (i_tup (d_var 0 (fun q : E1_best_minutes => q.1.1) (cT cI) (fun _ => rfl))) (blkOk_by (N := ["lengths", "total", "found", "gains", "step", "best", "at", "own", "length"]) (sc := defScope (topS 25)) (own := [("length", 8)]) (by decide +kernel)) (tg_name 8) (fun _ _ _ _ _ => (pg_name (i := 8) sc_best_minutes.nd rfl (by first | exact .inl rfl | exact .inr rfl))) (fun _ _ _ _ _ _ => (d_call ((f_gain_of T).mono (by decide)) hr hg T.M24 T.F24.kp (b_gain_of T) (a_cons (d_var 8 (fun q : E2_best_minutes => q.2) cI (fun _ => rfl)) (a_cons d_int a_nil)))) (ow' := [2, 3]) (fun _ => by show _ < List.length _; simp) (by intro j; simp only [List.mem_cons, List.not_mem_nil, or_false, false_or]; try omega) (fun h => absurd rfl h) (own := [("length", 8)]) (hN := sc_best_minutes.nd)) (s_cons (s_forN (ΓL := (fun (e4 : E3_best_minutes) (m : E4_best_minutes) => [some ((cT cI) e4.1.1.1), some (cI e4.1.1.2.1), some (.list (m.1.map cI)), some (.list (m.2.map (c2 cI cI))), none, none, none, none, none])) (fun q : E3_best_minutes => (q.1.2, q.2)) (i_rng1 (a_cons (d_op op_sub v_sub (d_var 1 (fun q : E3_best_minutes => q.1.1.2.1) cI (fun _ => rfl)) (d_blt call_len_seq (v_len sq_T) T.z_len (by decide +kernel) (a_cons (d_var 0 (fun q : E3_best_minutes => q.1.1.1) (cT cI) (fun _ => rfl)) a_nil))) a_nil) T.z_range) (fun _ _ _ _ r => r) (pg_name (i := 4) sc_best_minutes.nd rfl (by first | exact .inl rfl | exact .inr rfl)) (tg_name 4) (fun e4 : E3_best_minutes => (s_cons (s_asg 5 d_int (hN := sc_best_minutes.nd)) (s_cons (s_forOE (ΓL := (fun (e7 : E6_best_minutes) (m : E7_best_minutes) => [some ((cT cI) e4.1.1.1), some (cI e4.1.1.2.1), some (.list (e7.1.1.1.map cI)), some (.list (e7.1.1.2.map (c2 cI cI))), some (cI e7.1.2), some (cI m), none, none, none])) 3 (fun q : E6_best_minutes => q.1.1.2) (fun q : E6_best_minutes => q.2) (fun _ => rfl) (fun _ _ => rfl) (fun _ _ _ _ r => r) (pg_tup rfl (pgs_cons (pg_name (i := 6) sc_best_minutes.nd rfl (by first | exact .inl rfl | exact .inr rfl)) (pgs_cons (pg_name (i := 7) sc_best_minutes.nd rfl (by first | exact .inl rfl | exact .inr rfl)) pgs_nil))) (tg_pair 6 7) (fun e7 : E6_best_minutes => (sx_asg 5 (d_if (t_val (d_call ((f_is_less T).mono (by decide)) hr hg T.M14 T.F14.kp (b_is_less T) (a_cons (De.up (lf_2 (fun _ => rfl) (fun _ => rfl)) (d_ix ix_list v_ixL (d_own 3 (fun q : E8_best_minutes => e7.1.1.2) (cL (c2 cI cI)) (fun _ => rfl)) (De.wk (d_var 5 (fun q : E8_best_minutes => q.1) cI (fun _ => rfl))))) (a_cons (d_var 7 (fun q : E8_best_minutes => q.2.2) (c2 cI cI) (fun _ => rfl)) a_nil)))) (d_var 6 (fun q : E8_best_minutes => q.2.1) cI (fun _ => rfl)) (d_var 5 (fun q : E8_best_minutes => q.1) cI (fun _ => rfl))) (fun q : E9_best_minutes => q.2) (fun _ _ _ _ r => r.wk (.k (.k (.k (.k (.k (.k (.f (.f (.k .nil)))))))))) (hN := sc_best_minutes.nd))) PassesOwn.never T.z_enumerate) (s_cons (s_augL 2 (fun q : E10_best_minutes => q.1.1.1.1) ip_add (fun _ => rfl) (d_var 5 (fun q : E10_best_minutes => q.2) cI (fun _ => rfl)) d_int) (s_cons (s_setL 3 (fun q : E11_best_minutes => q.1.1.1.1.2) (fun _ => rfl) (d_call ((f_gain_of T).mono (by decide)) hr hg T.M24 T.F24.kp (b_gain_of T) (a_cons (d_ix ix_tup v_ixT (d_var 0 (fun q : E11_best_minutes => e4.1.1.1) (cT cI) (fun _ => rfl)) (d_var 5 (fun q : E11_best_minutes => q.1.2) cI (fun _ => rfl))) (a_cons (De.up (fun _ => rfl) (d_ix ix_list v_ixL (d_own 2 (fun q : E11_best_minutes => q.2) (cL cI) (fun _ => rfl)) (De.wk (d_var 5 (fun q : E11_best_minutes => q.1.2) cI (fun _ => rfl))))) a_nil))) (d_var 5 (fun q : E11_best_minutes => q.1.2) cI (fun _ => rfl))) (s_end (ow2 := [2, 3]) (Γ2 := (fun m : E4_best_minutes => [some ((cT cI) e4.1.1.1), some (cI e4.1.1.2.1), some (.list (m.1.map cI)), some (.list (m.2.map (c2 cI cI))), none, none, none, none, none])) (fun q : E12_best_minutes => (q.1.2, q.2)) (fun _ _ _ _ r => r.wk (.k (.k (.k (.k (.f (.f (.k (.k (.k .nil)))))))))))))))) (fun _ _ => rfl) PassesOwn.never) (s_conv (ow2 := []) (fun q : E13_best_minutes => q) (fun _ _ _ _ r => r.freeze (by decide) (fun h => absurd rfl h)) (s_one (s_ret (r := fun v (_ : E13_best_minutes) => v) (fun _ _ => rfl) rfl (d_ty call_tuple_of (v_tuple sq_L) T.z_tuple (by decide +kernel) (a_cons (d_var 2 (fun q : E13_best_minutes => q.2.1) (cL cI) (fun _ => rfl)) a_nil))))))))))
    exact dss_eq key (by kernel_rfl) (by kernel_rfl)) (fun _ h => h) (fun a _ => ends_ret (fun r => r) (fun _ => rfl) (o_best_minutes a))
abbrev E0_accept_minutes : Type := (List Int) × Int × (List Int) × Unit
abbrev E1_accept_minutes : Type := Unit
abbrev E2_accept_minutes : Type := E1_accept_minutes × (Int × Int)
abbrev E3_accept_minutes : Type := E2_accept_minutes × (Int × Int)
abbrev E4_accept_minutes : Type := E3_accept_minutes × (Int × Int)
abbrev E5_accept_minutes : Type := E2_accept_minutes × Unit
abbrev E6_accept_minutes : Type := E0_accept_minutes × E1_accept_minutes
def k1_accept_minutes (lengths : List Int) (q2 : E2_accept_minutes) : E1_accept_minutes :=
  (let j6 : Unit := (if (decide ((1 : Int) < q2.2.2)) = true then (let lost4 : Int × Int := (m_gain_of ((ixD lengths q2.2.1), (q2.2.2 - (1 : Int)), ())); ()) else ()); ())
def kg1_accept_minutes (lengths : List Int) (minutes : List Int) (q2 : E2_accept_minutes) : Prop :=
  (((True ∧ True ∧ True) ∧ ((decide ((1 : Int) < q2.2.2)) = true → ((((True ∧ True ∧ (CIx lengths q2.2.1)) ∧ ((True ∧ True ∧ True) ∧ True)) ∧ (g_gain_of ((ixD lengths q2.2.1), (q2.2.2 - (1 : Int)), ()))) ∧ (let lost4 : Int × Int := (m_gain_of ((ixD lengths q2.2.1), (q2.2.2 - (1 : Int)), ())); ((((True ∧ (True ∧ True)) ∧ (∀ x5 ∈ (lengths.zip minutes), ((True ∧ (((True ∧ (True ∧ True)) ∧ (g_gain_of (x5.1, x5.2, ()))) ∧ True)) ∧ (g_is_less (lost4, (m_gain_of (x5.1, x5.2, ())), ()))) ∧ ((m_is_less (lost4, (m_gain_of (x5.1, x5.2, ())), ())) = true → True))) ∧ (!(((((lengths.zip minutes)).filter fun x5 => (m_is_less (lost4, (m_gain_of (x5.1, x5.2, ())), ()))).map fun x5 => (1 : Int))).isEmpty) = false) ∧ True)))) ∧ ((decide ((1 : Int) < q2.2.2)) = false → True)) ∧ (let j6 : Unit := (if (decide ((1 : Int) < q2.2.2)) = true then (let lost4 : Int × Int := (m_gain_of ((ixD lengths q2.2.1), (q2.2.2 - (1 : Int)), ())); ()) else ()); True))
def o_accept_minutes (a : E0_accept_minutes) : Out Unit (Unit) Empty :=
  (let lengths := a.1; let total := a.2.1; let minutes := a.2.2.1; (let l7 : E1_accept_minutes := (((enum minutes)).foldl (fun m x => (k1_accept_minutes lengths) (m, x)) ()); (Out.nx ())))
def m_accept_minutes (a : E0_accept_minutes) : Unit := ()
def g_accept_minutes (a : E0_accept_minutes) : Prop :=
  (let lengths := a.1; let total := a.2.1; let minutes := a.2.2.1; (((True ∧ True) ∧ (g_check_lengths (lengths, ()))) ∧ (((((True ∧ True) ∧ (g_is_integer (total, ()))) ∧ ((!((m_is_integer (total, ())))) = false → (((True ∧ True) ∧ True) ∧ True ∧ ((decide (((lengths).length : Int) ≤ total)) = true → True)))) ∧ ((!((m_is_integer (total, ())))) || (!(((decide (((lengths).length : Int) ≤ total)) && (decide (total ≤ (1000 : Int))))))) = false) ∧ ((((True ∧ (True ∧ True)) ∧ (g_are_minutes (minutes, lengths, ()))) ∧ (!((m_are_minutes (minutes, lengths, ())))) = false) ∧ (((((True ∧ True) ∧ True) ∧ True ∧ True) ∧ (!decide ((minutes.sum) = total)) = false) ∧ ((True ∧ (forN (kg1_accept_minutes lengths minutes) (k1_accept_minutes lengths) () (enum minutes))) ∧ (let l7 : E1_accept_minutes := (((enum minutes)).foldl (fun m x => (k1_accept_minutes lengths) (m, x)) ()); True)))))))
theorem sc_accept_minutes : FnScope ["lengths", "total", "minutes", "at", "own", "lost", "length", "other"] ["lengths", "total", "minutes"] (defScope (topS 26)) := ⟨rfl, rfl, rfl, by decide +kernel, rfl, by decide +kernel, by decide +kernel⟩
theorem b_accept_minutes {K : Y.Frag} {mg : Str → Option Value} {ad : Nat → Addr} {fd : Nat → FuncData} (T : Tx K mg ad fd) : Binds K (fd 26) ["lengths", "total", "minutes"] [] := T.F26.binds (ps := ["lengths", "total", "minutes"]) fun _ _ _ _ _ _ us hl => match us, hl with | [_, _, _], _ => rfl
theorem f_accept_minutes {P : Program} {w : World} {K : Y.Frag} {mg : Str → Option Value} {base : Heap} {ad : Nat → Addr} {fd : Nat → FuncData} (T : Tx K mg ad fd) : FnG P w K mg base 5 (ad 26) (fd 26) ["lengths", "total", "minutes"] (spP K (ac (cT cI) (ac cI (ac (cT cI) an))) cN g_accept_minutes m_accept_minutes) :=
  fn_pure T.F26 sc_accept_minutes 5 (fun _ => rfl) rfl (owS := []) (ow' := []) (ΓS := fun _ : Empty => []) (Γ' := fun _ : Unit => [none, none, none, none, none, none, none, none]) (cr := cN) (ci := fun _ => []) (G := g_accept_minutes) (d := o_accept_minutes) (fun A0 cdv A outer s H E hr hg => by
    have hu : (A.deeper (envOfC _ (defScope (topS 26)) s.heap.objs.size _ cdv)).units + 64 < cLine := Nat.lt_of_le_of_lt (Nat.add_le_add_left (by decide) _) (room_un hr)
    have key : Dss (XF P w K mg base ["lengths", "total", "minutes", "at", "own", "lost", "length", "other"] "accept_minutes" (topS 26) (ad 26) cdv A outer s H E) ⟨A0, [], none⟩ [] (fun a : E0_accept_minutes => ((ac (cT cI) (ac cI (ac (cT cI) an))) a).map some ++ List.replicate 5 none) cN (fun _ => []) [] (fun _ : Empty => []) (defBody (topS 26)) _ _ [] (fun _ : Unit => [none, none, none, none, none, none, none, none]) := (s_cons (s_drop (d_call ((f_check_lengths T).mono (by decide)) hr hg T.M17 T.F17.kp (b_check_lengths T) (a_cons (d_var 0 (fun q : E0_accept_minutes => q.1) (cT cI) (fun _ => rfl)) a_nil))) (s_ifX (Dw.dt (w_orP (t_not (t_val (d_call ((f_is_integer T).mono (by decide)) hr hg T.M5 T.F5.kp (b_is_integer T) (a_cons (d_var 1 (fun q : E0_accept_minutes => q.2.1) cI (fun _ => rfl)) a_nil)))) (w_or1 (t_not (t_chain op_le op_le v_le v_le (d_blt call_len_seq (v_len sq_T) T.z_len (by decide +kernel) (a_cons (d_var 0 (fun q : E0_accept_minutes => q.1) (cT cI) (fun _ => rfl)) a_nil)) (d_var 1 (fun q : E0_accept_minutes => q.2.1) cI (fun _ => rfl)) (d_glob (v := .int 1000) (c := cI) (a := 1000) T.c_MAX_MINUTES.choose_spec ⟨_, rfl⟩ (fun _ _ => .int _))))))) (s_ifX (t_not (t_val (d_call ((f_are_minutes T).mono (by decide)) hr hg T.M18 T.F18.kp (b_are_minutes T) (a_cons (d_var 2 (fun q : E0_accept_minutes => q.2.2.1) (cT cI) (fun _ => rfl)) (a_cons (d_var 0 (fun q : E0_accept_minutes => q.1) (cT cI) (fun _ => rfl)) a_nil))))) (s_ifX (t_cmp op_ne v_neI (d_blt (cr_sumT rfl) v_sumT T.z_sum (by decide +kernel) (a_cons (d_var 2 (fun q : E0_accept_minutes => q.2.2.1) (cT cI) (fun _ => rfl)) a_nil)) (d_var 1 (fun q : E0_accept_minutes => q.2.1) cI (fun _ => rfl)) (nomark _)) (s_cons (s_forN (ΓL := (fun (e1 : E0_accept_minutes) (m : E1_accept_minutes) => [some ((cT cI) e1.1), some (cI e1.2.1), some ((cT cI) e1.2.2.1), none, none, none, none, none])) (fun q : E0_accept_minutes => ()) (i_enumT (d_var 2 (fun q : E0_accept_minutes => q.2.2.1) (cT cI) (fun _ => rfl)) T.z_enumerate) (fun _ _ _ _ r => r) (pg_tup rfl (pgs_cons (pg_name (i := 3) sc_accept_minutes.nd rfl (by first | exact .inl rfl | exact .inr rfl)) (pgs_cons (pg_name (i := 4) sc_accept_minutes.nd rfl (by first | exact .inl rfl | exact .inr rfl)) pgs_nil))) (tg_pair 3 4) (fun e1 : E0_accept_minutes => (s_cons (s_ifJ (t_cmp op_gt v_gt (d_var 4 (fun q : E2_accept_minutes => q.2.2) cI (fun _ => rfl)) d_int (nomark _)) (s_cons (s_asg 5 (d_call ((f_gain_of T).mono (by decide)) hr hg T.M24 T.F24.kp (b_gain_of T) (a_cons (d_ix ix_tup v_ixT (d_var 0 (fun q : E2_accept_minutes => e1.1) (cT cI) (fun _ => rfl)) (d_var 3 (fun q : E2_accept_minutes => q.2.1) cI (fun _ => rfl))) (a_cons (d_op op_sub v_sub (d_var 4 (fun q : E2_accept_minutes => q.2.2) cI (fun _ => rfl)) d_int) a_nil))) (hN := sc_accept_minutes.nd)) (s_ifX (t_truth (DL.de (d_lc (i_zipT (a_cons (d_var 0 (fun q : E3_accept_minutes => e1.1) (cT cI) (fun _ => rfl)) (a_cons (d_var 2 (fun q : E3_accept_minutes => e1.2.2.1) (cT cI) (fun _ => rfl)) a_nil)) T.z_zip) (blkOk_by (N := ["lengths", "total", "minutes", "at", "own", "lost", "length", "other"]) (sc := defScope (topS 26)) (own := [("length", 6), ("other", 7)]) (by decide +kernel)) (tg_pair 6 7) (fun _ _ _ _ _ => (pg_tup rfl (pgs_cons (pg_name (i := 6) sc_accept_minutes.nd rfl (by first | exact .inl rfl | exact .inr rfl)) (pgs_cons (pg_name (i := 7) sc_accept_minutes.nd rfl (by first | exact .inl rfl | exact .inr rfl)) pgs_nil)))) (fun _ _ _ _ _ => dt_one fun _ => (t_val (d_call ((f_is_less T).mono (by decide)) hr hg T.M14 T.F14.kp (b_is_less T) (a_cons (d_var 5 (fun q : E4_accept_minutes => q.1.2) (c2 cI cI) (fun _ => rfl)) (a_cons (d_call ((f_gain_of T).mono (by decide)) hr hg T.M24 T.F24.kp (b_gain_of T) (a_cons (d_var 6 (fun q : E4_accept_minutes => q.2.1) cI (fun _ => rfl)) (a_cons (d_var 7 (fun q : E4_accept_minutes => q.2.2) cI (fun _ => rfl)) a_nil))) a_nil))))) (fun _ _ _ _ _ _ => d_int) (own := [("length", 6), ("other", 7)]) (hN := sc_accept_minutes.nd))) (tru_list sq_L)) (s_end (ow2 := []) (Γ2 := fun q : E5_accept_minutes => [some ((cT cI) e1.1), some (cI e1.2.1), some ((cT cI) e1.2.2.1), some (cI q.1.2.1), some (cI q.1.2.2), none, none, none]) (fun q : E3_accept_minutes => (q.1, ())) (fun _ _ _ _ r => r.wk (.k (.k (.k (.k (.k (.f (.k (.k .nil)))))))))))) (s_end (ow2 := []) (Γ2 := fun q : E5_accept_minutes => [some ((cT cI) e1.1), some (cI e1.2.1), some ((cT cI) e1.2.2.1), some (cI q.1.2.1), some (cI q.1.2.2), none, none, none]) (fun q : E2_accept_minutes => (q, ())) (fun _ _ _ _ r => r)) (fun _ => rfl) (fun _ => rfl)) (s_end (ow2 := []) (Γ2 := (fun m : E1_accept_minutes => [some ((cT cI) e1.1), some (cI e1.2.1), some ((cT cI) e1.2.2.1), none, none, none, none, none])) (fun q : E5_accept_minutes => ()) (fun _ _ _ _ r => r.wk (.k (.k (.k (.f (.f (.k (.k (.k .nil)))))))))))) (fun _ _ => rfl) PassesOwn.never) (s_end (ow2 := []) (Γ2 := fun _ : Unit => [none, none, none, none, none, none, none, none]) (fun _ : E6_accept_minutes => ()) (fun _ _ _ _ r => r.wk (.f (.f (.f (.k (.k (.k (.k (.k .nil)))))))))))))))
    exact dss_eq key (by kernel_rfl) (by kernel_rfl)) (fun _ h => h) (fun a _ => ends_und (o_accept_minutes a))
abbrev E0_minute_moved : Type := (List Int) × (List Int) × Int × Int × Unit
abbrev E1_minute_moved : Type := Unit
abbrev E2_minute_moved : Type := E1_minute_moved × (PySem.Str × Int)
abbrev E3_minute_moved : Type := E0_minute_moved × E1_minute_moved
def k1_minute_moved (q2 : E2_minute_moved) : E1_minute_moved :=
  ()
def kg1_minute_moved (lengths : List Int) (q2 : E2_minute_moved) : Prop :=
  (((((True ∧ True) ∧ (g_is_integer (q2.2.2, ()))) ∧ ((!((m_is_integer (q2.2.2, ())))) = false → (True ∧ True ∧ ((decide ((0 : Int) ≤ q2.2.2)) = true → ((True ∧ True) ∧ True))))) ∧ ((!((m_is_integer (q2.2.2, ())))) || (!(((decide ((0 : Int) ≤ q2.2.2)) && (decide (q2.2.2 < ((lengths).length : Int))))))) = false) ∧ True)
def o_minute_moved (a : E0_minute_moved) : Out Empty (Int × Int) Empty :=
  (let lengths := a.1; let minutes := a.2.1; let one := a.2.2.1; let other := a.2.2.2.1; (let l3 : E1_minute_moved := (([((((PySem.Str.ofString "one"), one), ((PySem.Str.ofString "other"), other))).1, ((((PySem.Str.ofString "one"), one), ((PySem.Str.ofString "other"), other))).2]).foldl (fun m x => k1_minute_moved (m, x)) ()); (Out.rt ((m_minus ((m_gain_of ((ixD lengths other), (ixD minutes other), ())), (m_gain_of ((ixD lengths one), ((ixD minutes one) - (1 : Int)), ())), ()))))))
def m_minute_moved (a : E0_minute_moved) : Int × Int := (o_minute_moved a).ret
def g_minute_moved (a : E0_minute_moved) : Prop :=
  (let lengths := a.1; let minutes := a.2.1; let one := a.2.2.1; let other := a.2.2.2.1; (((True ∧ (True ∧ True)) ∧ (g_check_minutes (lengths, minutes, ()))) ∧ ((((True ∧ (True ∧ True)) ∧ ((True ∧ (True ∧ True)) ∧ True)) ∧ (forN (kg1_minute_moved lengths) k1_minute_moved () [((((PySem.Str.ofString "one"), one), ((PySem.Str.ofString "other"), other))).1, ((((PySem.Str.ofString "one"), one), ((PySem.Str.ofString "other"), other))).2])) ∧ (let l3 : E1_minute_moved := (([((((PySem.Str.ofString "one"), one), ((PySem.Str.ofString "other"), other))).1, ((((PySem.Str.ofString "one"), one), ((PySem.Str.ofString "other"), other))).2]).foldl (fun m x => k1_minute_moved (m, x)) ()); (((((True ∧ True ∧ (CIx minutes one)) ∧ True ∧ True) ∧ ((decide ((ixD minutes one) = (1 : Int))) = false → (((True ∧ True ∧ (CIx minutes other)) ∧ True ∧ True) ∧ ((decide ((ixD minutes other) = (1000 : Int))) = false → (True ∧ True ∧ True))))) ∧ ((decide ((ixD minutes one) = (1 : Int))) || ((decide ((ixD minutes other) = (1000 : Int))) || (decide (one = other)))) = false) ∧ (((((True ∧ True ∧ (CIx lengths other)) ∧ ((True ∧ True ∧ (CIx minutes other)) ∧ True)) ∧ (g_gain_of ((ixD lengths other), (ixD minutes other), ()))) ∧ ((((True ∧ True ∧ (CIx lengths one)) ∧ (((True ∧ True ∧ (CIx minutes one)) ∧ True ∧ True) ∧ True)) ∧ (g_gain_of ((ixD lengths one), ((ixD minutes one) - (1 : Int)), ()))) ∧ True)) ∧ (g_minus ((m_gain_of ((ixD lengths other), (ixD minutes other), ())), (m_gain_of ((ixD lengths one), ((ixD minutes one) - (1 : Int)), ())), ()))))))))
theorem sc_minute_moved : FnScope ["lengths", "minutes", "one", "other", "reason", "at"] ["lengths", "minutes", "one", "other"] (defScope (topS 27)) := ⟨rfl, rfl, rfl, by decide +kernel, rfl, by decide +kernel, by decide +kernel⟩
theorem b_minute_moved {K : Y.Frag} {mg : Str → Option Value} {ad : Nat → Addr} {fd : Nat → FuncData} (T : Tx K mg ad fd) : Binds K (fd 27) ["lengths", "minutes", "one", "other"] [] := T.F27.binds (ps := ["lengths", "minutes", "one", "other"]) fun _ _ _ _ _ _ us hl => match us, hl with | [_, _, _, _], _ => rfl
theorem f_minute_moved {P : Program} {w : World} {K : Y.Frag} {mg : Str → Option Value} {base : Heap} {ad : Nat → Addr} {fd : Nat → FuncData} (T : Tx K mg ad fd) : FnG P w K mg base 5 (ad 27) (fd 27) ["lengths", "minutes", "one", "other"] (spP K (ac (cT cI) (ac (cT cI) (ac cI (ac cI an)))) (c2 cI cI) g_minute_moved m_minute_moved) :=
  fn_pure T.F27 sc_minute_moved 2 (fun _ => rfl) rfl (owS := []) (ow' := []) (ΓS := fun _ : Empty => []) (Γ' := fun _ : Empty => []) (cr := (c2 cI cI)) (ci := fun _ => []) (G := g_minute_moved) (d := o_minute_moved) (fun A0 cdv A outer s H E hr hg => by
    have hu : (A.deeper (envOfC _ (defScope (topS 27)) s.heap.objs.size _ cdv)).units + 64 < cLine := Nat.lt_of_le_of_lt (Nat.add_le_add_left (by decide) _) (room_un hr)
    have key : Dss (XF P w K mg base ["lengths", "minutes", "one", "other", "reason", "at"] "minute_moved" (topS 27) (ad 27) cdv A outer s H E) ⟨A0, [], none⟩ [] (fun a : E0_minute_moved => ((ac (cT cI) (ac (cT cI) (ac cI (ac cI an)))) a).map some ++ List.replicate 2 none) (c2 cI cI) (fun _ => []) [] (fun _ : Empty => []) (defBody (topS 27)) _ _ [] (fun _ : Empty => []) := (s_cons (s_drop (d_call ((f_check_minutes T).mono (by decide)) hr hg T.M19 T.F19.kp (b_check_minutes T) (a_cons (d_var 0 (fun q : E0_minute_moved => q.1) (cT cI) (fun _ => rfl)) (a_cons (d_var 1 (fun q : E0_minute_moved => q.2.1) (cT cI) (fun _ => rfl)) a_nil)))) (s_cons (s_forN (ΓL := (fun (e1 : E0_minute_moved) (m : E1_minute_moved) => [some ((cT cI) e1.1), some ((cT cI) e1.2.1), some (cI e1.2.2.1), some (cI e1.2.2.2.1), none, none])) (fun q : E0_minute_moved => ()) (i_tup (De.as (c := (c2 (c2 cS cI) (c2 cS cI))) (c' := (cT (c2 cS cI))) (g := fun x : (PySem.Str × Int) × (PySem.Str × Int) => [x.1, x.2]) (fun _ => rfl) (d_tp2 (a_cons (d_tp2 (a_cons d_str (a_cons (d_var 2 (fun q : E0_minute_moved => q.2.2.1) cI (fun _ => rfl)) a_nil))) (a_cons (d_tp2 (a_cons d_str (a_cons (d_var 3 (fun q : E0_minute_moved => q.2.2.2.1) cI (fun _ => rfl)) a_nil))) a_nil))))) (fun _ _ _ _ r => r) (pg_tup rfl (pgs_cons (pg_name (i := 4) sc_minute_moved.nd rfl (by first | exact .inl rfl | exact .inr rfl)) (pgs_cons (pg_name (i := 5) sc_minute_moved.nd rfl (by first | exact .inl rfl | exact .inr rfl)) pgs_nil))) (tg_pair 4 5) (fun e1 : E0_minute_moved => (s_ifX (Dw.dt (w_orP (t_not (t_val (d_call ((f_is_integer T).mono (by decide)) hr hg T.M5 T.F5.kp (b_is_integer T) (a_cons (d_var 5 (fun q : E2_minute_moved => q.2.2) cI (fun _ => rfl)) a_nil)))) (w_or1 (t_not (t_chain op_le op_lt v_le v_lt d_int (d_var 5 (fun q : E2_minute_moved => q.2.2) cI (fun _ => rfl)) (d_blt call_len_seq (v_len sq_T) T.z_len (by decide +kernel) (a_cons (d_var 0 (fun q : E2_minute_moved => e1.1) (cT cI) (fun _ => rfl)) a_nil))))))) (s_end (ow2 := []) (Γ2 := (fun m : E1_minute_moved => [some ((cT cI) e1.1), some ((cT cI) e1.2.1), some (cI e1.2.2.1), some (cI e1.2.2.2.1), none, none])) (fun q : E2_minute_moved => ()) (fun _ _ _ _ r => r.wk (.k (.k (.k (.k (.f (.f .nil)))))))))) (fun _ _ => rfl) PassesOwn.never) (s_ifX (Dw.dt (w_orP (t_cmp op_eq v_eqI (d_ix ix_tup v_ixT (d_var 1 (fun q : E3_minute_moved => q.1.2.1) (cT cI) (fun _ => rfl)) (d_var 2 (fun q : E3_minute_moved => q.1.2.2.1) cI (fun _ => rfl))) d_int (nomark _)) (w_orP (t_cmp op_eq v_eqI (d_ix ix_tup v_ixT (d_var 1 (fun q : E3_minute_moved => q.1.2.1) (cT cI) (fun _ => rfl)) (d_var 3 (fun q : E3_minute_moved => q.1.2.2.2.1) cI (fun _ => rfl))) (d_glob (v := .int 1000) (c := cI) (a := 1000) T.c_MAX_MINUTES.choose_spec ⟨_, rfl⟩ (fun _ _ => .int _)) (nomark _)) (w_or1 (t_cmp op_eq v_eqI (d_var 2 (fun q : E3_minute_moved => q.1.2.2.1) cI (fun _ => rfl)) (d_var 3 (fun q : E3_minute_moved => q.1.2.2.2.1) cI (fun _ => rfl)) (nomark _)))))) (s_one (s_ret (r := fun v (_ : E3_minute_moved) => v) (fun _ _ => rfl) rfl (d_call ((f_minus T).mono (by decide)) hr hg T.M13 T.F13.kp (b_minus T) (a_cons (d_call ((f_gain_of T).mono (by decide)) hr hg T.M24 T.F24.kp (b_gain_of T) (a_cons (d_ix ix_tup v_ixT (d_var 0 (fun q : E3_minute_moved => q.1.1) (cT cI) (fun _ => rfl)) (d_var 3 (fun q : E3_minute_moved => q.1.2.2.2.1) cI (fun _ => rfl))) (a_cons (d_ix ix_tup v_ixT (d_var 1 (fun q : E3_minute_moved => q.1.2.1) (cT cI) (fun _ => rfl)) (d_var 3 (fun q : E3_minute_moved => q.1.2.2.2.1) cI (fun _ => rfl))) a_nil))) (a_cons (d_call ((f_gain_of T).mono (by decide)) hr hg T.M24 T.F24.kp (b_gain_of T) (a_cons (d_ix ix_tup v_ixT (d_var 0 (fun q : E3_minute_moved => q.1.1) (cT cI) (fun _ => rfl)) (d_var 2 (fun q : E3_minute_moved => q.1.2.2.1) cI (fun _ => rfl))) (a_cons (d_op op_sub v_sub (d_ix ix_tup v_ixT (d_var 1 (fun q : E3_minute_moved => q.1.2.1) (cT cI) (fun _ => rfl)) (d_var 2 (fun q : E3_minute_moved => q.1.2.2.1) cI (fun _ => rfl))) d_int) a_nil))) a_nil))))))))
    exact dss_eq key (by kernel_rfl) (by kernel_rfl)) (fun _ h => h) (fun a _ => ends_ret (fun r => r) (fun _ => rfl) (o_minute_moved a))
theorem sc__law_start : FnScope ["script", "seed", "cell"] ["script"] (defScope (topS 29)) := ⟨rfl, rfl, rfl, by decide +kernel, rfl, by decide +kernel, by decide +kernel⟩
theorem b__law_start {K : Y.Frag} {mg : Str → Option Value} {ad : Nat → Addr} {fd : Nat → FuncData} (T : Tx K mg ad fd) : Binds K (fd 29) ["script"] [] := T.F29.binds (ps := ["script"]) fun _ _ _ _ _ _ us hl => match us, hl with | [_], _ => rfl
theorem f__law_start {P : Program} {w : World} {K : Y.Frag} {mg : Str → Option Value} {base : Heap} {ad : Nat → Addr} {fd : Nat → FuncData} (T : Tx K mg ad fd) : FnG P w K mg base 1 (ad 29) (fd 29) ["script"] (spStart K) := by
  refine fnG T.F29 sc__law_start (fun vs H Q E h => by obtain ⟨a, ns, rfl, _⟩ := h; rfl) (fun cdv A outer s H vs Q E hr hg h => ?_)
  obtain ⟨a, ns, rfl, hS, hlen, q⟩ := h
  refine ⟨_, pss_cons (ps_set (i := 1) sc__law_start.nd rfl (.inl rfl) pe_int)
    (pss_cons (ps_for PassesOwn.never rfl (pi_list (pv 0)) (pg_name (i := 2) sc__law_start.nd rfl (.inl rfl))
      (pss_one (ps_set (i := 1) sc__law_start.nd rfl (.inl rfl) (pe_op op_add (pe_op op_mod (pe_callTy call_int1 rfl T.z_int (by decide +kernel) (pa_cons (pe_op op_add (pe_op op_mul (pv 1) pe_int) (pv 2)) pa_nil)) pe_int) pe_int))))
      (pss_one (ps_ret (pe_lst (pa_cons (pe_callTy call_list_of rfl T.z_list (by decide +kernel) (pa_cons (pv 0) pa_nil)) (pa_cons pe_int (pa_cons pe_int (pa_cons (pv 1) pa_nil)))))))), ?_⟩
  refine ⟨.ref a, rfl, a, rfl, ⟨_, hS⟩, ?_⟩
  refine for_it (walk_list (xs := ns.map V.int)) (fun i σ H3 => ∃ y2, σ = [some (.ref a), some (.int (seedF (ns.take i))), y2] ∧ H3 = H) ⟨none, rfl, rfl⟩ (fun i σ H3 _ ⟨_, _, e⟩ => by rw [e]; exact hS) ?_ ?_
  · rintro i x σ H3 H4 hi ⟨y2, rfl, rfl⟩ ⟨rfl, ex⟩
    obtain ⟨z, hz, rfl⟩ := int_at ex
    refine ⟨.int (seedF (ns.take i)), rfl, _, _, rfl, rfl, .inr ⟨by decide, by decide⟩, .int z, rfl, _, _, rfl, rfl, .inl ⟨_, rfl, _, _, rfl, rfl, (by show (0 : Int) < 2147483629; decide), _, _, rfl, rfl, some (.int z), ?_, rfl⟩⟩
    rw [seedF_take hz]
    rfl
  · rintro σ H3 ⟨y2, rfl, rfl⟩
    rw [List.length_map, List.take_length]
    refine ⟨.ref a, rfl, a, ns.map V.int, rfl, .inl hS, fun l hl => ⟨.int (seedF ns), rfl, by show 4 ≤ sizeLine; decide, fun q' hq => ?_⟩⟩
    have nq : l ≠ q' := fun e => by rw [← e, upd_same] at hq; cases hq
    refine q q' l _ (by rw [upd_ne nq.symm] at hq; exact hq) hl nq ((Fr.new hl).trans (Fr.new hq)) upd_same (by rw [upd_ne nq, upd_same])
abbrev E0__law_draw : Type := (Int × Unit) × St4
abbrev E1__law_draw : Type := E0__law_draw × St4
abbrev E2__law_draw : Type := E1__law_draw × St4
abbrev E3__law_draw : Type := E1__law_draw × Int
abbrev E4__law_draw : Type := E3__law_draw × St4
def o__law_draw (a : E0__law_draw) : Out Empty ((Int) × St4) Empty :=
  (let many := a.1.1; (if ((decide (a.2.2.1 = (0 : Int))) && (decide (((a.2.1).length : Int) ≤ a.2.2.2.1))) = true then (let st1 : St4 := (a.2.1, a.2.2.1, a.2.2.2.1, (((a.2.2.2.2 * (48271 : Int)) + (69621 : Int)) % (2147483629 : Int))); (Out.rt (((st1.2.2.2 / (13 : Int)) % many), st1))) else (let j5 : St4 := (if (decide (a.2.2.1 = (0 : Int))) = true then (let st3 : St4 := (a.2.1, ((((ixD a.2.1 a.2.2.2.1)).natAbs : Nat) : Int), a.2.2.2.1, a.2.2.2.2); (let st4 : St4 := (st3.1, st3.2.1, (st3.2.2.1 + (1 : Int)), st3.2.2.2); st4)) else a.2); (let taken6 : Int := (j5.2.1 % many); (let st7 : St4 := (j5.1, (j5.2.1 / many), j5.2.2.1, j5.2.2.2); (Out.rt (taken6, st7)))))))
def m__law_draw (a : E0__law_draw) : (Int) × St4 := (o__law_draw a).ret
def g__law_draw (a : E0__law_draw) : Prop :=
  (let many := a.1.1; (((True ∧ True ∧ True) ∧ ((decide (a.2.2.1 = (0 : Int))) = true → (True ∧ ((True ∧ True) ∧ True) ∧ True))) ∧ (((decide (a.2.2.1 = (0 : Int))) && (decide (((a.2.1).length : Int) ≤ a.2.2.2.1))) = true → ((((((True ∧ True ∧ (CMul a.2.2.2.2 ((48271 : Int)))) ∧ True ∧ True) ∧ True) ∧ True) ∧ True ∧ ((0 : Int) < (2147483629 : Int))) ∧ (let st1 : St4 := (a.2.1, a.2.2.1, a.2.2.2.1, (((a.2.2.2.2 * (48271 : Int)) + (69621 : Int)) % (2147483629 : Int))); ((((True ∧ True ∧ (CDivW st1.2.2.2 ((13 : Int)))) ∧ True) ∧ True) ∧ True ∧ ((0 : Int) < many))))) ∧ (((decide (a.2.2.1 = (0 : Int))) && (decide (((a.2.1).length : Int) ≤ a.2.2.2.1))) = false → (((True ∧ True ∧ True) ∧ ((decide (a.2.2.1 = (0 : Int))) = true → ((((True ∧ True ∧ (CIx a.2.1 a.2.2.2.1)) ∧ True) ∧ True) ∧ (let st3 : St4 := (a.2.1, ((((ixD a.2.1 a.2.2.2.1)).natAbs : Nat) : Int), a.2.2.2.1, a.2.2.2.2); ((True ∧ True ∧ True) ∧ (let st4 : St4 := (st3.1, st3.2.1, (st3.2.2.1 + (1 : Int)), st3.2.2.2); True))))) ∧ ((decide (a.2.2.1 = (0 : Int))) = false → True)) ∧ (let j5 : St4 := (if (decide (a.2.2.1 = (0 : Int))) = true then (let st3 : St4 := (a.2.1, ((((ixD a.2.1 a.2.2.2.1)).natAbs : Nat) : Int), a.2.2.2.1, a.2.2.2.2); (let st4 : St4 := (st3.1, st3.2.1, (st3.2.2.1 + (1 : Int)), st3.2.2.2); st4)) else a.2); ((((True ∧ True) ∧ True) ∧ True ∧ ((0 : Int) < many)) ∧ (let taken6 : Int := (j5.2.1 % many); ((True ∧ True ∧ (CDivW j5.2.1 many)) ∧ (let st7 : St4 := (j5.1, (j5.2.1 / many), j5.2.2.1, j5.2.2.2); True)))))))))
theorem sc__law_draw : FnScope ["state", "many", "taken"] ["state", "many"] (defScope (topS 30)) := ⟨rfl, rfl, rfl, by decide +kernel, rfl, by decide +kernel, by decide +kernel⟩
theorem b__law_draw {K : Y.Frag} {mg : Str → Option Value} {ad : Nat → Addr} {fd : Nat → FuncData} (T : Tx K mg ad fd) : Binds K (fd 30) ["state", "many"] [] := T.F30.binds (ps := ["state", "many"]) fun _ _ _ _ _ _ us hl => match us, hl with | [_, _], _ => rfl
theorem f__law_draw {P : Program} {w : World} {K : Y.Frag} {mg : Str → Option Value} {base : Heap} {ad : Nat → Addr} {fd : Nat → FuncData} (T : Tx K mg ad fd) : FnG P w K mg base 1 (ad 30) (fd 30) ["state", "many"] (spS K (ac cI an) cSt cI g__law_draw m__law_draw) :=
  fn_state T.F30 sc__law_draw 1 (fun _ => rfl) rfl (owS := []) (ow' := []) (ΓS := fun _ : Empty => []) (Γ' := fun _ : Empty => []) (cr := fun r : (Int) × St4 => cI r.1) (ci := fun r : (Int) × St4 => cSt r.2) (G := g__law_draw) (d := o__law_draw) (fun A0 p cdv A outer s H E hr hg => by
    have hu : (A.deeper (envOfC _ (defScope (topS 30)) s.heap.objs.size _ cdv)).units + 64 < cLine := Nat.lt_of_le_of_lt (Nat.add_le_add_left (by decide) _) (room_un hr)
    have key : Dss (XF P w K mg base ["state", "many", "taken"] "_law_draw" (topS 30) (ad 30) cdv A outer s H E) ⟨A0, [], some p⟩ [0] (fun a : E0__law_draw => some (.list (cSt a.2)) :: (((ac cI an) a.1).map some ++ List.replicate 1 none)) (fun r : (Int) × St4 => cI r.1) (fun r : (Int) × St4 => cSt r.2) [] (fun _ : Empty => []) (defBody (topS 30)) _ _ [] (fun _ : Empty => []) := (s_ifR (Dw.dt (w_andP (t_cmp op_eq v_eqI (De.up (fun _ => rfl) (d_prjL 1 (fun t : St4 => t.2.1) (c := fun t : St4 => .list (cSt t)) (cb := cI) (fun _ => ⟨_, rfl, rfl⟩) (d_own 0 (fun q : E0__law_draw => q.2) (fun t : St4 => .list (cSt t)) (fun _ => rfl)) d_int)) d_int (nomark _)) (w_and1 (t_cmp op_ge v_ge (De.up (fun _ => rfl) (d_prjL 2 (fun t : St4 => t.2.2.1) (c := fun t : St4 => .list (cSt t)) (cb := cI) (fun _ => ⟨_, rfl, rfl⟩) (d_own 0 (fun q : E0__law_draw => q.2) (fun t : St4 => .list (cSt t)) (fun _ => rfl)) d_int)) (De.up (fun _ => rfl) (d_blt call_len_seq (v_len sq_L) T.z_len (by decide +kernel) (a_cons (d_prjL 0 (fun t : St4 => t.1) (c := fun t : St4 => .list (cSt t)) (cb := (cL cI)) (fun _ => ⟨_, rfl, rfl⟩) (d_own 0 (fun q : E0__law_draw => q.2) (fun t : St4 => .list (cSt t)) (fun _ => rfl)) d_int) a_nil))) (nomark _))))) (s_cons (s_setF (cs := cSt) (c := cI) 0 3 (fun q : E0__law_draw => q.2) (fun t a => (t.1, t.2.1, t.2.2.1, a)) (fun _ _ => rfl) (fun _ => by show _ < 4; decide) (fun _ => rfl) (d_op op_mod v_mod (d_ty call_int1 v_int T.z_int (by decide +kernel) (a_cons (d_op op_add v_add (d_op op_mul v_mul (De.up (fun _ => rfl) (d_prjL 3 (fun t : St4 => t.2.2.2) (c := fun t : St4 => .list (cSt t)) (cb := cI) (fun _ => ⟨_, rfl, rfl⟩) (d_own 0 (fun q : E0__law_draw => q.2) (fun t : St4 => .list (cSt t)) (fun _ => rfl)) d_int)) d_int) d_int) a_nil)) d_int)) (s_one (s_retS (r := fun v (q : E1__law_draw) => (v, q.2)) (fun _ _ => rfl) (fun _ _ => rfl) (d_op op_mod v_mod (d_ty call_int1 v_int T.z_int (by decide +kernel) (a_cons (d_op op_fdivW v_fdiv (De.up (fun _ => rfl) (d_prjL 3 (fun t : St4 => t.2.2.2) (c := fun t : St4 => .list (cSt t)) (cb := cI) (fun _ => ⟨_, rfl, rfl⟩) (d_own 0 (fun q : E1__law_draw => q.2) (fun t : St4 => .list (cSt t)) (fun _ => rfl)) d_int)) d_int) a_nil)) (d_var 1 (fun q : E1__law_draw => q.1.1.1) cI (fun _ => rfl)))))) (by intro ε n; (repeat' (first | (intro h; nomatch h) | split))) (s_cons (s_ifJ (t_cmp op_eq v_eqI (De.up (fun _ => rfl) (d_prjL 1 (fun t : St4 => t.2.1) (c := fun t : St4 => .list (cSt t)) (cb := cI) (fun _ => ⟨_, rfl, rfl⟩) (d_own 0 (fun q : E0__law_draw => q.2) (fun t : St4 => .list (cSt t)) (fun _ => rfl)) d_int)) d_int (nomark _)) (s_cons (s_setF (cs := cSt) (c := cI) 0 1 (fun q : E0__law_draw => q.2) (fun t a => (t.1, a, t.2.2.1, t.2.2.2)) (fun _ _ => rfl) (fun _ => by show _ < 4; decide) (fun _ => rfl) (d_blt call_abs v_abs T.z_abs (by decide +kernel) (a_cons (De.up (fun _ => rfl) (d_ix ix_list v_ixL (d_prjL 0 (fun t : St4 => t.1) (c := fun t : St4 => .list (cSt t)) (cb := (cL cI)) (fun _ => ⟨_, rfl, rfl⟩) (d_own 0 (fun q : E0__law_draw => q.2) (fun t : St4 => .list (cSt t)) (fun _ => rfl)) d_int) (De.wk (De.up (fun _ => rfl) (d_prjL 2 (fun t : St4 => t.2.2.1) (c := fun t : St4 => .list (cSt t)) (cb := cI) (fun _ => ⟨_, rfl, rfl⟩) (d_own 0 (fun q : E0__law_draw => q.2) (fun t : St4 => .list (cSt t)) (fun _ => rfl)) d_int))))) a_nil))) (s_cons (s_setF (cs := cSt) (c := cI) 0 2 (fun q : E1__law_draw => q.2) (fun t a => (t.1, t.2.1, a, t.2.2.2)) (fun _ _ => rfl) (fun _ => by show _ < 4; decide) (fun _ => rfl) (d_op op_add v_add (De.up (fun _ => rfl) (d_prjL 2 (fun t : St4 => t.2.2.1) (c := fun t : St4 => .list (cSt t)) (cb := cI) (fun _ => ⟨_, rfl, rfl⟩) (d_own 0 (fun q : E1__law_draw => q.2) (fun t : St4 => .list (cSt t)) (fun _ => rfl)) d_int)) d_int)) (s_end (ow2 := [0]) (Γ2 := fun q : E1__law_draw => [some (.list (cSt q.2)), some (cI q.1.1.1), none]) (fun q : E2__law_draw => (q.1.1, q.2)) (fun _ _ _ _ r => r)))) (s_end (ow2 := [0]) (Γ2 := fun q : E1__law_draw => [some (.list (cSt q.2)), some (cI q.1.1.1), none]) (fun q : E0__law_draw => (q, q.2)) (fun _ _ _ _ r => r)) (fun _ => rfl) (fun _ => rfl)) (s_cons (s_asg 2 (d_op op_mod v_mod (d_ty call_int1 v_int T.z_int (by decide +kernel) (a_cons (De.up (fun _ => rfl) (d_prjL 1 (fun t : St4 => t.2.1) (c := fun t : St4 => .list (cSt t)) (cb := cI) (fun _ => ⟨_, rfl, rfl⟩) (d_own 0 (fun q : E1__law_draw => q.2) (fun t : St4 => .list (cSt t)) (fun _ => rfl)) d_int)) a_nil)) (d_var 1 (fun q : E1__law_draw => q.1.1.1) cI (fun _ => rfl))) (hN := sc__law_draw.nd)) (s_cons (s_setF (cs := cSt) (c := cI) 0 1 (fun q : E3__law_draw => q.1.2) (fun t a => (t.1, a, t.2.2.1, t.2.2.2)) (fun _ _ => rfl) (fun _ => by show _ < 4; decide) (fun _ => rfl) (d_op op_fdivW v_fdiv (De.up (fun _ => rfl) (d_prjL 1 (fun t : St4 => t.2.1) (c := fun t : St4 => .list (cSt t)) (cb := cI) (fun _ => ⟨_, rfl, rfl⟩) (d_own 0 (fun q : E3__law_draw => q.1.2) (fun t : St4 => .list (cSt t)) (fun _ => rfl)) d_int)) (d_var 1 (fun q : E3__law_draw => q.1.1.1.1) cI (fun _ => rfl)))) (s_one (s_retS (r := fun v (q : E4__law_draw) => (v, q.2)) (fun _ _ => rfl) (fun _ _ => rfl) (d_var 2 (fun q : E4__law_draw => q.1.2) cI (fun _ => rfl))))))))
    exact dss_eq key (by kernel_rfl) (by kernel_rfl)) (fun _ h => h) (fun a _ => ret_ex (o__law_draw a))
abbrev E0__law_pick_LI : Type := ((List Int) × Unit) × St4
def o__law_pick_LI (a : E0__law_pick_LI) : Out Empty ((Int) × St4) Empty :=
  (let some := a.1.1; (let r1 := m__law_draw ((((some).length : Int), ()), a.2); (Out.rt ((ixD some r1.1), r1.2))))
def m__law_pick_LI (a : E0__law_pick_LI) : (Int) × St4 := (o__law_pick_LI a).ret
def g__law_pick_LI (a : E0__law_pick_LI) : Prop :=
  (let some := a.1.1; (let r1 := m__law_draw ((((some).length : Int), ()), a.2); (True ∧ ((((True ∧ True) ∧ True) ∧ True) ∧ (g__law_draw ((((some).length : Int), ()), a.2))) ∧ (CIx some r1.1))))
theorem sc__law_pick : FnScope ["state", "some"] ["state", "some"] (defScope (topS 31)) := ⟨rfl, rfl, rfl, by decide +kernel, rfl, by decide +kernel, by decide +kernel⟩
theorem b__law_pick {K : Y.Frag} {mg : Str → Option Value} {ad : Nat → Addr} {fd : Nat → FuncData} (T : Tx K mg ad fd) : Binds K (fd 31) ["state", "some"] [] := T.F31.binds (ps := ["state", "some"]) fun _ _ _ _ _ _ us hl => match us, hl with | [_, _], _ => rfl
theorem f__law_pick_LI {P : Program} {w : World} {K : Y.Frag} {mg : Str → Option Value} {base : Heap} {ad : Nat → Addr} {fd : Nat → FuncData} (T : Tx K mg ad fd) : FnG P w K mg base 2 (ad 31) (fd 31) ["state", "some"] (spS K (ac (cL cI) an) cSt cI g__law_pick_LI m__law_pick_LI) :=
  fn_state T.F31 sc__law_pick 0 (fun _ => rfl) rfl (owS := []) (ow' := []) (ΓS := fun _ : Empty => []) (Γ' := fun _ : Empty => []) (cr := fun r : (Int) × St4 => cI r.1) (ci := fun r : (Int) × St4 => cSt r.2) (G := g__law_pick_LI) (d := o__law_pick_LI) (fun A0 p cdv A outer s H E hr hg => by
    have hu : (A.deeper (envOfC _ (defScope (topS 31)) s.heap.objs.size _ cdv)).units + 64 < cLine := Nat.lt_of_le_of_lt (Nat.add_le_add_left (by decide) _) (room_un hr)
    have key : Dss (XF P w K mg base ["state", "some"] "_law_pick" (topS 31) (ad 31) cdv A outer s H E) ⟨A0, [], some p⟩ [0] (fun a : E0__law_pick_LI => some (.list (cSt a.2)) :: (((ac (cL cI) an) a.1).map some ++ List.replicate 0 none)) (fun r : (Int) × St4 => cI r.1) (fun r : (Int) × St4 => cSt r.2) [] (fun _ : Empty => []) (defBody (topS 31)) _ _ [] (fun _ : Empty => []) := (s_one (s_retS (r := fun v (q : E0__law_pick_LI) => (v, q.2)) (fun _ _ => rfl) (fun _ _ => rfl) (d_ix ix_list v_ixL (d_var 1 (fun q : E0__law_pick_LI => q.1.1) (cL cI) (fun _ => rfl)) (d_callS 0 (fun q : E0__law_pick_LI => q.2) (fun (q : E0__law_pick_LI) t => (q.1, t)) (fun _ => rfl) (fun _ _ => rfl) ((f__law_draw T).mono (by decide)) hr hg T.M30 T.F30.kp (b__law_draw T) (a_cons (d_blt call_len_seq (v_len sq_L) T.z_len (by decide +kernel) (a_cons (d_var 1 (fun q : E0__law_pick_LI => q.1.1) (cL cI) (fun _ => rfl)) a_nil)) a_nil)))))
    exact dss_eq key (by kernel_rfl) (by kernel_rfl)) (fun _ h => h) (fun a _ => ret_ex (o__law_pick_LI a))
abbrev E0__law_same_Q : Type := (Int × Int) × (Int × Int) × Unit
def o__law_same_Q (a : E0__law_same_Q) : Out Empty (Bool) Empty :=
  (let actual := a.1; let due := a.2.1; (Out.rt (((PyData.eqv ((c2 cI cI) actual) ((c2 cI cI) due)) && (decide (((c2 cI cI) actual).shown = ((c2 cI cI) due).shown))))))
def m__law_same_Q (a : E0__law_same_Q) : Bool := (o__law_same_Q a).ret
def g__law_same_Q (a : E0__law_same_Q) : Prop :=
  (let actual := a.1; let due := a.2.1; ((True ∧ True ∧ True) ∧ ((PyData.eqv ((c2 cI cI) actual) ((c2 cI cI) due)) = true → (((True ∧ True) ∧ (Shw ((c2 cI cI) actual))) ∧ ((True ∧ True) ∧ (Shw ((c2 cI cI) due))) ∧ True))))
theorem sc__law_same : FnScope ["actual", "due"] ["actual", "due"] (defScope (topS 32)) := ⟨rfl, rfl, rfl, by decide +kernel, rfl, by decide +kernel, by decide +kernel⟩
theorem b__law_same {K : Y.Frag} {mg : Str → Option Value} {ad : Nat → Addr} {fd : Nat → FuncData} (T : Tx K mg ad fd) : Binds K (fd 32) ["actual", "due"] [] := T.F32.binds (ps := ["actual", "due"]) fun _ _ _ _ _ _ us hl => match us, hl with | [_, _], _ => rfl
theorem f__law_same_Q {P : Program} {w : World} {K : Y.Frag} {mg : Str → Option Value} {base : Heap} {ad : Nat → Addr} {fd : Nat → FuncData} (T : Tx K mg ad fd) : FnG P w K mg base 1 (ad 32) (fd 32) ["actual", "due"] (spP K (ac (c2 cI cI) (ac (c2 cI cI) an)) cB g__law_same_Q m__law_same_Q) :=
  fn_pure T.F32 sc__law_same 0 (fun _ => rfl) rfl (owS := []) (ow' := []) (ΓS := fun _ : Empty => []) (Γ' := fun _ : Empty => []) (cr := cB) (ci := fun _ => []) (G := g__law_same_Q) (d := o__law_same_Q) (fun A0 cdv A outer s H E hr hg => by
    have hu : (A.deeper (envOfC _ (defScope (topS 32)) s.heap.objs.size _ cdv)).units + 64 < cLine := Nat.lt_of_le_of_lt (Nat.add_le_add_left (by decide) _) (room_un hr)
    have key : Dss (XF P w K mg base ["actual", "due"] "_law_same" (topS 32) (ad 32) cdv A outer s H E) ⟨A0, [], none⟩ [] (fun a : E0__law_same_Q => ((ac (c2 cI cI) (ac (c2 cI cI) an)) a).map some ++ List.replicate 0 none) cB (fun _ => []) [] (fun _ : Empty => []) (defBody (topS 32)) _ _ [] (fun _ : Empty => []) := (s_one (s_ret (r := fun v (_ : E0__law_same_Q) => v) (fun _ _ => rfl) rfl (d_and ((d_cmp (op_eqD hu) (v_eqD (cq_2 cq_I cq_I) (cq_2 cq_I cq_I)) (d_var 0 (fun q : E0__law_same_Q => q.1) (c2 cI cI) (fun _ => rfl)) (d_var 1 (fun q : E0__law_same_Q => q.2.1) (c2 cI cI) (fun _ => rfl)) (nomark _))) (d_one (d_cmp op_eq v_eqS (d_blt (cr_repr hg (room_un hr)) (v_repr (c := (c2 cI cI))) T.z_repr (by decide +kernel) (a_cons (d_var 0 (fun q : E0__law_same_Q => q.1) (c2 cI cI) (fun _ => rfl)) a_nil)) (d_blt (cr_repr hg (room_un hr)) (v_repr (c := (c2 cI cI))) T.z_repr (by decide +kernel) (a_cons (d_var 1 (fun q : E0__law_same_Q => q.2.1) (c2 cI cI) (fun _ => rfl)) a_nil)) (nomark _))))))
    exact dss_eq key (by kernel_rfl) (by kernel_rfl)) (fun _ h => h) (fun a _ => ends_ret (fun r => r) (fun _ => rfl) (o__law_same_Q a))
abbrev E0__law_same_TI : Type := (List Int) × (List Int) × Unit
def o__law_same_TI (a : E0__law_same_TI) : Out Empty (Bool) Empty :=
  (let actual := a.1; let due := a.2.1; (Out.rt (((PyData.eqv ((cT cI) actual) ((cT cI) due)) && (decide (((cT cI) actual).shown = ((cT cI) due).shown))))))
def m__law_same_TI (a : E0__law_same_TI) : Bool := (o__law_same_TI a).ret
def g__law_same_TI (a : E0__law_same_TI) : Prop :=
  (let actual := a.1; let due := a.2.1; ((True ∧ True ∧ True) ∧ ((PyData.eqv ((cT cI) actual) ((cT cI) due)) = true → (((True ∧ True) ∧ (Shw ((cT cI) actual))) ∧ ((True ∧ True) ∧ (Shw ((cT cI) due))) ∧ True))))
theorem f__law_same_TI {P : Program} {w : World} {K : Y.Frag} {mg : Str → Option Value} {base : Heap} {ad : Nat → Addr} {fd : Nat → FuncData} (T : Tx K mg ad fd) : FnG P w K mg base 1 (ad 32) (fd 32) ["actual", "due"] (spP K (ac (cT cI) (ac (cT cI) an)) cB g__law_same_TI m__law_same_TI) :=
  fn_pure T.F32 sc__law_same 0 (fun _ => rfl) rfl (owS := []) (ow' := []) (ΓS := fun _ : Empty => []) (Γ' := fun _ : Empty => []) (cr := cB) (ci := fun _ => []) (G := g__law_same_TI) (d := o__law_same_TI) (fun A0 cdv A outer s H E hr hg => by
    have hu : (A.deeper (envOfC _ (defScope (topS 32)) s.heap.objs.size _ cdv)).units + 64 < cLine := Nat.lt_of_le_of_lt (Nat.add_le_add_left (by decide) _) (room_un hr)
    have key : Dss (XF P w K mg base ["actual", "due"] "_law_same" (topS 32) (ad 32) cdv A outer s H E) ⟨A0, [], none⟩ [] (fun a : E0__law_same_TI => ((ac (cT cI) (ac (cT cI) an)) a).map some ++ List.replicate 0 none) cB (fun _ => []) [] (fun _ : Empty => []) (defBody (topS 32)) _ _ [] (fun _ : Empty => []) := (s_one (s_ret (r := fun v (_ : E0__law_same_TI) => v) (fun _ _ => rfl) rfl (d_and ((d_cmp (op_eqD hu) (v_eqD (cq_T cq_I) (cq_T cq_I)) (d_var 0 (fun q : E0__law_same_TI => q.1) (cT cI) (fun _ => rfl)) (d_var 1 (fun q : E0__law_same_TI => q.2.1) (cT cI) (fun _ => rfl)) (nomark _))) (d_one (d_cmp op_eq v_eqS (d_blt (cr_repr hg (room_un hr)) (v_repr (c := (cT cI))) T.z_repr (by decide +kernel) (a_cons (d_var 0 (fun q : E0__law_same_TI => q.1) (cT cI) (fun _ => rfl)) a_nil)) (d_blt (cr_repr hg (room_un hr)) (v_repr (c := (cT cI))) T.z_repr (by decide +kernel) (a_cons (d_var 1 (fun q : E0__law_same_TI => q.2.1) (cT cI) (fun _ => rfl)) a_nil)) (nomark _))))))
    exact dss_eq key (by kernel_rfl) (by kernel_rfl)) (fun _ h => h) (fun a _ => ends_ret (fun r => r) (fun _ => rfl) (o__law_same_TI a))
abbrev E0__law_same_LQ : Type := (List (Int × Int)) × (List (Int × Int)) × Unit
def o__law_same_LQ (a : E0__law_same_LQ) : Out Empty (Bool) Empty :=
  (let actual := a.1; let due := a.2.1; (Out.rt (((PyData.eqv ((cL (c2 cI cI)) actual) ((cL (c2 cI cI)) due)) && (decide (((cL (c2 cI cI)) actual).shown = ((cL (c2 cI cI)) due).shown))))))
def m__law_same_LQ (a : E0__law_same_LQ) : Bool := (o__law_same_LQ a).ret
def g__law_same_LQ (a : E0__law_same_LQ) : Prop :=
  (let actual := a.1; let due := a.2.1; ((True ∧ True ∧ True) ∧ ((PyData.eqv ((cL (c2 cI cI)) actual) ((cL (c2 cI cI)) due)) = true → (((True ∧ True) ∧ (Shw ((cL (c2 cI cI)) actual))) ∧ ((True ∧ True) ∧ (Shw ((cL (c2 cI cI)) due))) ∧ True))))
theorem f__law_same_LQ {P : Program} {w : World} {K : Y.Frag} {mg : Str → Option Value} {base : Heap} {ad : Nat → Addr} {fd : Nat → FuncData} (T : Tx K mg ad fd) : FnG P w K mg base 1 (ad 32) (fd 32) ["actual", "due"] (spP K (ac (cL (c2 cI cI)) (ac (cL (c2 cI cI)) an)) cB g__law_same_LQ m__law_same_LQ) :=
  fn_pure T.F32 sc__law_same 0 (fun _ => rfl) rfl (owS := []) (ow' := []) (ΓS := fun _ : Empty => []) (Γ' := fun _ : Empty => []) (cr := cB) (ci := fun _ => []) (G := g__law_same_LQ) (d := o__law_same_LQ) (fun A0 cdv A outer s H E hr hg => by
    have hu : (A.deeper (envOfC _ (defScope (topS 32)) s.heap.objs.size _ cdv)).units + 64 < cLine := Nat.lt_of_le_of_lt (Nat.add_le_add_left (by decide) _) (room_un hr)
    have key : Dss (XF P w K mg base ["actual", "due"] "_law_same" (topS 32) (ad 32) cdv A outer s H E) ⟨A0, [], none⟩ [] (fun a : E0__law_same_LQ => ((ac (cL (c2 cI cI)) (ac (cL (c2 cI cI)) an)) a).map some ++ List.replicate 0 none) cB (fun _ => []) [] (fun _ : Empty => []) (defBody (topS 32)) _ _ [] (fun _ : Empty => []) := (s_one (s_ret (r := fun v (_ : E0__law_same_LQ) => v) (fun _ _ => rfl) rfl (d_and ((d_cmp (op_eqD hu) (v_eqD (cq_L (cq_2 cq_I cq_I)) (cq_L (cq_2 cq_I cq_I))) (d_var 0 (fun q : E0__law_same_LQ => q.1) (cL (c2 cI cI)) (fun _ => rfl)) (d_var 1 (fun q : E0__law_same_LQ => q.2.1) (cL (c2 cI cI)) (fun _ => rfl)) (nomark _))) (d_one (d_cmp op_eq v_eqS (d_blt (cr_repr hg (room_un hr)) (v_repr (c := (cL (c2 cI cI)))) T.z_repr (by decide +kernel) (a_cons (d_var 0 (fun q : E0__law_same_LQ => q.1) (cL (c2 cI cI)) (fun _ => rfl)) a_nil)) (d_blt (cr_repr hg (room_un hr)) (v_repr (c := (cL (c2 cI cI)))) T.z_repr (by decide +kernel) (a_cons (d_var 1 (fun q : E0__law_same_LQ => q.2.1) (cL (c2 cI cI)) (fun _ => rfl)) a_nil)) (nomark _))))))
    exact dss_eq key (by kernel_rfl) (by kernel_rfl)) (fun _ h => h) (fun a _ => ends_ret (fun r => r) (fun _ => rfl) (o__law_same_LQ a))
abbrev E0__law_low : Type := Int × Int × Unit
abbrev E1__law_low : Type := E0__law_low × Int
abbrev E2__law_low : Type := E1__law_low × Int
abbrev E3__law_low : Type := Int × Int
abbrev E4__law_low : Type := E3__law_low × Int
abbrev E5__law_low : Type := E4__law_low × Int
abbrev E6__law_low : Type := E2__law_low × E3__law_low
def k1__law_low (q4 : E3__law_low) : Out E3__law_low (Int × Int) E3__law_low :=
  (let one5 : Int := q4.2; let other6 : Int := (q4.1 % q4.2); (Out.nx ((one5, other6))))
def kg1__law_low (q4 : E3__law_low) : Prop :=
  ((True ∧ ((((True ∧ True) ∧ True) ∧ True ∧ ((0 : Int) < q4.2)) ∧ True)) ∧ (let one5 : Int := q4.2; let other6 : Int := (q4.1 % q4.2); True))
def kt1__law_low (q4 : E3__law_low) : Bool :=
  (!decide (q4.2 = (0 : Int)))
def ktg1__law_low (q4 : E3__law_low) : Prop :=
  (True ∧ True ∧ True)
def o__law_low (a : E0__law_low) : Out Empty (Int × Int) Empty :=
  (let up := a.1; let down := a.2.1; (let one1 : Int := (((up).natAbs : Nat) : Int); let other2 : Int := down; ((whO kt1__law_low k1__law_low (((Int.toNat other2) + 1)) (one1, other2)).bind (fun l7 : E3__law_low => (Out.rt (((up / l7.1), (down / l7.1))))))))
def m__law_low (a : E0__law_low) : Int × Int := (o__law_low a).ret
def g__law_low (a : E0__law_low) : Prop :=
  (let up := a.1; let down := a.2.1; ((((True ∧ True) ∧ True) ∧ (True ∧ True)) ∧ (let one1 : Int := (((up).natAbs : Nat) : Int); let other2 : Int := down; ((whG ktg1__law_low kt1__law_low kg1__law_low k1__law_low (((Int.toNat other2) + 1)) (one1, other2)) ∧ (∀ l7 : E3__law_low, (whO kt1__law_low k1__law_low (((Int.toNat other2) + 1)) (one1, other2)) = Out.nx (S := Empty) l7 → ((True ∧ True ∧ (CDivW up l7.1)) ∧ ((True ∧ True ∧ (CDivW down l7.1)) ∧ True)))))))
theorem sc__law_low : FnScope ["up", "down", "one", "other"] ["up", "down"] (defScope (topS 33)) := ⟨rfl, rfl, rfl, by decide +kernel, rfl, by decide +kernel, by decide +kernel⟩
theorem b__law_low {K : Y.Frag} {mg : Str → Option Value} {ad : Nat → Addr} {fd : Nat → FuncData} (T : Tx K mg ad fd) : Binds K (fd 33) ["up", "down"] [] := T.F33.binds (ps := ["up", "down"]) fun _ _ _ _ _ _ us hl => match us, hl with | [_, _], _ => rfl
theorem f__law_low {P : Program} {w : World} {K : Y.Frag} {mg : Str → Option Value} {base : Heap} {ad : Nat → Addr} {fd : Nat → FuncData} (T : Tx K mg ad fd) : FnG P w K mg base 1 (ad 33) (fd 33) ["up", "down"] (spP K (ac cI (ac cI an)) (c2 cI cI) g__law_low m__law_low) :=
  fn_pure T.F33 sc__law_low 2 (fun _ => rfl) rfl (owS := []) (ow' := []) (ΓS := fun _ : Empty => []) (Γ' := fun _ : Empty => []) (cr := (c2 cI cI)) (ci := fun _ => []) (G := g__law_low) (d := o__law_low) (fun A0 cdv A outer s H E hr hg => by
    have hu : (A.deeper (envOfC _ (defScope (topS 33)) s.heap.objs.size _ cdv)).units + 64 < cLine := Nat.lt_of_le_of_lt (Nat.add_le_add_left (by decide) _) (room_un hr)
    have key : Dss (XF P w K mg base ["up", "down", "one", "other"] "_law_low" (topS 33) (ad 33) cdv A outer s H E) ⟨A0, [], none⟩ [] (fun a : E0__law_low => ((ac cI (ac cI an)) a).map some ++ List.replicate 2 none) (c2 cI cI) (fun _ => []) [] (fun _ : Empty => []) (defBody (topS 33)) _ _ [] (fun _ : Empty => []) := (s_cons (s_par 2 3 (ca := cI) (cb := cI) (ga := fun x : Int × Int × Unit => x.1) (gb := fun x : Int × Int × Unit => x.2.1) (a_cons (d_blt call_abs v_abs T.z_abs (by decide +kernel) (a_cons (d_var 0 (fun q : E0__law_low => q.1) cI (fun _ => rfl)) a_nil)) (a_cons (d_var 1 (fun q : E0__law_low => q.2.1) cI (fun _ => rfl)) a_nil)) (fun _ => rfl) rfl (hN := sc__law_low.nd)) (s_consK (s_whileP (ΓL := (fun (e3 : E2__law_low) (m : E3__law_low) => [some (cI e3.1.1.1), some (cI e3.1.1.2.1), some (cI m.1), some (cI m.2)])) (fun q : E2__law_low => (q.1.2, q.2)) (fun (e3 : E2__law_low) (m : E3__law_low) => ((Int.toNat m.2) + 1)) (fun _ _ _ _ r => r) (fun e3 : E2__law_low => (t_cmp op_ne v_neI (d_var 3 (fun q : E3__law_low => q.2) cI (fun _ => rfl)) d_int (nomark _))) (fun e3 : E2__law_low => (s_cons (s_par 2 3 (ca := cI) (cb := cI) (ga := fun x : Int × Int × Unit => x.1) (gb := fun x : Int × Int × Unit => x.2.1) (a_cons (d_var 3 (fun q : E3__law_low => q.2) cI (fun _ => rfl)) (a_cons (d_op op_mod v_mod (d_ty call_int1 v_int T.z_int (by decide +kernel) (a_cons (d_var 2 (fun q : E3__law_low => q.1) cI (fun _ => rfl)) a_nil)) (d_var 3 (fun q : E3__law_low => q.2) cI (fun _ => rfl))) a_nil)) (fun _ => rfl) rfl (hN := sc__law_low.nd)) (s_end (ow2 := []) (Γ2 := (fun m : E3__law_low => [some (cI e3.1.1.1), some (cI e3.1.1.2.1), some (cI m.1), some (cI m.2)])) (fun q : E5__law_low => (q.1.2, q.2)) (fun _ _ _ _ r => r)))) PassesOwn.never) (s_one (s_ret (r := fun v (_ : E6__law_low) => v) (fun _ _ => rfl) rfl (d_tp2 (a_cons (d_op op_fdivW v_fdiv (d_var 0 (fun q : E6__law_low => q.1.1.1.1) cI (fun _ => rfl)) (d_var 2 (fun q : E6__law_low => q.2.1) cI (fun _ => rfl))) (a_cons (d_op op_fdivW v_fdiv (d_var 1 (fun q : E6__law_low => q.1.1.1.2.1) cI (fun _ => rfl)) (d_var 2 (fun q : E6__law_low => q.2.1) cI (fun _ => rfl))) a_nil)))))))
    exact dss_eq key (by kernel_rfl) (by kernel_rfl)) (fun _ h => h) (fun a _ => ends_ret (fun r => r) (fun _ => rfl) (o__law_low a))
abbrev E0__law_plus : Type := (Int × Int) × (Int × Int) × Unit
def o__law_plus (a : E0__law_plus) : Out Empty (Int × Int) Empty :=
  (let one := a.1; let other := a.2.1; (Out.rt ((m__law_low (((one.1 * other.2) + (other.1 * one.2)), (one.2 * other.2), ())))))
def m__law_plus (a : E0__law_plus) : Int × Int := (o__law_plus a).ret
def g__law_plus (a : E0__law_plus) : Prop :=
  (let one := a.1; let other := a.2.1; ((((True ∧ True ∧ (CMulW one.1 other.2)) ∧ (True ∧ True ∧ (CMulW other.1 one.2)) ∧ True) ∧ ((True ∧ True ∧ (CMulW one.2 other.2)) ∧ True)) ∧ (g__law_low (((one.1 * other.2) + (other.1 * one.2)), (one.2 * other.2), ()))))
theorem sc__law_plus : FnScope ["one", "other"] ["one", "other"] (defScope (topS 34)) := ⟨rfl, rfl, rfl, by decide +kernel, rfl, by decide +kernel, by decide +kernel⟩
theorem b__law_plus {K : Y.Frag} {mg : Str → Option Value} {ad : Nat → Addr} {fd : Nat → FuncData} (T : Tx K mg ad fd) : Binds K (fd 34) ["one", "other"] [] := T.F34.binds (ps := ["one", "other"]) fun _ _ _ _ _ _ us hl => match us, hl with | [_, _], _ => rfl
theorem f__law_plus {P : Program} {w : World} {K : Y.Frag} {mg : Str → Option Value} {base : Heap} {ad : Nat → Addr} {fd : Nat → FuncData} (T : Tx K mg ad fd) : FnG P w K mg base 2 (ad 34) (fd 34) ["one", "other"] (spP K (ac (c2 cI cI) (ac (c2 cI cI) an)) (c2 cI cI) g__law_plus m__law_plus) :=
  fn_pure T.F34 sc__law_plus 0 (fun _ => rfl) rfl (owS := []) (ow' := []) (ΓS := fun _ : Empty => []) (Γ' := fun _ : Empty => []) (cr := (c2 cI cI)) (ci := fun _ => []) (G := g__law_plus) (d := o__law_plus) (fun A0 cdv A outer s H E hr hg => by
    have hu : (A.deeper (envOfC _ (defScope (topS 34)) s.heap.objs.size _ cdv)).units + 64 < cLine := Nat.lt_of_le_of_lt (Nat.add_le_add_left (by decide) _) (room_un hr)
    have key : Dss (XF P w K mg base ["one", "other"] "_law_plus" (topS 34) (ad 34) cdv A outer s H E) ⟨A0, [], none⟩ [] (fun a : E0__law_plus => ((ac (c2 cI cI) (ac (c2 cI cI) an)) a).map some ++ List.replicate 0 none) (c2 cI cI) (fun _ => []) [] (fun _ : Empty => []) (defBody (topS 34)) _ _ [] (fun _ : Empty => []) := (s_one (s_ret (r := fun v (_ : E0__law_plus) => v) (fun _ _ => rfl) rfl (d_call ((f__law_low T).mono (by decide)) hr hg T.M33 T.F33.kp (b__law_low T) (a_cons (d_op op_add v_add (d_op op_mulW v_mulW (d_prj 0 (fun x : Int × Int => x.1) (cb := cI) (fun _ => ⟨_, rfl, rfl⟩) (d_var 0 (fun q : E0__law_plus => q.1) (c2 cI cI) (fun _ => rfl)) d_int) (d_prj 1 (fun x : Int × Int => x.2) (cb := cI) (fun _ => ⟨_, rfl, rfl⟩) (d_var 1 (fun q : E0__law_plus => q.2.1) (c2 cI cI) (fun _ => rfl)) d_int)) (d_op op_mulW v_mulW (d_prj 0 (fun x : Int × Int => x.1) (cb := cI) (fun _ => ⟨_, rfl, rfl⟩) (d_var 1 (fun q : E0__law_plus => q.2.1) (c2 cI cI) (fun _ => rfl)) d_int) (d_prj 1 (fun x : Int × Int => x.2) (cb := cI) (fun _ => ⟨_, rfl, rfl⟩) (d_var 0 (fun q : E0__law_plus => q.1) (c2 cI cI) (fun _ => rfl)) d_int))) (a_cons (d_op op_mulW v_mulW (d_prj 1 (fun x : Int × Int => x.2) (cb := cI) (fun _ => ⟨_, rfl, rfl⟩) (d_var 0 (fun q : E0__law_plus => q.1) (c2 cI cI) (fun _ => rfl)) d_int) (d_prj 1 (fun x : Int × Int => x.2) (cb := cI) (fun _ => ⟨_, rfl, rfl⟩) (d_var 1 (fun q : E0__law_plus => q.2.1) (c2 cI cI) (fun _ => rfl)) d_int)) a_nil)))))
    exact dss_eq key (by kernel_rfl) (by kernel_rfl)) (fun _ h => h) (fun a _ => ends_ret (fun r => r) (fun _ => rfl) (o__law_plus a))
abbrev E0__law_mul : Type := (Int × Int) × (Int × Int) × Unit
def o__law_mul (a : E0__law_mul) : Out Empty (Int × Int) Empty :=
  (let one := a.1; let other := a.2.1; (Out.rt ((m__law_low ((one.1 * other.1), (one.2 * other.2), ())))))
def m__law_mul (a : E0__law_mul) : Int × Int := (o__law_mul a).ret
def g__law_mul (a : E0__law_mul) : Prop :=
  (let one := a.1; let other := a.2.1; (((True ∧ True ∧ (CMulW one.1 other.1)) ∧ ((True ∧ True ∧ (CMulW one.2 other.2)) ∧ True)) ∧ (g__law_low ((one.1 * other.1), (one.2 * other.2), ()))))
theorem sc__law_mul : FnScope ["one", "other"] ["one", "other"] (defScope (topS 35)) := ⟨rfl, rfl, rfl, by decide +kernel, rfl, by decide +kernel, by decide +kernel⟩
theorem b__law_mul {K : Y.Frag} {mg : Str → Option Value} {ad : Nat → Addr} {fd : Nat → FuncData} (T : Tx K mg ad fd) : Binds K (fd 35) ["one", "other"] [] := T.F35.binds (ps := ["one", "other"]) fun _ _ _ _ _ _ us hl => match us, hl with | [_, _], _ => rfl
theorem f__law_mul {P : Program} {w : World} {K : Y.Frag} {mg : Str → Option Value} {base : Heap} {ad : Nat → Addr} {fd : Nat → FuncData} (T : Tx K mg ad fd) : FnG P w K mg base 2 (ad 35) (fd 35) ["one", "other"] (spP K (ac (c2 cI cI) (ac (c2 cI cI) an)) (c2 cI cI) g__law_mul m__law_mul) :=
  fn_pure T.F35 sc__law_mul 0 (fun _ => rfl) rfl (owS := []) (ow' := []) (ΓS := fun _ : Empty => []) (Γ' := fun _ : Empty => []) (cr := (c2 cI cI)) (ci := fun _ => []) (G := g__law_mul) (d := o__law_mul) (fun A0 cdv A outer s H E hr hg => by
    have hu : (A.deeper (envOfC _ (defScope (topS 35)) s.heap.objs.size _ cdv)).units + 64 < cLine := Nat.lt_of_le_of_lt (Nat.add_le_add_left (by decide) _) (room_un hr)
    have key : Dss (XF P w K mg base ["one", "other"] "_law_mul" (topS 35) (ad 35) cdv A outer s H E) ⟨A0, [], none⟩ [] (fun a : E0__law_mul => ((ac (c2 cI cI) (ac (c2 cI cI) an)) a).map some ++ List.replicate 0 none) (c2 cI cI) (fun _ => []) [] (fun _ : Empty => []) (defBody (topS 35)) _ _ [] (fun _ : Empty => []) := (s_one (s_ret (r := fun v (_ : E0__law_mul) => v) (fun _ _ => rfl) rfl (d_call ((f__law_low T).mono (by decide)) hr hg T.M33 T.F33.kp (b__law_low T) (a_cons (d_op op_mulW v_mulW (d_prj 0 (fun x : Int × Int => x.1) (cb := cI) (fun _ => ⟨_, rfl, rfl⟩) (d_var 0 (fun q : E0__law_mul => q.1) (c2 cI cI) (fun _ => rfl)) d_int) (d_prj 0 (fun x : Int × Int => x.1) (cb := cI) (fun _ => ⟨_, rfl, rfl⟩) (d_var 1 (fun q : E0__law_mul => q.2.1) (c2 cI cI) (fun _ => rfl)) d_int)) (a_cons (d_op op_mulW v_mulW (d_prj 1 (fun x : Int × Int => x.2) (cb := cI) (fun _ => ⟨_, rfl, rfl⟩) (d_var 0 (fun q : E0__law_mul => q.1) (c2 cI cI) (fun _ => rfl)) d_int) (d_prj 1 (fun x : Int × Int => x.2) (cb := cI) (fun _ => ⟨_, rfl, rfl⟩) (d_var 1 (fun q : E0__law_mul => q.2.1) (c2 cI cI) (fun _ => rfl)) d_int)) a_nil)))))
    exact dss_eq key (by kernel_rfl) (by kernel_rfl)) (fun _ h => h) (fun a _ => ends_ret (fun r => r) (fun _ => rfl) (o__law_mul a))
abbrev E0__law_lengths : Type := (Unit) × St4
abbrev E1__law_lengths : Type := E0__law_lengths × Int
def c1__law_lengths (s3 : St4) (x1 : Int) : Int × St4 :=
  (let r4 := m__law_draw (((30 : Int), ()), s3); (((1 : Int) + r4.1), r4.2))
def cg1__law_lengths (s3 : St4) (x1 : Int) : Prop :=
  (let r4 := m__law_draw (((30 : Int), ()), s3); (True ∧ ((True ∧ True) ∧ (g__law_draw (((30 : Int), ()), s3))) ∧ True))
abbrev E2__law_lengths : Type := E0__law_lengths × (List Int)
abbrev E3__law_lengths : Type := E2__law_lengths × Int
def c2__law_lengths (some6 : List Int) (s14 : St4) (x8 : Int) : Int × St4 :=
  (let r15 := m__law_draw (((2 : Int), ()), s14); let i18 : Int := (if (decide (r15.1 = (0 : Int))) = true then (let r16 := m__law_pick_LI ((some6, ()), r15.2); r16.1) else (let r17 := m__law_draw (((60 : Int), ()), r15.2); ((1 : Int) + r17.1))); let i19 : St4 := (if (decide (r15.1 = (0 : Int))) = true then (let r16 := m__law_pick_LI ((some6, ()), r15.2); r16.2) else (let r17 := m__law_draw (((60 : Int), ()), r15.2); r17.2)); (i18, i19))
def cg2__law_lengths (some6 : List Int) (s14 : St4) (x8 : Int) : Prop :=
  (let r15 := m__law_draw (((2 : Int), ()), s14); let i18 : Int := (if (decide (r15.1 = (0 : Int))) = true then (let r16 := m__law_pick_LI ((some6, ()), r15.2); r16.1) else (let r17 := m__law_draw (((60 : Int), ()), r15.2); ((1 : Int) + r17.1))); let i19 : St4 := (if (decide (r15.1 = (0 : Int))) = true then (let r16 := m__law_pick_LI ((some6, ()), r15.2); r16.2) else (let r17 := m__law_draw (((60 : Int), ()), r15.2); r17.2)); ((((True ∧ True) ∧ (g__law_draw (((2 : Int), ()), s14))) ∧ True ∧ True) ∧ ((decide (r15.1 = (0 : Int))) = true → (let r16 := m__law_pick_LI ((some6, ()), r15.2); ((True ∧ True) ∧ (g__law_pick_LI ((some6, ()), r15.2))))) ∧ ((decide (r15.1 = (0 : Int))) = false → (let r17 := m__law_draw (((60 : Int), ()), r15.2); (True ∧ ((True ∧ True) ∧ (g__law_draw (((60 : Int), ()), r15.2))) ∧ True)))))
def o__law_lengths (a : E0__law_lengths) : Out Empty ((List Int) × St4) Empty :=
  (let r5 := lcS c1__law_lengths a.2 ((rng 0 ((2 : Int)))); (let some6 : List Int := r5.1; (let r7 := m__law_draw (((5 : Int), ()), r5.2); let r20 := lcS (c2__law_lengths some6) r7.2 ((rng 0 (((1 : Int) + r7.1)))); (Out.rt (r20.1, r20.2)))))
def m__law_lengths (a : E0__law_lengths) : (List Int) × St4 := (o__law_lengths a).ret
def g__law_lengths (a : E0__law_lengths) : Prop :=
  (let r5 := lcS c1__law_lengths a.2 ((rng 0 ((2 : Int)))); ((((True ∧ True) ∧ (CRg 0 ((2 : Int)))) ∧ (lcG cg1__law_lengths c1__law_lengths a.2 ((rng 0 ((2 : Int)))))) ∧ (let some6 : List Int := r5.1; (let r7 := m__law_draw (((5 : Int), ()), r5.2); let r20 := lcS (c2__law_lengths some6) r7.2 ((rng 0 (((1 : Int) + r7.1)))); ((((((True ∧ ((True ∧ True) ∧ (g__law_draw (((5 : Int), ()), r5.2))) ∧ True) ∧ True) ∧ (CRg 0 (((1 : Int) + r7.1)))) ∧ (lcG (cg2__law_lengths some6) (c2__law_lengths some6) r7.2 ((rng 0 (((1 : Int) + r7.1)))))) ∧ True) ∧ True)))))
theorem sc__law_lengths : FnScope ["state", "some", "k"] ["state"] (defScope (topS 36)) := ⟨rfl, rfl, rfl, by decide +kernel, rfl, by decide +kernel, by decide +kernel⟩
theorem b__law_lengths {K : Y.Frag} {mg : Str → Option Value} {ad : Nat → Addr} {fd : Nat → FuncData} (T : Tx K mg ad fd) : Binds K (fd 36) ["state"] [] := T.F36.binds (ps := ["state"]) fun _ _ _ _ _ _ us hl => match us, hl with | [_], _ => rfl
theorem f__law_lengths {P : Program} {w : World} {K : Y.Frag} {mg : Str → Option Value} {base : Heap} {ad : Nat → Addr} {fd : Nat → FuncData} (T : Tx K mg ad fd) : FnG P w K mg base 3 (ad 36) (fd 36) ["state"] (spS K an cSt (cT cI) g__law_lengths m__law_lengths) :=
  fn_state T.F36 sc__law_lengths 2 (fun _ => rfl) rfl (owS := []) (ow' := []) (ΓS := fun _ : Empty => []) (Γ' := fun _ : Empty => []) (cr := fun r : (List Int) × St4 => (cT cI) r.1) (ci := fun r : (List Int) × St4 => cSt r.2) (G := g__law_lengths) (d := o__law_lengths) (fun A0 p cdv A outer s H E hr hg => by
    have hu : (A.deeper (envOfC _ (defScope (topS 36)) s.heap.objs.size _ cdv)).units + 64 < cLine := Nat.lt_of_le_of_lt (Nat.add_le_add_left (by decide) _) (room_un hr)
    have key : Dss (XF P w K mg base ["state", "some", "k"] "_law_lengths" (topS 36) (ad 36) cdv A outer s H E) ⟨A0, [], some p⟩ [0] (fun a : E0__law_lengths => some (.list (cSt a.2)) :: ((an a.1).map some ++ List.replicate 2 none)) (fun r : (List Int) × St4 => (cT cI) r.1) (fun r : (List Int) × St4 => cSt r.2) [] (fun _ : Empty => []) (defBody (topS 36)) _ _ [] (fun _ : Empty => []) := (s_cons (s_asg 1 (DL.de (d_lcS (fun q : E0__law_lengths => q.2) (fun (q : E0__law_lengths) t => (q.1, t)) (fun _ _ _ => rfl) (fun _ => rfl) (fun _ _ => rfl) (tg_name 2) (tgf_name 2) (fun _ _ _ => rfl) (fun _ t t' i d hi h => hfz_of 0 (by decide) (x := some (.list (cSt t'))) rfl hi h) (i_rng1 (a_cons d_int a_nil) T.z_range) (blkOk_by (N := ["state", "some", "k"]) (sc := defScope (topS 36)) (own := [("k", 2)]) (by decide +kernel)) (fun _ _ _ _ _ => (pg_name (i := 2) sc__law_lengths.nd rfl (by first | exact .inl rfl | exact .inr rfl))) (fun _ _ _ _ _ _ => (d_op op_add v_add d_int (d_callS 0 (fun q : E1__law_lengths => q.1.2) (fun (q : E1__law_lengths) t => ((q.1.1, t), q.2)) (fun _ => rfl) (fun _ _ => rfl) ((f__law_draw T).mono (by decide)) hr hg T.M30 T.F30.kp (b__law_draw T) (a_cons d_int a_nil)))) (own := [("k", 2)]) (hN := sc__law_lengths.nd))) (hN := sc__law_lengths.nd)) (s_one (s_retS (r := fun v (q : E2__law_lengths) => (v, q.1.2)) (fun _ _ => rfl) (fun _ _ => rfl) (d_ty call_tuple_of (v_tuple sq_L) T.z_tuple (by decide +kernel) (a_cons (DL.de (d_lcS (fun q : E2__law_lengths => q.1.2) (fun (q : E2__law_lengths) t => ((q.1.1, t), q.2)) (fun _ _ _ => rfl) (fun _ => rfl) (fun _ _ => rfl) (tg_name 2) (tgf_name 2) (fun _ _ _ => rfl) (fun _ t t' i d hi h => hfz_of 0 (by decide) (x := some (.list (cSt t'))) rfl hi h) (i_rng1 (a_cons (d_op op_add v_add d_int (d_callS 0 (fun q : E2__law_lengths => q.1.2) (fun (q : E2__law_lengths) t => ((q.1.1, t), q.2)) (fun _ => rfl) (fun _ _ => rfl) ((f__law_draw T).mono (by decide)) hr hg T.M30 T.F30.kp (b__law_draw T) (a_cons d_int a_nil))) a_nil) T.z_range) (blkOk_by (N := ["state", "some", "k"]) (sc := defScope (topS 36)) (own := [("k", 2)]) (by decide +kernel)) (fun _ _ _ _ _ => (pg_name (i := 2) sc__law_lengths.nd rfl (by first | exact .inl rfl | exact .inr rfl))) (fun _ _ _ _ _ _ => (d_ifE (fun (q : E3__law_lengths) t => (((q.1.1.1, t), q.1.2), q.2)) (t_cmp op_eq v_eqI (d_callS 0 (fun q : E3__law_lengths => q.1.1.2) (fun (q : E3__law_lengths) t => (((q.1.1.1, t), q.1.2), q.2)) (fun _ => rfl) (fun _ _ => rfl) ((f__law_draw T).mono (by decide)) hr hg T.M30 T.F30.kp (b__law_draw T) (a_cons d_int a_nil)) d_int (nomark _)) (d_callS 0 (fun q : E3__law_lengths => q.1.1.2) (fun (q : E3__law_lengths) t => (((q.1.1.1, t), q.1.2), q.2)) (fun _ => rfl) (fun _ _ => rfl) ((f__law_pick_LI T).mono (by decide)) hr hg T.M31 T.F31.kp (b__law_pick T) (a_cons (d_var 1 (fun q : E3__law_lengths => q.1.2) (cL cI) (fun _ => rfl)) a_nil)) (d_op op_add v_add d_int (d_callS 0 (fun q : E3__law_lengths => q.1.1.2) (fun (q : E3__law_lengths) t => (((q.1.1.1, t), q.1.2), q.2)) (fun _ => rfl) (fun _ _ => rfl) ((f__law_draw T).mono (by decide)) hr hg T.M30 T.F30.kp (b__law_draw T) (a_cons d_int a_nil))) (fun _ => rfl) (fun _ => rfl))) (own := [("k", 2)]) (hN := sc__law_lengths.nd))) a_nil)))))
    exact dss_eq key (by kernel_rfl) (by kernel_rfl)) (fun _ h => h) (fun a _ => ret_ex (o__law_lengths a))
abbrev E0__law_best_hold : Type := ((List Int) × Unit) × St4
abbrev E1__law_best_hold : Type := E0__law_best_hold × (Int × Int)
abbrev E2__law_best_hold : Type := E1__law_best_hold × (List Int)
abbrev E3__law_best_hold : Type := E2__law_best_hold × Int
abbrev E4__law_best_hold : Type := E2__law_best_hold × (List Int)
abbrev E5__law_best_hold : Type := E4__law_best_hold × Int
abbrev E6__law_best_hold : Type := Unit
abbrev E7__law_best_hold : Type := E6__law_best_hold × Int
abbrev E8__law_best_hold : Type := E7__law_best_hold × E6__law_best_hold
def k1__law_best_hold (lengths : List Int) (r2 : Int × St4) (best4 : List Int) (q9 : E7__law_best_hold) (q11 : E7__law_best_hold) : Out E6__law_best_hold ((Bool) × St4) E6__law_best_hold :=
  (if ((decide ((ixD lengths q9.2) = (ixD lengths q11.2))) && (!(((decide ((0 : Int) ≤ ((ixD best4 q9.2) - (ixD best4 q11.2)))) && (decide (((ixD best4 q9.2) - (ixD best4 q11.2)) ≤ (1 : Int))))))) = true then (Out.rt (false, r2.2)) else (Out.nx (())))
def kg1__law_best_hold (lengths : List Int) (best4 : List Int) (q9 : E7__law_best_hold) (q11 : E7__law_best_hold) : Prop :=
  ((((True ∧ True ∧ (CIx lengths q9.2)) ∧ (True ∧ True ∧ (CIx lengths q11.2)) ∧ True) ∧ ((decide ((ixD lengths q9.2) = (ixD lengths q11.2))) = true → (True ∧ ((True ∧ True ∧ (CIx best4 q9.2)) ∧ (True ∧ True ∧ (CIx best4 q11.2)) ∧ True) ∧ ((decide ((0 : Int) ≤ ((ixD best4 q9.2) - (ixD best4 q11.2)))) = true → True)))) ∧ (((decide ((ixD lengths q9.2) = (ixD lengths q11.2))) && (!(((decide ((0 : Int) ≤ ((ixD best4 q9.2) - (ixD best4 q11.2)))) && (decide (((ixD best4 q9.2) - (ixD best4 q11.2)) ≤ (1 : Int))))))) = true → True) ∧ (((decide ((ixD lengths q9.2) = (ixD lengths q11.2))) && (!(((decide ((0 : Int) ≤ ((ixD best4 q9.2) - (ixD best4 q11.2)))) && (decide (((ixD best4 q9.2) - (ixD best4 q11.2)) ≤ (1 : Int))))))) = false → True))
abbrev E9__law_best_hold : Type := E4__law_best_hold × E6__law_best_hold
def k2__law_best_hold (lengths : List Int) (r2 : Int × St4) (best4 : List Int) (q9 : E7__law_best_hold) : Out E6__law_best_hold ((Bool) × St4) E6__law_best_hold :=
  ((forO (k1__law_best_hold lengths r2 best4 q9) () (rng ((q9.2 + (1 : Int))) (((lengths).length : Int)))).bind (fun l12 : E6__law_best_hold => (Out.nx (()))))
def kg2__law_best_hold (lengths : List Int) (r2 : Int × St4) (best4 : List Int) (q9 : E7__law_best_hold) : Prop :=
  (((((True ∧ True ∧ True) ∧ (((True ∧ True) ∧ True) ∧ True)) ∧ (CRg ((q9.2 + (1 : Int))) (((lengths).length : Int)))) ∧ (forG (kg1__law_best_hold lengths best4 q9) (k1__law_best_hold lengths r2 best4 q9) () (rng ((q9.2 + (1 : Int))) (((lengths).length : Int))))) ∧ (∀ l12 : E6__law_best_hold, (forO (k1__law_best_hold lengths r2 best4 q9) () (rng ((q9.2 + (1 : Int))) (((lengths).length : Int)))) = Out.nx (S := E6__law_best_hold) l12 → True))
abbrev E10__law_best_hold : Type := E9__law_best_hold × Int
abbrev E11__law_best_hold : Type := E10__law_best_hold × Int
def o__law_best_hold (a : E0__law_best_hold) : Out Empty ((Bool) × St4) Empty :=
  (let lengths := a.1.1; (let r1 := m__law_draw (((50 : Int), ()), a.2); let r2 := m__law_draw (((9 : Int), ()), r1.2); (let u3 : Int × Int := ((((lengths).length : Int) + r1.1), ((2 : Int) + r2.1)); (let best4 : List Int := (m_best_minutes (lengths, u3.1, ())); (if ((!decide ((best4.sum) = u3.1)) || false) = true then (Out.rt (false, r2.2)) else (if (!((m__law_same_TI ((m_best_minutes ((lengths.map fun x5 => (x5 * u3.2)), u3.1, ())), best4, ())))) = true then (Out.rt (false, r2.2)) else (let later6 : List Int := (m_best_minutes (lengths, (u3.1 + (1 : Int)), ())); (if (!PyData.eqv ((cL cI) ((srt cI ((((rng 0 (((lengths).length : Int)))).map fun x7 => ((ixD later6 x7) - (ixD best4 x7))))))) ((cL cI) (((repI [(0 : Int)] (((lengths).length : Int) - (1 : Int))) ++ [(1 : Int)])))) = true then (Out.rt (false, r2.2)) else ((forO (k2__law_best_hold lengths r2 best4) () (rng 0 (((lengths).length : Int)))).bind (fun l13 : E6__law_best_hold => (let many14 : Int := ((lengths).length : Int); let left15 : Int := (u3.1 % ((lengths).length : Int)); (Out.rt ((m__law_same_TI ((m_best_minutes ((repI [(ixD lengths ((0 : Int)))] many14), u3.1, ())), ((repI [((u3.1 / many14) + (1 : Int))] left15) ++ (repI [(u3.1 / many14)] (many14 - left15))), ())), r2.2)))))))))))))
def m__law_best_hold (a : E0__law_best_hold) : (Bool) × St4 := (o__law_best_hold a).ret
def g__law_best_hold (a : E0__law_best_hold) : Prop :=
  (let lengths := a.1.1; (let r1 := m__law_draw (((50 : Int), ()), a.2); let r2 := m__law_draw (((9 : Int), ()), r1.2); (((((True ∧ True) ∧ True) ∧ ((True ∧ True) ∧ (g__law_draw (((50 : Int), ()), a.2))) ∧ True) ∧ ((True ∧ ((True ∧ True) ∧ (g__law_draw (((9 : Int), ()), r1.2))) ∧ True) ∧ True)) ∧ (let u3 : Int × Int := ((((lengths).length : Int) + r1.1), ((2 : Int) + r2.1)); (((True ∧ (True ∧ True)) ∧ (g_best_minutes (lengths, u3.1, ()))) ∧ (let best4 : List Int := (m_best_minutes (lengths, u3.1, ())); (((((True ∧ True) ∧ True) ∧ True ∧ True) ∧ ((!decide ((best4.sum) = u3.1)) = false → (((True ∧ (True ∧ (True ∧ True))) ∧ (g_accept_minutes (lengths, u3.1, best4, ()))) ∧ True ∧ True))) ∧ (((!decide ((best4.sum) = u3.1)) || false) = true → True) ∧ (((!decide ((best4.sum) = u3.1)) || false) = false → ((((((((True ∧ (∀ x5 ∈ lengths, (True ∧ True ∧ (CMul x5 u3.2)))) ∧ True) ∧ True) ∧ (True ∧ True)) ∧ (g_best_minutes ((lengths.map fun x5 => (x5 * u3.2)), u3.1, ()))) ∧ (True ∧ True)) ∧ (g__law_same_TI ((m_best_minutes ((lengths.map fun x5 => (x5 * u3.2)), u3.1, ())), best4, ()))) ∧ ((!((m__law_same_TI ((m_best_minutes ((lengths.map fun x5 => (x5 * u3.2)), u3.1, ())), best4, ())))) = true → True) ∧ ((!((m__law_same_TI ((m_best_minutes ((lengths.map fun x5 => (x5 * u3.2)), u3.1, ())), best4, ())))) = false → (((True ∧ ((True ∧ True ∧ True) ∧ True)) ∧ (g_best_minutes (lengths, (u3.1 + (1 : Int)), ()))) ∧ (let later6 : List Int := (m_best_minutes (lengths, (u3.1 + (1 : Int)), ())); ((((((((True ∧ True) ∧ True) ∧ True) ∧ (CRg 0 (((lengths).length : Int)))) ∧ (∀ x7 ∈ (rng 0 (((lengths).length : Int))), ((True ∧ True ∧ (CIx later6 x7)) ∧ (True ∧ True ∧ (CIx best4 x7)) ∧ True))) ∧ True) ∧ (((True ∧ True) ∧ (((True ∧ True) ∧ True) ∧ True ∧ True) ∧ -1000000 ≤ (((lengths).length : Int) - (1 : Int)) ∧ (((lengths).length : Int) - (1 : Int)) ≤ 1000000 ∧ (([(0 : Int)]).length * ((((lengths).length : Int) - (1 : Int))).toNat ≤ 16777216)) ∧ (True ∧ True) ∧ (((repI [(0 : Int)] (((lengths).length : Int) - (1 : Int)))).length + ([(1 : Int)]).length ≤ 16777216)) ∧ True) ∧ ((!PyData.eqv ((cL cI) ((srt cI ((((rng 0 (((lengths).length : Int)))).map fun x7 => ((ixD later6 x7) - (ixD best4 x7))))))) ((cL cI) (((repI [(0 : Int)] (((lengths).length : Int) - (1 : Int))) ++ [(1 : Int)])))) = true → True) ∧ ((!PyData.eqv ((cL cI) ((srt cI ((((rng 0 (((lengths).length : Int)))).map fun x7 => ((ixD later6 x7) - (ixD best4 x7))))))) ((cL cI) (((repI [(0 : Int)] (((lengths).length : Int) - (1 : Int))) ++ [(1 : Int)])))) = false → ((((((True ∧ True) ∧ True) ∧ True) ∧ (CRg 0 (((lengths).length : Int)))) ∧ (forG (kg2__law_best_hold lengths r2 best4) (k2__law_best_hold lengths r2 best4) () (rng 0 (((lengths).length : Int))))) ∧ (∀ l13 : E6__law_best_hold, (forO (k2__law_best_hold lengths r2 best4) () (rng 0 (((lengths).length : Int)))) = Out.nx (S := Empty) l13 → ((((True ∧ True) ∧ True) ∧ ((((True ∧ True) ∧ True) ∧ ((True ∧ True) ∧ True) ∧ ((0 : Int) < ((lengths).length : Int))) ∧ True)) ∧ (let many14 : Int := ((lengths).length : Int); let left15 : Int := (u3.1 % ((lengths).length : Int)); (((((((True ∧ True ∧ (CIx lengths ((0 : Int)))) ∧ True) ∧ True ∧ (-1000000 ≤ many14 ∧ many14 ≤ 1000 ∧ ([(ixD lengths ((0 : Int)))]).length ≤ 1000)) ∧ (True ∧ True)) ∧ (g_best_minutes ((repI [(ixD lengths ((0 : Int)))] many14), u3.1, ()))) ∧ ((((((True ∧ True ∧ (CDivW u3.1 many14)) ∧ True ∧ True) ∧ True) ∧ True ∧ (-1000000 ≤ left15 ∧ left15 ≤ 1000 ∧ ([((u3.1 / many14) + (1 : Int))]).length ≤ 1000)) ∧ (((True ∧ True ∧ (CDivW u3.1 many14)) ∧ True) ∧ (True ∧ True ∧ True) ∧ (-1000000 ≤ (many14 - left15) ∧ (many14 - left15) ≤ 1000 ∧ ([(u3.1 / many14)]).length ≤ 1000)) ∧ (((repI [((u3.1 / many14) + (1 : Int))] left15)).length + ((repI [(u3.1 / many14)] (many14 - left15))).length ≤ 16777216)) ∧ True)) ∧ (g__law_same_TI ((m_best_minutes ((repI [(ixD lengths ((0 : Int)))] many14), u3.1, ())), ((repI [((u3.1 / many14) + (1 : Int))] left15) ++ (repI [(u3.1 / many14)] (many14 - left15))), ())))))))))))))))))))))
theorem sc__law_best_hold : FnScope ["state", "lengths", "total", "more", "best", "later", "one", "other", "many", "left", "k", "own"] ["state", "lengths"] (defScope (topS 37)) := ⟨rfl, rfl, rfl, by decide +kernel, rfl, by decide +kernel, by decide +kernel⟩
theorem b__law_best_hold {K : Y.Frag} {mg : Str → Option Value} {ad : Nat → Addr} {fd : Nat → FuncData} (T : Tx K mg ad fd) : Binds K (fd 37) ["state", "lengths"] [] := T.F37.binds (ps := ["state", "lengths"]) fun _ _ _ _ _ _ us hl => match us, hl with | [_, _], _ => rfl
theorem f__law_best_hold {P : Program} {w : World} {K : Y.Frag} {mg : Str → Option Value} {base : Heap} {ad : Nat → Addr} {fd : Nat → FuncData} (T : Tx K mg ad fd) : FnG P w K mg base 6 (ad 37) (fd 37) ["state", "lengths"] (spS K (ac (cT cI) an) cSt cB g__law_best_hold m__law_best_hold) :=
  fn_state T.F37 sc__law_best_hold 10 (fun _ => rfl) rfl (owS := []) (ow' := []) (ΓS := fun _ : Empty => []) (Γ' := fun _ : Empty => []) (cr := fun r : (Bool) × St4 => cB r.1) (ci := fun r : (Bool) × St4 => cSt r.2) (G := g__law_best_hold) (d := o__law_best_hold) (fun A0 p cdv A outer s H E hr hg => by
    have hu : (A.deeper (envOfC _ (defScope (topS 37)) s.heap.objs.size _ cdv)).units + 64 < cLine := Nat.lt_of_le_of_lt (Nat.add_le_add_left (by decide) _) (room_un hr)
    have key : Dss (XF P w K mg base ["state", "lengths", "total", "more", "best", "later", "one", "other", "many", "left", "k", "own"] "_law_best_hold" (topS 37) (ad 37) cdv A outer s H E) ⟨A0, [], some p⟩ [0] (fun a : E0__law_best_hold => some (.list (cSt a.2)) :: (((ac (cT cI) an) a.1).map some ++ List.replicate 10 none)) (fun r : (Bool) × St4 => cB r.1) (fun r : (Bool) × St4 => cSt r.2) [] (fun _ : Empty => []) (defBody (topS 37)) _ _ [] (fun _ : Empty => []) := (s_cons (s_asgT (d_tp2 (a_cons (d_op op_add v_add (d_blt call_len_seq (v_len sq_T) T.z_len (by decide +kernel) (a_cons (d_var 1 (fun q : E0__law_best_hold => q.1.1) (cT cI) (fun _ => rfl)) a_nil)) (d_callS 0 (fun q : E0__law_best_hold => q.2) (fun (q : E0__law_best_hold) t => (q.1, t)) (fun _ => rfl) (fun _ _ => rfl) ((f__law_draw T).mono (by decide)) hr hg T.M30 T.F30.kp (b__law_draw T) (a_cons d_int a_nil))) (a_cons (d_op op_add v_add d_int (d_callS 0 (fun q : E0__law_best_hold => q.2) (fun (q : E0__law_best_hold) t => (q.1, t)) (fun _ => rfl) (fun _ _ => rfl) ((f__law_draw T).mono (by decide)) hr hg T.M30 T.F30.kp (b__law_draw T) (a_cons d_int a_nil))) a_nil))) (pg_tup rfl (pgs_cons (pg_name (i := 2) sc__law_best_hold.nd rfl (by first | exact .inl rfl | exact .inr rfl)) (pgs_cons (pg_name (i := 3) sc__law_best_hold.nd rfl (by first | exact .inl rfl | exact .inr rfl)) pgs_nil))) (tg_pair 2 3)) (s_cons (s_asg 4 (d_call ((f_best_minutes T).mono (by decide)) hr hg T.M25 T.F25.kp (b_best_minutes T) (a_cons (d_var 1 (fun q : E1__law_best_hold => q.1.1.1) (cT cI) (fun _ => rfl)) (a_cons (d_var 2 (fun q : E1__law_best_hold => q.2.1) cI (fun _ => rfl)) a_nil))) (hN := sc__law_best_hold.nd)) (s_ifR (Dw.dt (w_orP (t_cmp op_ne v_neI (d_blt (cr_sumT rfl) v_sumT T.z_sum (by decide +kernel) (a_cons (d_var 4 (fun q : E2__law_best_hold => q.2) (cT cI) (fun _ => rfl)) a_nil)) (d_var 2 (fun q : E2__law_best_hold => q.1.2.1) cI (fun _ => rfl)) (nomark _)) (w_or1 (t_cmp op_notN v_notN (d_call ((f_accept_minutes T).mono (by decide)) hr hg T.M26 T.F26.kp (b_accept_minutes T) (a_cons (d_var 1 (fun q : E2__law_best_hold => q.1.1.1.1) (cT cI) (fun _ => rfl)) (a_cons (d_var 2 (fun q : E2__law_best_hold => q.1.2.1) cI (fun _ => rfl)) (a_cons (d_var 4 (fun q : E2__law_best_hold => q.2) (cT cI) (fun _ => rfl)) a_nil)))) d_non (nomark _))))) (s_one (s_retS (r := fun v (q : E2__law_best_hold) => (v, q.1.1.2)) (fun _ _ => rfl) (fun _ _ => rfl) d_bl)) (by intro ε n; (repeat' (first | (intro h; nomatch h) | split))) (s_ifR (t_not (t_val (d_call ((f__law_same_TI T).mono (by decide)) hr hg T.M32 T.F32.kp (b__law_same T) (a_cons (d_call ((f_best_minutes T).mono (by decide)) hr hg T.M25 T.F25.kp (b_best_minutes T) (a_cons (d_ty call_tuple_of (v_tuple sq_L) T.z_tuple (by decide +kernel) (a_cons (DL.de (d_lc0 (i_tup (d_var 1 (fun q : E2__law_best_hold => q.1.1.1.1) (cT cI) (fun _ => rfl))) (blkOk_by (N := ["state", "lengths", "total", "more", "best", "later", "one", "other", "many", "left", "k", "own"]) (sc := defScope (topS 37)) (own := [("own", 11)]) (by decide +kernel)) (tg_name 11) (fun _ _ _ _ _ => (pg_name (i := 11) sc__law_best_hold.nd rfl (by first | exact .inl rfl | exact .inr rfl))) (fun _ _ _ _ _ _ => (d_op op_mul v_mul (d_var 11 (fun q : E3__law_best_hold => q.2) cI (fun _ => rfl)) (d_var 3 (fun q : E3__law_best_hold => q.1.1.2.2) cI (fun _ => rfl)))) (own := [("own", 11)]) (hN := sc__law_best_hold.nd))) a_nil)) (a_cons (d_var 2 (fun q : E2__law_best_hold => q.1.2.1) cI (fun _ => rfl)) a_nil))) (a_cons (d_var 4 (fun q : E2__law_best_hold => q.2) (cT cI) (fun _ => rfl)) a_nil))))) (s_one (s_retS (r := fun v (q : E2__law_best_hold) => (v, q.1.1.2)) (fun _ _ => rfl) (fun _ _ => rfl) d_bl)) (by intro ε n; (repeat' (first | (intro h; nomatch h) | split))) (s_cons (s_asg 5 (d_call ((f_best_minutes T).mono (by decide)) hr hg T.M25 T.F25.kp (b_best_minutes T) (a_cons (d_var 1 (fun q : E2__law_best_hold => q.1.1.1.1) (cT cI) (fun _ => rfl)) (a_cons (d_op op_add v_add (d_var 2 (fun q : E2__law_best_hold => q.1.2.1) cI (fun _ => rfl)) d_int) a_nil))) (hN := sc__law_best_hold.nd)) (s_ifR (t_cmp (op_neD hu) (v_neD (cq_L cq_I) (cq_L cq_I)) (DL.de (l_srt (room_un hr) srt_I (a_cons (DL.de (d_lc0 (i_rng1 (a_cons (d_blt call_len_seq (v_len sq_T) T.z_len (by decide +kernel) (a_cons (d_var 1 (fun q : E4__law_best_hold => q.1.1.1.1.1) (cT cI) (fun _ => rfl)) a_nil)) a_nil) T.z_range) (blkOk_by (N := ["state", "lengths", "total", "more", "best", "later", "one", "other", "many", "left", "k", "own"]) (sc := defScope (topS 37)) (own := [("k", 10)]) (by decide +kernel)) (tg_name 10) (fun _ _ _ _ _ => (pg_name (i := 10) sc__law_best_hold.nd rfl (by first | exact .inl rfl | exact .inr rfl))) (fun _ _ _ _ _ _ => (d_op op_sub v_sub (d_ix ix_tup v_ixT (d_var 5 (fun q : E5__law_best_hold => q.1.2) (cT cI) (fun _ => rfl)) (d_var 10 (fun q : E5__law_best_hold => q.2) cI (fun _ => rfl))) (d_ix ix_tup v_ixT (d_var 4 (fun q : E5__law_best_hold => q.1.1.2) (cT cI) (fun _ => rfl)) (d_var 10 (fun q : E5__law_best_hold => q.2) cI (fun _ => rfl))))) (own := [("k", 10)]) (hN := sc__law_best_hold.nd))) a_nil) T.z_sorted)) (DL.de (l_cat (DL.de (l_rep (DL.de (l_disp (c := cI) (g := fun x : Int × Unit => [x.1]) (fun _ => rfl) (fun _ => Nat.le_of_ble_eq_true rfl) (a_cons d_int a_nil))) (d_op op_sub v_sub (d_blt call_len_seq (v_len sq_T) T.z_len (by decide +kernel) (a_cons (d_var 1 (fun q : E4__law_best_hold => q.1.1.1.1.1) (cT cI) (fun _ => rfl)) a_nil)) d_int))) (DL.de (l_disp (c := cI) (g := fun x : Int × Unit => [x.1]) (fun _ => rfl) (fun _ => Nat.le_of_ble_eq_true rfl) (a_cons d_int a_nil))))) (nomark _)) (s_one (s_retS (r := fun v (q : E4__law_best_hold) => (v, q.1.1.1.2)) (fun _ _ => rfl) (fun _ _ => rfl) d_bl)) (by intro ε n; (repeat' (first | (intro h; nomatch h) | split))) (s_consK (s_forP (ΓL := (fun (e8 : E4__law_best_hold) (m : E6__law_best_hold) => [some (.list (cSt e8.1.1.1.2)), some ((cT cI) e8.1.1.1.1.1), some (cI e8.1.1.2.1), some (cI e8.1.1.2.2), some ((cT cI) e8.1.2), some ((cT cI) e8.2), none, none, none, none, none, none])) (fun q : E4__law_best_hold => ()) (i_rng1 (a_cons (d_blt call_len_seq (v_len sq_T) T.z_len (by decide +kernel) (a_cons (d_var 1 (fun q : E4__law_best_hold => q.1.1.1.1.1) (cT cI) (fun _ => rfl)) a_nil)) a_nil) T.z_range) (fun _ _ _ _ r => r) (pg_name (i := 6) sc__law_best_hold.nd rfl (by first | exact .inl rfl | exact .inr rfl)) (tg_name 6) (fun e8 : E4__law_best_hold => (s_consK (s_forP (ΓL := (fun (e10 : E7__law_best_hold) (m : E6__law_best_hold) => [some (.list (cSt e8.1.1.1.2)), some ((cT cI) e8.1.1.1.1.1), some (cI e8.1.1.2.1), some (cI e8.1.1.2.2), some ((cT cI) e8.1.2), some ((cT cI) e8.2), some (cI e10.2), none, none, none, none, none])) (fun q : E7__law_best_hold => ()) (i_rng2 (a_cons (d_op op_add v_add (d_var 6 (fun q : E7__law_best_hold => q.2) cI (fun _ => rfl)) d_int) (a_cons (d_blt call_len_seq (v_len sq_T) T.z_len (by decide +kernel) (a_cons (d_var 1 (fun q : E7__law_best_hold => e8.1.1.1.1.1) (cT cI) (fun _ => rfl)) a_nil)) a_nil)) T.z_range) (fun _ _ _ _ r => r) (pg_name (i := 7) sc__law_best_hold.nd rfl (by first | exact .inl rfl | exact .inr rfl)) (tg_name 7) (fun e10 : E7__law_best_hold => (s_ifR (Dw.dt (w_andP (t_cmp op_eq v_eqI (d_ix ix_tup v_ixT (d_var 1 (fun q : E7__law_best_hold => e8.1.1.1.1.1) (cT cI) (fun _ => rfl)) (d_var 6 (fun q : E7__law_best_hold => e10.2) cI (fun _ => rfl))) (d_ix ix_tup v_ixT (d_var 1 (fun q : E7__law_best_hold => e8.1.1.1.1.1) (cT cI) (fun _ => rfl)) (d_var 7 (fun q : E7__law_best_hold => q.2) cI (fun _ => rfl))) (nomark _)) (w_and1 (t_not (t_chain op_le op_le v_le v_le d_int (d_op op_sub v_sub (d_ix ix_tup v_ixT (d_var 4 (fun q : E7__law_best_hold => e8.1.2) (cT cI) (fun _ => rfl)) (d_var 6 (fun q : E7__law_best_hold => e10.2) cI (fun _ => rfl))) (d_ix ix_tup v_ixT (d_var 4 (fun q : E7__law_best_hold => e8.1.2) (cT cI) (fun _ => rfl)) (d_var 7 (fun q : E7__law_best_hold => q.2) cI (fun _ => rfl)))) d_int))))) (s_one (s_retS (r := fun v (q : E7__law_best_hold) => (v, e8.1.1.1.2)) (fun _ _ => rfl) (fun _ _ => rfl) d_bl)) (by intro ε n; (repeat' (first | (intro h; nomatch h) | split))) (s_end (ow2 := [0]) (Γ2 := (fun m : E6__law_best_hold => [some (.list (cSt e8.1.1.1.2)), some ((cT cI) e8.1.1.1.1.1), some (cI e8.1.1.2.1), some (cI e8.1.1.2.2), some ((cT cI) e8.1.2), some ((cT cI) e8.2), some (cI e10.2), none, none, none, none, none])) (fun q : E7__law_best_hold => ()) (fun _ _ _ _ r => r.wk (.k (.k (.k (.k (.k (.k (.k (.f (.k (.k (.k (.k .nil)))))))))))))))) PassesOwn.never) (s_end (ow2 := [0]) (Γ2 := (fun m : E6__law_best_hold => [some (.list (cSt e8.1.1.1.2)), some ((cT cI) e8.1.1.1.1.1), some (cI e8.1.1.2.1), some (cI e8.1.1.2.2), some ((cT cI) e8.1.2), some ((cT cI) e8.2), none, none, none, none, none, none])) (fun q : E8__law_best_hold => ()) (fun _ _ _ _ r => r.wk (.k (.k (.k (.k (.k (.k (.f (.k (.k (.k (.k (.k .nil)))))))))))))))) PassesOwn.never) (s_cons (s_par 8 9 (ca := cI) (cb := cI) (ga := fun x : Int × Int × Unit => x.1) (gb := fun x : Int × Int × Unit => x.2.1) (a_cons (d_blt call_len_seq (v_len sq_T) T.z_len (by decide +kernel) (a_cons (d_var 1 (fun q : E9__law_best_hold => q.1.1.1.1.1.1) (cT cI) (fun _ => rfl)) a_nil)) (a_cons (d_op op_mod v_mod (d_ty call_int1 v_int T.z_int (by decide +kernel) (a_cons (d_var 2 (fun q : E9__law_best_hold => q.1.1.1.2.1) cI (fun _ => rfl)) a_nil)) (d_blt call_len_seq (v_len sq_T) T.z_len (by decide +kernel) (a_cons (d_var 1 (fun q : E9__law_best_hold => q.1.1.1.1.1.1) (cT cI) (fun _ => rfl)) a_nil))) a_nil)) (fun _ => rfl) rfl (hN := sc__law_best_hold.nd)) (s_one (s_retS (r := fun v (q : E11__law_best_hold) => (v, q.1.1.1.1.1.1.2)) (fun _ _ => rfl) (fun _ _ => rfl) (d_call ((f__law_same_TI T).mono (by decide)) hr hg T.M32 T.F32.kp (b__law_same T) (a_cons (d_call ((f_best_minutes T).mono (by decide)) hr hg T.M25 T.F25.kp (b_best_minutes T) (a_cons (d_op op_repTA v_repT (d_tpT (a := cI) (fun x : Int × Unit => [x.1]) (fun _ => rfl) (fun _ => Nat.le_of_ble_eq_true rfl) (a_cons (d_ix ix_tup v_ixT (d_var 1 (fun q : E11__law_best_hold => q.1.1.1.1.1.1.1.1) (cT cI) (fun _ => rfl)) d_int) a_nil)) (d_var 8 (fun q : E11__law_best_hold => q.1.2) cI (fun _ => rfl))) (a_cons (d_var 2 (fun q : E11__law_best_hold => q.1.1.1.1.1.2.1) cI (fun _ => rfl)) a_nil))) (a_cons (d_op op_catA v_catT (d_op op_repTA v_repT (d_tpT (a := cI) (fun x : Int × Unit => [x.1]) (fun _ => rfl) (fun _ => Nat.le_of_ble_eq_true rfl) (a_cons (d_op op_add v_add (d_op op_fdivW v_fdiv (d_var 2 (fun q : E11__law_best_hold => q.1.1.1.1.1.2.1) cI (fun _ => rfl)) (d_var 8 (fun q : E11__law_best_hold => q.1.2) cI (fun _ => rfl))) d_int) a_nil)) (d_var 9 (fun q : E11__law_best_hold => q.2) cI (fun _ => rfl))) (d_op op_repTA v_repT (d_tpT (a := cI) (fun x : Int × Unit => [x.1]) (fun _ => rfl) (fun _ => Nat.le_of_ble_eq_true rfl) (a_cons (d_op op_fdivW v_fdiv (d_var 2 (fun q : E11__law_best_hold => q.1.1.1.1.1.2.1) cI (fun _ => rfl)) (d_var 8 (fun q : E11__law_best_hold => q.1.2) cI (fun _ => rfl))) a_nil)) (d_op op_sub v_sub (d_var 8 (fun q : E11__law_best_hold => q.1.2) cI (fun _ => rfl)) (d_var 9 (fun q : E11__law_best_hold => q.2) cI (fun _ => rfl))))) a_nil)))))))))))))
    exact dss_eq key (by kernel_rfl) (by kernel_rfl)) (fun _ h => h) (fun a _ => ret_ex (o__law_best_hold a))
abbrev E0__law_fuel_holds : Type := ((List Int) × Unit) × St4
abbrev E1__law_fuel_holds : Type := E0__law_fuel_holds × Int
def c1__law_fuel_holds (s3 : St4) (x1 : Int) : Int × St4 :=
  (let r4 := m__law_draw (((20 : Int), ()), s3); (((1 : Int) + r4.1), r4.2))
def cg1__law_fuel_holds (s3 : St4) (x1 : Int) : Prop :=
  (let r4 := m__law_draw (((20 : Int), ()), s3); (True ∧ ((True ∧ True) ∧ (g__law_draw (((20 : Int), ()), s3))) ∧ True))
abbrev E2__law_fuel_holds : Type := E0__law_fuel_holds × ((List Int) × Int)
abbrev E3__law_fuel_holds : Type := E2__law_fuel_holds × (Int × Int)
abbrev E4__law_fuel_holds : Type := E3__law_fuel_holds × Int
abbrev E5__law_fuel_holds : Type := E3__law_fuel_holds × (List Int)
abbrev E6__law_fuel_holds : Type := E5__law_fuel_holds × (List Int)
abbrev E7__law_fuel_holds : Type := E6__law_fuel_holds × (List (Int × Int))
abbrev E8__law_fuel_holds : Type := E7__law_fuel_holds × (Int × Int)
abbrev E9__law_fuel_holds : Type := E8__law_fuel_holds × (PySem.Str × PyData)
abbrev E10__law_fuel_holds : Type := E9__law_fuel_holds × (Int × Int)
abbrev E11__law_fuel_holds : Type := E10__law_fuel_holds × Int
def o__law_fuel_holds (a : E0__law_fuel_holds) : Out Empty ((Bool) × St4) Empty :=
  (let lengths := a.1.1; (let r5 := lcS c1__law_fuel_holds a.2 lengths; let r6 := m__law_draw (((5 : Int), ()), r5.2); (let u7 : (List Int) × Int := (r5.1, ((2 : Int) + r6.1)); (let fuel8 : Int × Int := (m_fuel_for (lengths, u7.1, ())); (let much11 : List Int := (lengths.map fun x9 => (x9 * u7.2)); let slow12 : List Int := (u7.1.map fun x10 => (x10 * u7.2)); (let due13 : List (Int × Int) := [(m__law_mul (fuel8, (((u7.2 * u7.2) * u7.2), (1 : Int)), ())), (m__law_mul (fuel8, ((1 : Int), (u7.2 * u7.2)), ())), (m__law_mul (fuel8, (u7.2, (1 : Int)), ()))]; (if (!((m__law_same_LQ ([(m_fuel_for (much11, u7.1, ())), (m_fuel_for (lengths, slow12, ())), (m_fuel_for (much11, slow12, ()))], due13, ())))) = true then (Out.rt (false, r6.2)) else (let wasted14 : Int × Int := (m_fuel_wasted (lengths, u7.1, ())); let even15 : PySem.Str × PyData := (m_judge_even (lengths, u7.1, ())); (let whole16 : Int × Int := (m__law_low (((lengths.sum) ^ ((3 : Int)).toNat), ((u7.1.sum) ^ ((2 : Int)).toNat), ())); (if ((!((m__law_same_Q ((m__law_plus (wasted14, whole16, ())), fuel8, ())))) || ((decide (wasted14.1 < (0 : Int))) || (!decide ((decide (wasted14.1 = (0 : Int))) = (decide (even15.1 = (PySem.Str.ofString "even"))))))) = true then (Out.rt (false, r6.2)) else (if ((!((m__law_same_Q ((m_fuel_wasted (much11, slow12, ())), (m__law_mul (wasted14, (u7.2, (1 : Int)), ())), ())))) || (!PyData.eqv ((c2 cS cD) ((m_judge_even (much11, slow12, ())))) ((c2 cS cD) even15))) = true then (Out.rt (false, r6.2)) else (Out.rt (((PyData.eqv ((c2 cS cD) ((m_judge_even (lengths, (lengths.map fun x17 => (x17 * u7.2)), ())))) ((c2 cS cD) (((PySem.Str.ofString "even"), ((c2 cI cI) (((1 : Int), u7.2))))))) && (PyData.eqv ((c2 cI cI) ((m_fuel_wasted (lengths, (lengths.map fun x18 => (x18 * u7.2)), ())))) ((c2 cI cI) (((0 : Int), (1 : Int)))))), r6.2)))))))))))))
def m__law_fuel_holds (a : E0__law_fuel_holds) : (Bool) × St4 := (o__law_fuel_holds a).ret
def g__law_fuel_holds (a : E0__law_fuel_holds) : Prop :=
  (let lengths := a.1.1; (let r5 := lcS c1__law_fuel_holds a.2 lengths; let r6 := m__law_draw (((5 : Int), ()), r5.2); (((((True ∧ (lcG cg1__law_fuel_holds c1__law_fuel_holds a.2 lengths)) ∧ True) ∧ True) ∧ ((True ∧ ((True ∧ True) ∧ (g__law_draw (((5 : Int), ()), r5.2))) ∧ True) ∧ True)) ∧ (let u7 : (List Int) × Int := (r5.1, ((2 : Int) + r6.1)); (((True ∧ (True ∧ True)) ∧ (g_fuel_for (lengths, u7.1, ()))) ∧ (let fuel8 : Int × Int := (m_fuel_for (lengths, u7.1, ())); (((((True ∧ (∀ x9 ∈ lengths, (True ∧ True ∧ (CMul x9 u7.2)))) ∧ True) ∧ True) ∧ ((((True ∧ (∀ x10 ∈ u7.1, (True ∧ True ∧ (CMul x10 u7.2)))) ∧ True) ∧ True) ∧ True)) ∧ (let much11 : List Int := (lengths.map fun x9 => (x9 * u7.2)); let slow12 : List Int := (u7.1.map fun x10 => (x10 * u7.2)); ((((True ∧ ((((True ∧ True ∧ (CMul u7.2 u7.2)) ∧ True ∧ (CMul ((u7.2 * u7.2)) u7.2)) ∧ (True ∧ True)) ∧ True)) ∧ (g__law_mul (fuel8, (((u7.2 * u7.2) * u7.2), (1 : Int)), ()))) ∧ (((True ∧ ((True ∧ ((True ∧ True ∧ (CMul u7.2 u7.2)) ∧ True)) ∧ True)) ∧ (g__law_mul (fuel8, ((1 : Int), (u7.2 * u7.2)), ()))) ∧ (((True ∧ ((True ∧ (True ∧ True)) ∧ True)) ∧ (g__law_mul (fuel8, (u7.2, (1 : Int)), ()))) ∧ True))) ∧ (let due13 : List (Int × Int) := [(m__law_mul (fuel8, (((u7.2 * u7.2) * u7.2), (1 : Int)), ())), (m__law_mul (fuel8, ((1 : Int), (u7.2 * u7.2)), ())), (m__law_mul (fuel8, (u7.2, (1 : Int)), ()))]; ((((((True ∧ (True ∧ True)) ∧ (g_fuel_for (much11, u7.1, ()))) ∧ (((True ∧ (True ∧ True)) ∧ (g_fuel_for (lengths, slow12, ()))) ∧ (((True ∧ (True ∧ True)) ∧ (g_fuel_for (much11, slow12, ()))) ∧ True))) ∧ (True ∧ True)) ∧ (g__law_same_LQ ([(m_fuel_for (much11, u7.1, ())), (m_fuel_for (lengths, slow12, ())), (m_fuel_for (much11, slow12, ()))], due13, ()))) ∧ ((!((m__law_same_LQ ([(m_fuel_for (much11, u7.1, ())), (m_fuel_for (lengths, slow12, ())), (m_fuel_for (much11, slow12, ()))], due13, ())))) = true → True) ∧ ((!((m__law_same_LQ ([(m_fuel_for (much11, u7.1, ())), (m_fuel_for (lengths, slow12, ())), (m_fuel_for (much11, slow12, ()))], due13, ())))) = false → ((((True ∧ (True ∧ True)) ∧ (g_fuel_wasted (lengths, u7.1, ()))) ∧ (((True ∧ (True ∧ True)) ∧ (g_judge_even (lengths, u7.1, ()))) ∧ True)) ∧ (let wasted14 : Int × Int := (m_fuel_wasted (lengths, u7.1, ())); let even15 : PySem.Str × PyData := (m_judge_even (lengths, u7.1, ())); ((((((True ∧ True) ∧ True) ∧ True ∧ (CPow ((lengths.sum)) ((3 : Int)))) ∧ ((((True ∧ True) ∧ True) ∧ True ∧ (CPow ((u7.1.sum)) ((2 : Int)))) ∧ True)) ∧ (g__law_low (((lengths.sum) ^ ((3 : Int)).toNat), ((u7.1.sum) ^ ((2 : Int)).toNat), ()))) ∧ (let whole16 : Int × Int := (m__law_low (((lengths.sum) ^ ((3 : Int)).toNat), ((u7.1.sum) ^ ((2 : Int)).toNat), ())); ((((((True ∧ (True ∧ True)) ∧ (g__law_plus (wasted14, whole16, ()))) ∧ (True ∧ True)) ∧ (g__law_same_Q ((m__law_plus (wasted14, whole16, ())), fuel8, ()))) ∧ ((!((m__law_same_Q ((m__law_plus (wasted14, whole16, ())), fuel8, ())))) = false → ((True ∧ True ∧ True) ∧ ((decide (wasted14.1 < (0 : Int))) = false → ((True ∧ True ∧ True) ∧ (True ∧ True ∧ True) ∧ True))))) ∧ (((!((m__law_same_Q ((m__law_plus (wasted14, whole16, ())), fuel8, ())))) || ((decide (wasted14.1 < (0 : Int))) || (!decide ((decide (wasted14.1 = (0 : Int))) = (decide (even15.1 = (PySem.Str.ofString "even"))))))) = true → True) ∧ (((!((m__law_same_Q ((m__law_plus (wasted14, whole16, ())), fuel8, ())))) || ((decide (wasted14.1 < (0 : Int))) || (!decide ((decide (wasted14.1 = (0 : Int))) = (decide (even15.1 = (PySem.Str.ofString "even"))))))) = false → ((((((True ∧ (True ∧ True)) ∧ (g_fuel_wasted (much11, slow12, ()))) ∧ (((True ∧ ((True ∧ (True ∧ True)) ∧ True)) ∧ (g__law_mul (wasted14, (u7.2, (1 : Int)), ()))) ∧ True)) ∧ (g__law_same_Q ((m_fuel_wasted (much11, slow12, ())), (m__law_mul (wasted14, (u7.2, (1 : Int)), ())), ()))) ∧ ((!((m__law_same_Q ((m_fuel_wasted (much11, slow12, ())), (m__law_mul (wasted14, (u7.2, (1 : Int)), ())), ())))) = false → (((True ∧ (True ∧ True)) ∧ (g_judge_even (much11, slow12, ()))) ∧ True ∧ (SeqAt.shaped ((c2 cS cD) ((m_judge_even (much11, slow12, ())))) = true ∧ SeqAt.shaped ((c2 cS cD) even15) = true)))) ∧ (((!((m__law_same_Q ((m_fuel_wasted (much11, slow12, ())), (m__law_mul (wasted14, (u7.2, (1 : Int)), ())), ())))) || (!PyData.eqv ((c2 cS cD) ((m_judge_even (much11, slow12, ())))) ((c2 cS cD) even15))) = true → True) ∧ (((!((m__law_same_Q ((m_fuel_wasted (much11, slow12, ())), (m__law_mul (wasted14, (u7.2, (1 : Int)), ())), ())))) || (!PyData.eqv ((c2 cS cD) ((m_judge_even (much11, slow12, ())))) ((c2 cS cD) even15))) = false → ((((True ∧ ((((True ∧ (∀ x17 ∈ lengths, (True ∧ True ∧ (CMul x17 u7.2)))) ∧ True) ∧ True) ∧ True)) ∧ (g_judge_even (lengths, (lengths.map fun x17 => (x17 * u7.2)), ()))) ∧ (True ∧ ((True ∧ (True ∧ True)) ∧ True)) ∧ (SeqAt.shaped ((c2 cS cD) ((m_judge_even (lengths, (lengths.map fun x17 => (x17 * u7.2)), ())))) = true ∧ SeqAt.shaped ((c2 cS cD) (((PySem.Str.ofString "even"), ((c2 cI cI) (((1 : Int), u7.2)))))) = true)) ∧ ((PyData.eqv ((c2 cS cD) ((m_judge_even (lengths, (lengths.map fun x17 => (x17 * u7.2)), ())))) ((c2 cS cD) (((PySem.Str.ofString "even"), ((c2 cI cI) (((1 : Int), u7.2))))))) = true → (((True ∧ ((((True ∧ (∀ x18 ∈ lengths, (True ∧ True ∧ (CMul x18 u7.2)))) ∧ True) ∧ True) ∧ True)) ∧ (g_fuel_wasted (lengths, (lengths.map fun x18 => (x18 * u7.2)), ()))) ∧ (True ∧ (True ∧ True)) ∧ True)))))))))))))))))))))))
theorem sc__law_fuel_holds : FnScope ["state", "lengths", "minutes", "more", "fuel", "much", "slow", "due", "wasted", "even", "whole", "own"] ["state", "lengths"] (defScope (topS 38)) := ⟨rfl, rfl, rfl, by decide +kernel, rfl, by decide +kernel, by decide +kernel⟩
theorem b__law_fuel_holds {K : Y.Frag} {mg : Str → Option Value} {ad : Nat → Addr} {fd : Nat → FuncData} (T : Tx K mg ad fd) : Binds K (fd 38) ["state", "lengths"] [] := T.F38.binds (ps := ["state", "lengths"]) fun _ _ _ _ _ _ us hl => match us, hl with | [_, _], _ => rfl
theorem f__law_fuel_holds {P : Program} {w : World} {K : Y.Frag} {mg : Str → Option Value} {base : Heap} {ad : Nat → Addr} {fd : Nat → FuncData} (T : Tx K mg ad fd) : FnG P w K mg base 7 (ad 38) (fd 38) ["state", "lengths"] (spS K (ac (cT cI) an) cSt cB g__law_fuel_holds m__law_fuel_holds) :=
  fn_state T.F38 sc__law_fuel_holds 10 (fun _ => rfl) rfl (owS := []) (ow' := []) (ΓS := fun _ : Empty => []) (Γ' := fun _ : Empty => []) (cr := fun r : (Bool) × St4 => cB r.1) (ci := fun r : (Bool) × St4 => cSt r.2) (G := g__law_fuel_holds) (d := o__law_fuel_holds) (fun A0 p cdv A outer s H E hr hg => by
    have hu : (A.deeper (envOfC _ (defScope (topS 38)) s.heap.objs.size _ cdv)).units + 64 < cLine := Nat.lt_of_le_of_lt (Nat.add_le_add_left (by decide) _) (room_un hr)
    have key : Dss (XF P w K mg base ["state", "lengths", "minutes", "more", "fuel", "much", "slow", "due", "wasted", "even", "whole", "own"] "_law_fuel_holds" (topS 38) (ad 38) cdv A outer s H E) ⟨A0, [], some p⟩ [0] (fun a : E0__law_fuel_holds => some (.list (cSt a.2)) :: (((ac (cT cI) an) a.1).map some ++ List.replicate 10 none)) (fun r : (Bool) × St4 => cB r.1) (fun r : (Bool) × St4 => cSt r.2) [] (fun _ : Empty => []) (defBody (topS 38)) _ _ [] (fun _ : Empty => []) := (s_cons (s_asgT (d_tp2 (a_cons (d_ty call_tuple_of (v_tuple sq_L) T.z_tuple (by decide +kernel) (a_cons (DL.de (d_lcS (fun q : E0__law_fuel_holds => q.2) (fun (q : E0__law_fuel_holds) t => (q.1, t)) (fun _ _ _ => rfl) (fun _ => rfl) (fun _ _ => rfl) (tg_name 11) (tgf_name 11) (fun _ _ _ => rfl) (fun _ t t' i d hi h => hfz_of 0 (by decide) (x := some (.list (cSt t'))) rfl hi h) (i_tup (d_var 1 (fun q : E0__law_fuel_holds => q.1.1) (cT cI) (fun _ => rfl))) (blkOk_by (N := ["state", "lengths", "minutes", "more", "fuel", "much", "slow", "due", "wasted", "even", "whole", "own"]) (sc := defScope (topS 38)) (own := [("own", 11)]) (by decide +kernel)) (fun _ _ _ _ _ => (pg_name (i := 11) sc__law_fuel_holds.nd rfl (by first | exact .inl rfl | exact .inr rfl))) (fun _ _ _ _ _ _ => (d_op op_add v_add d_int (d_callS 0 (fun q : E1__law_fuel_holds => q.1.2) (fun (q : E1__law_fuel_holds) t => ((q.1.1, t), q.2)) (fun _ => rfl) (fun _ _ => rfl) ((f__law_draw T).mono (by decide)) hr hg T.M30 T.F30.kp (b__law_draw T) (a_cons d_int a_nil)))) (own := [("own", 11)]) (hN := sc__law_fuel_holds.nd))) a_nil)) (a_cons (d_op op_add v_add d_int (d_callS 0 (fun q : E0__law_fuel_holds => q.2) (fun (q : E0__law_fuel_holds) t => (q.1, t)) (fun _ => rfl) (fun _ _ => rfl) ((f__law_draw T).mono (by decide)) hr hg T.M30 T.F30.kp (b__law_draw T) (a_cons d_int a_nil))) a_nil))) (pg_tup rfl (pgs_cons (pg_name (i := 2) sc__law_fuel_holds.nd rfl (by first | exact .inl rfl | exact .inr rfl)) (pgs_cons (pg_name (i := 3) sc__law_fuel_holds.nd rfl (by first | exact .inl rfl | exact .inr rfl)) pgs_nil))) (tg_pair 2 3)) (s_cons (s_asg 4 (d_call ((f_fuel_for T).mono (by decide)) hr hg T.M21 T.F21.kp (b_fuel_for T) (a_cons (d_var 1 (fun q : E2__law_fuel_holds => q.1.1.1) (cT cI) (fun _ => rfl)) (a_cons (d_var 2 (fun q : E2__law_fuel_holds => q.2.1) (cT cI) (fun _ => rfl)) a_nil))) (hN := sc__law_fuel_holds.nd)) (s_cons (s_par 5 6 (ca := (cT cI)) (cb := (cT cI)) (ga := fun x : (List Int) × (List Int) × Unit => x.1) (gb := fun x : (List Int) × (List Int) × Unit => x.2.1) (a_cons (d_ty call_tuple_of (v_tuple sq_L) T.z_tuple (by decide +kernel) (a_cons (DL.de (d_lc0 (i_tup (d_var 1 (fun q : E3__law_fuel_holds => q.1.1.1.1) (cT cI) (fun _ => rfl))) (blkOk_by (N := ["state", "lengths", "minutes", "more", "fuel", "much", "slow", "due", "wasted", "even", "whole", "own"]) (sc := defScope (topS 38)) (own := [("own", 11)]) (by decide +kernel)) (tg_name 11) (fun _ _ _ _ _ => (pg_name (i := 11) sc__law_fuel_holds.nd rfl (by first | exact .inl rfl | exact .inr rfl))) (fun _ _ _ _ _ _ => (d_op op_mul v_mul (d_var 11 (fun q : E4__law_fuel_holds => q.2) cI (fun _ => rfl)) (d_var 3 (fun q : E4__law_fuel_holds => q.1.1.2.2) cI (fun _ => rfl)))) (own := [("own", 11)]) (hN := sc__law_fuel_holds.nd))) a_nil)) (a_cons (d_ty call_tuple_of (v_tuple sq_L) T.z_tuple (by decide +kernel) (a_cons (DL.de (d_lc0 (i_tup (d_var 2 (fun q : E3__law_fuel_holds => q.1.2.1) (cT cI) (fun _ => rfl))) (blkOk_by (N := ["state", "lengths", "minutes", "more", "fuel", "much", "slow", "due", "wasted", "even", "whole", "own"]) (sc := defScope (topS 38)) (own := [("own", 11)]) (by decide +kernel)) (tg_name 11) (fun _ _ _ _ _ => (pg_name (i := 11) sc__law_fuel_holds.nd rfl (by first | exact .inl rfl | exact .inr rfl))) (fun _ _ _ _ _ _ => (d_op op_mul v_mul (d_var 11 (fun q : E4__law_fuel_holds => q.2) cI (fun _ => rfl)) (d_var 3 (fun q : E4__law_fuel_holds => q.1.1.2.2) cI (fun _ => rfl)))) (own := [("own", 11)]) (hN := sc__law_fuel_holds.nd))) a_nil)) a_nil)) (fun _ => rfl) rfl (hN := sc__law_fuel_holds.nd)) (s_cons (s_asg 7 (DL.de (l_disp (c := (c2 cI cI)) (g := fun x : (Int × Int) × (Int × Int) × (Int × Int) × Unit => [x.1, x.2.1, x.2.2.1]) (fun _ => rfl) (fun _ => Nat.le_of_ble_eq_true rfl) (a_cons (d_call ((f__law_mul T).mono (by decide)) hr hg T.M35 T.F35.kp (b__law_mul T) (a_cons (d_var 4 (fun q : E6__law_fuel_holds => q.1.1.2) (c2 cI cI) (fun _ => rfl)) (a_cons (d_tp2 (a_cons (d_op op_mul v_mul (d_op op_mul v_mul (d_var 3 (fun q : E6__law_fuel_holds => q.1.1.1.2.2) cI (fun _ => rfl)) (d_var 3 (fun q : E6__law_fuel_holds => q.1.1.1.2.2) cI (fun _ => rfl))) (d_var 3 (fun q : E6__law_fuel_holds => q.1.1.1.2.2) cI (fun _ => rfl))) (a_cons d_int a_nil))) a_nil))) (a_cons (d_call ((f__law_mul T).mono (by decide)) hr hg T.M35 T.F35.kp (b__law_mul T) (a_cons (d_var 4 (fun q : E6__law_fuel_holds => q.1.1.2) (c2 cI cI) (fun _ => rfl)) (a_cons (d_tp2 (a_cons d_int (a_cons (d_op op_mul v_mul (d_var 3 (fun q : E6__law_fuel_holds => q.1.1.1.2.2) cI (fun _ => rfl)) (d_var 3 (fun q : E6__law_fuel_holds => q.1.1.1.2.2) cI (fun _ => rfl))) a_nil))) a_nil))) (a_cons (d_call ((f__law_mul T).mono (by decide)) hr hg T.M35 T.F35.kp (b__law_mul T) (a_cons (d_var 4 (fun q : E6__law_fuel_holds => q.1.1.2) (c2 cI cI) (fun _ => rfl)) (a_cons (d_tp2 (a_cons (d_var 3 (fun q : E6__law_fuel_holds => q.1.1.1.2.2) cI (fun _ => rfl)) (a_cons d_int a_nil))) a_nil))) a_nil))))) (hN := sc__law_fuel_holds.nd)) (s_ifR (t_not (t_val (d_call ((f__law_same_LQ T).mono (by decide)) hr hg T.M32 T.F32.kp (b__law_same T) (a_cons (DL.de (l_disp (c := (c2 cI cI)) (g := fun x : (Int × Int) × (Int × Int) × (Int × Int) × Unit => [x.1, x.2.1, x.2.2.1]) (fun _ => rfl) (fun _ => Nat.le_of_ble_eq_true rfl) (a_cons (d_call ((f_fuel_for T).mono (by decide)) hr hg T.M21 T.F21.kp (b_fuel_for T) (a_cons (d_var 5 (fun q : E7__law_fuel_holds => q.1.1.2) (cT cI) (fun _ => rfl)) (a_cons (d_var 2 (fun q : E7__law_fuel_holds => q.1.1.1.1.2.1) (cT cI) (fun _ => rfl)) a_nil))) (a_cons (d_call ((f_fuel_for T).mono (by decide)) hr hg T.M21 T.F21.kp (b_fuel_for T) (a_cons (d_var 1 (fun q : E7__law_fuel_holds => q.1.1.1.1.1.1.1) (cT cI) (fun _ => rfl)) (a_cons (d_var 6 (fun q : E7__law_fuel_holds => q.1.2) (cT cI) (fun _ => rfl)) a_nil))) (a_cons (d_call ((f_fuel_for T).mono (by decide)) hr hg T.M21 T.F21.kp (b_fuel_for T) (a_cons (d_var 5 (fun q : E7__law_fuel_holds => q.1.1.2) (cT cI) (fun _ => rfl)) (a_cons (d_var 6 (fun q : E7__law_fuel_holds => q.1.2) (cT cI) (fun _ => rfl)) a_nil))) a_nil))))) (a_cons (d_var 7 (fun q : E7__law_fuel_holds => q.2) (cL (c2 cI cI)) (fun _ => rfl)) a_nil))))) (s_one (s_retS (r := fun v (q : E7__law_fuel_holds) => (v, q.1.1.1.1.1.2)) (fun _ _ => rfl) (fun _ _ => rfl) d_bl)) (by intro ε n; (repeat' (first | (intro h; nomatch h) | split))) (s_cons (s_par 8 9 (ca := (c2 cI cI)) (cb := (c2 cS cD)) (ga := fun x : (Int × Int) × (PySem.Str × PyData) × Unit => x.1) (gb := fun x : (Int × Int) × (PySem.Str × PyData) × Unit => x.2.1) (a_cons (d_call ((f_fuel_wasted T).mono (by decide)) hr hg T.M23 T.F23.kp (b_fuel_wasted T) (a_cons (d_var 1 (fun q : E7__law_fuel_holds => q.1.1.1.1.1.1.1) (cT cI) (fun _ => rfl)) (a_cons (d_var 2 (fun q : E7__law_fuel_holds => q.1.1.1.1.2.1) (cT cI) (fun _ => rfl)) a_nil))) (a_cons (d_call ((f_judge_even T).mono (by decide)) hr hg T.M22 T.F22.kp (b_judge_even T) (a_cons (d_var 1 (fun q : E7__law_fuel_holds => q.1.1.1.1.1.1.1) (cT cI) (fun _ => rfl)) (a_cons (d_var 2 (fun q : E7__law_fuel_holds => q.1.1.1.1.2.1) (cT cI) (fun _ => rfl)) a_nil))) a_nil)) (fun _ => rfl) rfl (hN := sc__law_fuel_holds.nd)) (s_cons (s_asg 10 (d_call ((f__law_low T).mono (by decide)) hr hg T.M33 T.F33.kp (b__law_low T) (a_cons (d_op op_pow v_pow (d_blt (cr_sumT rfl) v_sumT T.z_sum (by decide +kernel) (a_cons (d_var 1 (fun q : E9__law_fuel_holds => q.1.1.1.1.1.1.1.1.1) (cT cI) (fun _ => rfl)) a_nil)) d_int) (a_cons (d_op op_pow v_pow (d_blt (cr_sumT rfl) v_sumT T.z_sum (by decide +kernel) (a_cons (d_var 2 (fun q : E9__law_fuel_holds => q.1.1.1.1.1.1.2.1) (cT cI) (fun _ => rfl)) a_nil)) d_int) a_nil))) (hN := sc__law_fuel_holds.nd)) (s_ifR (Dw.dt (w_orP (t_not (t_val (d_call ((f__law_same_Q T).mono (by decide)) hr hg T.M32 T.F32.kp (b__law_same T) (a_cons (d_call ((f__law_plus T).mono (by decide)) hr hg T.M34 T.F34.kp (b__law_plus T) (a_cons (d_var 8 (fun q : E10__law_fuel_holds => q.1.1.2) (c2 cI cI) (fun _ => rfl)) (a_cons (d_var 10 (fun q : E10__law_fuel_holds => q.2) (c2 cI cI) (fun _ => rfl)) a_nil))) (a_cons (d_var 4 (fun q : E10__law_fuel_holds => q.1.1.1.1.1.1.2) (c2 cI cI) (fun _ => rfl)) a_nil))))) (w_orP (t_cmp op_lt v_lt (d_prj 0 (fun x : Int × Int => x.1) (cb := cI) (fun _ => ⟨_, rfl, rfl⟩) (d_var 8 (fun q : E10__law_fuel_holds => q.1.1.2) (c2 cI cI) (fun _ => rfl)) d_int) d_int (nomark _)) (w_or1 (t_cmp op_ne v_neB (d_cmp op_eq v_eqI (d_prj 0 (fun x : Int × Int => x.1) (cb := cI) (fun _ => ⟨_, rfl, rfl⟩) (d_var 8 (fun q : E10__law_fuel_holds => q.1.1.2) (c2 cI cI) (fun _ => rfl)) d_int) d_int (nomark _)) (d_cmp op_eq v_eqS (d_prj 0 (fun x : PySem.Str × PyData => x.1) (cb := cS) (fun _ => ⟨_, rfl, rfl⟩) (d_var 9 (fun q : E10__law_fuel_holds => q.1.2) (c2 cS cD) (fun _ => rfl)) d_int) d_str (nomark _)) (nomark _)))))) (s_one (s_retS (r := fun v (q : E10__law_fuel_holds) => (v, q.1.1.1.1.1.1.1.1.2)) (fun _ _ => rfl) (fun _ _ => rfl) d_bl)) (by intro ε n; (repeat' (first | (intro h; nomatch h) | split))) (s_ifR (Dw.dt (w_orP (t_not (t_val (d_call ((f__law_same_Q T).mono (by decide)) hr hg T.M32 T.F32.kp (b__law_same T) (a_cons (d_call ((f_fuel_wasted T).mono (by decide)) hr hg T.M23 T.F23.kp (b_fuel_wasted T) (a_cons (d_var 5 (fun q : E10__law_fuel_holds => q.1.1.1.1.1.2) (cT cI) (fun _ => rfl)) (a_cons (d_var 6 (fun q : E10__law_fuel_holds => q.1.1.1.1.2) (cT cI) (fun _ => rfl)) a_nil))) (a_cons (d_call ((f__law_mul T).mono (by decide)) hr hg T.M35 T.F35.kp (b__law_mul T) (a_cons (d_var 8 (fun q : E10__law_fuel_holds => q.1.1.2) (c2 cI cI) (fun _ => rfl)) (a_cons (d_tp2 (a_cons (d_var 3 (fun q : E10__law_fuel_holds => q.1.1.1.1.1.1.1.2.2) cI (fun _ => rfl)) (a_cons d_int a_nil))) a_nil))) a_nil))))) (w_or1 (t_cmp (op_neD hu) v_neG (d_call ((f_judge_even T).mono (by decide)) hr hg T.M22 T.F22.kp (b_judge_even T) (a_cons (d_var 5 (fun q : E10__law_fuel_holds => q.1.1.1.1.1.2) (cT cI) (fun _ => rfl)) (a_cons (d_var 6 (fun q : E10__law_fuel_holds => q.1.1.1.1.2) (cT cI) (fun _ => rfl)) a_nil))) (d_var 9 (fun q : E10__law_fuel_holds => q.1.2) (c2 cS cD) (fun _ => rfl)) (nomark _))))) (s_one (s_retS (r := fun v (q : E10__law_fuel_holds) => (v, q.1.1.1.1.1.1.1.1.2)) (fun _ _ => rfl) (fun _ _ => rfl) d_bl)) (by intro ε n; (repeat' (first | (intro h; nomatch h) | split))) (s_one (s_retS (r := fun v (q : E10__law_fuel_holds) => (v, q.1.1.1.1.1.1.1.1.2)) (fun _ _ => rfl) (fun _ _ => rfl) (d_and ((d_cmp (op_eqD hu) v_eqG (d_call ((f_judge_even T).mono (by decide)) hr hg T.M22 T.F22.kp (b_judge_even T) (a_cons (d_var 1 (fun q : E10__law_fuel_holds => q.1.1.1.1.1.1.1.1.1.1) (cT cI) (fun _ => rfl)) (a_cons (d_ty call_tuple_of (v_tuple sq_L) T.z_tuple (by decide +kernel) (a_cons (DL.de (d_lc0 (i_tup (d_var 1 (fun q : E10__law_fuel_holds => q.1.1.1.1.1.1.1.1.1.1) (cT cI) (fun _ => rfl))) (blkOk_by (N := ["state", "lengths", "minutes", "more", "fuel", "much", "slow", "due", "wasted", "even", "whole", "own"]) (sc := defScope (topS 38)) (own := [("own", 11)]) (by decide +kernel)) (tg_name 11) (fun _ _ _ _ _ => (pg_name (i := 11) sc__law_fuel_holds.nd rfl (by first | exact .inl rfl | exact .inr rfl))) (fun _ _ _ _ _ _ => (d_op op_mul v_mul (d_var 11 (fun q : E11__law_fuel_holds => q.2) cI (fun _ => rfl)) (d_var 3 (fun q : E11__law_fuel_holds => q.1.1.1.1.1.1.1.1.2.2) cI (fun _ => rfl)))) (own := [("own", 11)]) (hN := sc__law_fuel_holds.nd))) a_nil)) a_nil))) (d_tp2 (a_cons d_str (a_cons (De.as (c := (c2 cI cI)) (c' := cD) (g := fun x : Int × Int => ((c2 cI cI) x)) (fun _ => rfl) (d_tp2 (a_cons d_int (a_cons (d_var 3 (fun q : E10__law_fuel_holds => q.1.1.1.1.1.1.1.2.2) cI (fun _ => rfl)) a_nil)))) a_nil))) (nomark _))) (d_one ((d_cmp (op_eqD hu) (v_eqD (cq_2 cq_I cq_I) (cq_2 cq_I cq_I)) (d_call ((f_fuel_wasted T).mono (by decide)) hr hg T.M23 T.F23.kp (b_fuel_wasted T) (a_cons (d_var 1 (fun q : E10__law_fuel_holds => q.1.1.1.1.1.1.1.1.1.1) (cT cI) (fun _ => rfl)) (a_cons (d_ty call_tuple_of (v_tuple sq_L) T.z_tuple (by decide +kernel) (a_cons (DL.de (d_lc0 (i_tup (d_var 1 (fun q : E10__law_fuel_holds => q.1.1.1.1.1.1.1.1.1.1) (cT cI) (fun _ => rfl))) (blkOk_by (N := ["state", "lengths", "minutes", "more", "fuel", "much", "slow", "due", "wasted", "even", "whole", "own"]) (sc := defScope (topS 38)) (own := [("own", 11)]) (by decide +kernel)) (tg_name 11) (fun _ _ _ _ _ => (pg_name (i := 11) sc__law_fuel_holds.nd rfl (by first | exact .inl rfl | exact .inr rfl))) (fun _ _ _ _ _ _ => (d_op op_mul v_mul (d_var 11 (fun q : E11__law_fuel_holds => q.2) cI (fun _ => rfl)) (d_var 3 (fun q : E11__law_fuel_holds => q.1.1.1.1.1.1.1.1.2.2) cI (fun _ => rfl)))) (own := [("own", 11)]) (hN := sc__law_fuel_holds.nd))) a_nil)) a_nil))) (d_tp2 (a_cons d_int (a_cons d_int a_nil))) (nomark _))))))))))))))))
    exact dss_eq key (by kernel_rfl) (by kernel_rfl)) (fun _ h => h) (fun a _ => ret_ex (o__law_fuel_holds a))
abbrev E0__law_moved_hold : Type := ((List Int) × Unit) × St4
abbrev E1__law_moved_hold : Type := E0__law_moved_hold × Int
def c1__law_moved_hold (s3 : St4) (x1 : Int) : Int × St4 :=
  (let r4 := m__law_draw (((20 : Int), ()), s3); (((2 : Int) + r4.1), r4.2))
def cg1__law_moved_hold (s3 : St4) (x1 : Int) : Prop :=
  (let r4 := m__law_draw (((20 : Int), ()), s3); (True ∧ ((True ∧ True) ∧ (g__law_draw (((20 : Int), ()), s3))) ∧ True))
abbrev E2__law_moved_hold : Type := E0__law_moved_hold × (List Int)
abbrev E3__law_moved_hold : Type := E2__law_moved_hold × Int
abbrev E4__law_moved_hold : Type := E3__law_moved_hold × Int
abbrev E5__law_moved_hold : Type := E4__law_moved_hold × Int
abbrev E6__law_moved_hold : Type := E4__law_moved_hold × (List Int)
abbrev E7__law_moved_hold : Type := E6__law_moved_hold × (Int × Int)
abbrev E8__law_moved_hold : Type := E7__law_moved_hold × (Int × Int)
def o__law_moved_hold (a : E0__law_moved_hold) : Out Empty ((Bool) × St4) Empty :=
  (let lengths := a.1.1; (let r5 := lcS c1__law_moved_hold a.2 lengths; (let minutes6 : List Int := r5.1; (if (decide (((lengths).length : Int) = (1 : Int))) = true then (Out.rt (true, r5.2)) else (let r7 := m__law_draw ((((lengths).length : Int), ()), r5.2); (let one8 : Int := r7.1; (let r9 := m__law_draw (((((lengths).length : Int) - (1 : Int)), ()), r7.2); (let other10 : Int := (((one8 + (1 : Int)) + r9.1) % ((lengths).length : Int)); (let moved12 : List Int := (((rng 0 (((lengths).length : Int)))).map fun x11 => (if (decide (x11 = one8)) = true then ((ixD minutes6 x11) - (1 : Int)) else (if (decide (x11 = other10)) = true then ((ixD minutes6 x11) + (1 : Int)) else (ixD minutes6 x11)))); (let saved13 : Int × Int := (m_minute_moved (lengths, minutes6, one8, other10, ())); let back14 : Int × Int := (m_minute_moved (lengths, moved12, other10, one8, ())); (if (!((m__law_same_Q (back14, (((0 : Int) - saved13.1), saved13.2), ())))) = true then (Out.rt (false, r9.2)) else (Out.rt ((m__law_same_Q ((m__law_plus ((m_fuel_for (lengths, moved12, ())), saved13, ())), (m_fuel_for (lengths, minutes6, ())), ())), r9.2)))))))))))))
def m__law_moved_hold (a : E0__law_moved_hold) : (Bool) × St4 := (o__law_moved_hold a).ret
def g__law_moved_hold (a : E0__law_moved_hold) : Prop :=
  (let lengths := a.1.1; (let r5 := lcS c1__law_moved_hold a.2 lengths; ((((True ∧ (lcG cg1__law_moved_hold c1__law_moved_hold a.2 lengths)) ∧ True) ∧ True) ∧ (let minutes6 : List Int := r5.1; ((((True ∧ True) ∧ True) ∧ True ∧ True) ∧ ((decide (((lengths).length : Int) = (1 : Int))) = true → True) ∧ ((decide (((lengths).length : Int) = (1 : Int))) = false → (let r7 := m__law_draw ((((lengths).length : Int), ()), r5.2); (((((True ∧ True) ∧ True) ∧ True) ∧ (g__law_draw ((((lengths).length : Int), ()), r5.2))) ∧ (let one8 : Int := r7.1; (let r9 := m__law_draw (((((lengths).length : Int) - (1 : Int)), ()), r7.2); ((((((True ∧ True ∧ True) ∧ (((((True ∧ True) ∧ True) ∧ True ∧ True) ∧ True) ∧ (g__law_draw (((((lengths).length : Int) - (1 : Int)), ()), r7.2))) ∧ True) ∧ True) ∧ True) ∧ ((True ∧ True) ∧ True) ∧ ((0 : Int) < ((lengths).length : Int))) ∧ (let other10 : Int := (((one8 + (1 : Int)) + r9.1) % ((lengths).length : Int)); ((((((((True ∧ True) ∧ True) ∧ True) ∧ (CRg 0 (((lengths).length : Int)))) ∧ (∀ x11 ∈ (rng 0 (((lengths).length : Int))), ((True ∧ True ∧ True) ∧ ((decide (x11 = one8)) = true → ((True ∧ True ∧ (CIx minutes6 x11)) ∧ True ∧ True)) ∧ ((decide (x11 = one8)) = false → ((True ∧ True ∧ True) ∧ ((decide (x11 = other10)) = true → ((True ∧ True ∧ (CIx minutes6 x11)) ∧ True ∧ True)) ∧ ((decide (x11 = other10)) = false → (True ∧ True ∧ (CIx minutes6 x11)))))))) ∧ True) ∧ True) ∧ (let moved12 : List Int := (((rng 0 (((lengths).length : Int)))).map fun x11 => (if (decide (x11 = one8)) = true then ((ixD minutes6 x11) - (1 : Int)) else (if (decide (x11 = other10)) = true then ((ixD minutes6 x11) + (1 : Int)) else (ixD minutes6 x11)))); ((((True ∧ (True ∧ (True ∧ (True ∧ True)))) ∧ (g_minute_moved (lengths, minutes6, one8, other10, ()))) ∧ (((True ∧ (True ∧ (True ∧ (True ∧ True)))) ∧ (g_minute_moved (lengths, moved12, other10, one8, ()))) ∧ True)) ∧ (let saved13 : Int × Int := (m_minute_moved (lengths, minutes6, one8, other10, ())); let back14 : Int × Int := (m_minute_moved (lengths, moved12, other10, one8, ())); (((True ∧ (((True ∧ True ∧ True) ∧ (True ∧ True)) ∧ True)) ∧ (g__law_same_Q (back14, (((0 : Int) - saved13.1), saved13.2), ()))) ∧ ((!((m__law_same_Q (back14, (((0 : Int) - saved13.1), saved13.2), ())))) = true → True) ∧ ((!((m__law_same_Q (back14, (((0 : Int) - saved13.1), saved13.2), ())))) = false → ((((((True ∧ (True ∧ True)) ∧ (g_fuel_for (lengths, moved12, ()))) ∧ (True ∧ True)) ∧ (g__law_plus ((m_fuel_for (lengths, moved12, ())), saved13, ()))) ∧ (((True ∧ (True ∧ True)) ∧ (g_fuel_for (lengths, minutes6, ()))) ∧ True)) ∧ (g__law_same_Q ((m__law_plus ((m_fuel_for (lengths, moved12, ())), saved13, ())), (m_fuel_for (lengths, minutes6, ())), ())))))))))))))))))))))
theorem sc__law_moved_hold : FnScope ["state", "lengths", "minutes", "one", "other", "moved", "saved", "back", "own", "k"] ["state", "lengths"] (defScope (topS 39)) := ⟨rfl, rfl, rfl, by decide +kernel, rfl, by decide +kernel, by decide +kernel⟩
theorem b__law_moved_hold {K : Y.Frag} {mg : Str → Option Value} {ad : Nat → Addr} {fd : Nat → FuncData} (T : Tx K mg ad fd) : Binds K (fd 39) ["state", "lengths"] [] := T.F39.binds (ps := ["state", "lengths"]) fun _ _ _ _ _ _ us hl => match us, hl with | [_, _], _ => rfl
theorem f__law_moved_hold {P : Program} {w : World} {K : Y.Frag} {mg : Str → Option Value} {base : Heap} {ad : Nat → Addr} {fd : Nat → FuncData} (T : Tx K mg ad fd) : FnG P w K mg base 6 (ad 39) (fd 39) ["state", "lengths"] (spS K (ac (cT cI) an) cSt cB g__law_moved_hold m__law_moved_hold) :=
  fn_state T.F39 sc__law_moved_hold 8 (fun _ => rfl) rfl (owS := []) (ow' := []) (ΓS := fun _ : Empty => []) (Γ' := fun _ : Empty => []) (cr := fun r : (Bool) × St4 => cB r.1) (ci := fun r : (Bool) × St4 => cSt r.2) (G := g__law_moved_hold) (d := o__law_moved_hold) (fun A0 p cdv A outer s H E hr hg => by
    have hu : (A.deeper (envOfC _ (defScope (topS 39)) s.heap.objs.size _ cdv)).units + 64 < cLine := Nat.lt_of_le_of_lt (Nat.add_le_add_left (by decide) _) (room_un hr)
    have key : Dss (XF P w K mg base ["state", "lengths", "minutes", "one", "other", "moved", "saved", "back", "own", "k"] "_law_moved_hold" (topS 39) (ad 39) cdv A outer s H E) ⟨A0, [], some p⟩ [0] (fun a : E0__law_moved_hold => some (.list (cSt a.2)) :: (((ac (cT cI) an) a.1).map some ++ List.replicate 8 none)) (fun r : (Bool) × St4 => cB r.1) (fun r : (Bool) × St4 => cSt r.2) [] (fun _ : Empty => []) (defBody (topS 39)) _ _ [] (fun _ : Empty => []) := (s_cons (s_asg 2 (d_ty call_tuple_of (v_tuple sq_L) T.z_tuple (by decide +kernel) (a_cons (DL.de (d_lcS (fun q : E0__law_moved_hold => q.2) (fun (q : E0__law_moved_hold) t => (q.1, t)) (fun _ _ _ => rfl) (fun _ => rfl) (fun _ _ => rfl) (tg_name 8) (tgf_name 8) (fun _ _ _ => rfl) (fun _ t t' i d hi h => hfz_of 0 (by decide) (x := some (.list (cSt t'))) rfl hi h) (i_tup (d_var 1 (fun q : E0__law_moved_hold => q.1.1) (cT cI) (fun _ => rfl))) (blkOk_by (N := ["state", "lengths", "minutes", "one", "other", "moved", "saved", "back", "own", "k"]) (sc := defScope (topS 39)) (own := [("own", 8)]) (by decide +kernel)) (fun _ _ _ _ _ => (pg_name (i := 8) sc__law_moved_hold.nd rfl (by first | exact .inl rfl | exact .inr rfl))) (fun _ _ _ _ _ _ => (d_op op_add v_add d_int (d_callS 0 (fun q : E1__law_moved_hold => q.1.2) (fun (q : E1__law_moved_hold) t => ((q.1.1, t), q.2)) (fun _ => rfl) (fun _ _ => rfl) ((f__law_draw T).mono (by decide)) hr hg T.M30 T.F30.kp (b__law_draw T) (a_cons d_int a_nil)))) (own := [("own", 8)]) (hN := sc__law_moved_hold.nd))) a_nil)) (hN := sc__law_moved_hold.nd)) (s_ifR (t_cmp op_eq v_eqI (d_blt call_len_seq (v_len sq_T) T.z_len (by decide +kernel) (a_cons (d_var 1 (fun q : E2__law_moved_hold => q.1.1.1) (cT cI) (fun _ => rfl)) a_nil)) d_int (nomark _)) (s_one (s_retS (r := fun v (q : E2__law_moved_hold) => (v, q.1.2)) (fun _ _ => rfl) (fun _ _ => rfl) d_bl)) (by intro ε n; (repeat' (first | (intro h; nomatch h) | split))) (s_cons (s_asg 3 (d_callS 0 (fun q : E2__law_moved_hold => q.1.2) (fun (q : E2__law_moved_hold) t => ((q.1.1, t), q.2)) (fun _ => rfl) (fun _ _ => rfl) ((f__law_draw T).mono (by decide)) hr hg T.M30 T.F30.kp (b__law_draw T) (a_cons (d_blt call_len_seq (v_len sq_T) T.z_len (by decide +kernel) (a_cons (d_var 1 (fun q : E2__law_moved_hold => q.1.1.1) (cT cI) (fun _ => rfl)) a_nil)) a_nil)) (hN := sc__law_moved_hold.nd)) (s_cons (s_asg 4 (d_op op_mod v_mod (d_ty call_int1 v_int T.z_int (by decide +kernel) (a_cons (d_op op_add v_add (d_op op_add v_add (d_var 3 (fun q : E3__law_moved_hold => q.2) cI (fun _ => rfl)) d_int) (d_callS 0 (fun q : E3__law_moved_hold => q.1.1.2) (fun (q : E3__law_moved_hold) t => (((q.1.1.1, t), q.1.2), q.2)) (fun _ => rfl) (fun _ _ => rfl) ((f__law_draw T).mono (by decide)) hr hg T.M30 T.F30.kp (b__law_draw T) (a_cons (d_op op_sub v_sub (d_blt call_len_seq (v_len sq_T) T.z_len (by decide +kernel) (a_cons (d_var 1 (fun q : E3__law_moved_hold => q.1.1.1.1) (cT cI) (fun _ => rfl)) a_nil)) d_int) a_nil))) a_nil)) (d_blt call_len_seq (v_len sq_T) T.z_len (by decide +kernel) (a_cons (d_var 1 (fun q : E3__law_moved_hold => q.1.1.1.1) (cT cI) (fun _ => rfl)) a_nil))) (hN := sc__law_moved_hold.nd)) (s_cons (s_asg 5 (d_ty call_tuple_of (v_tuple sq_L) T.z_tuple (by decide +kernel) (a_cons (DL.de (d_lc0 (i_rng1 (a_cons (d_blt call_len_seq (v_len sq_T) T.z_len (by decide +kernel) (a_cons (d_var 1 (fun q : E4__law_moved_hold => q.1.1.1.1.1) (cT cI) (fun _ => rfl)) a_nil)) a_nil) T.z_range) (blkOk_by (N := ["state", "lengths", "minutes", "one", "other", "moved", "saved", "back", "own", "k"]) (sc := defScope (topS 39)) (own := [("k", 9)]) (by decide +kernel)) (tg_name 9) (fun _ _ _ _ _ => (pg_name (i := 9) sc__law_moved_hold.nd rfl (by first | exact .inl rfl | exact .inr rfl))) (fun _ _ _ _ _ _ => (d_if (t_cmp op_eq v_eqI (d_var 9 (fun q : E5__law_moved_hold => q.2) cI (fun _ => rfl)) (d_var 3 (fun q : E5__law_moved_hold => q.1.1.2) cI (fun _ => rfl)) (nomark _)) (d_op op_sub v_sub (d_ix ix_tup v_ixT (d_var 2 (fun q : E5__law_moved_hold => q.1.1.1.2) (cT cI) (fun _ => rfl)) (d_var 9 (fun q : E5__law_moved_hold => q.2) cI (fun _ => rfl))) d_int) (d_if (t_cmp op_eq v_eqI (d_var 9 (fun q : E5__law_moved_hold => q.2) cI (fun _ => rfl)) (d_var 4 (fun q : E5__law_moved_hold => q.1.2) cI (fun _ => rfl)) (nomark _)) (d_op op_add v_add (d_ix ix_tup v_ixT (d_var 2 (fun q : E5__law_moved_hold => q.1.1.1.2) (cT cI) (fun _ => rfl)) (d_var 9 (fun q : E5__law_moved_hold => q.2) cI (fun _ => rfl))) d_int) (d_ix ix_tup v_ixT (d_var 2 (fun q : E5__law_moved_hold => q.1.1.1.2) (cT cI) (fun _ => rfl)) (d_var 9 (fun q : E5__law_moved_hold => q.2) cI (fun _ => rfl)))))) (own := [("k", 9)]) (hN := sc__law_moved_hold.nd))) a_nil)) (hN := sc__law_moved_hold.nd)) (s_cons (s_par 6 7 (ca := (c2 cI cI)) (cb := (c2 cI cI)) (ga := fun x : (Int × Int) × (Int × Int) × Unit => x.1) (gb := fun x : (Int × Int) × (Int × Int) × Unit => x.2.1) (a_cons (d_call ((f_minute_moved T).mono (by decide)) hr hg T.M27 T.F27.kp (b_minute_moved T) (a_cons (d_var 1 (fun q : E6__law_moved_hold => q.1.1.1.1.1.1) (cT cI) (fun _ => rfl)) (a_cons (d_var 2 (fun q : E6__law_moved_hold => q.1.1.1.2) (cT cI) (fun _ => rfl)) (a_cons (d_var 3 (fun q : E6__law_moved_hold => q.1.1.2) cI (fun _ => rfl)) (a_cons (d_var 4 (fun q : E6__law_moved_hold => q.1.2) cI (fun _ => rfl)) a_nil))))) (a_cons (d_call ((f_minute_moved T).mono (by decide)) hr hg T.M27 T.F27.kp (b_minute_moved T) (a_cons (d_var 1 (fun q : E6__law_moved_hold => q.1.1.1.1.1.1) (cT cI) (fun _ => rfl)) (a_cons (d_var 5 (fun q : E6__law_moved_hold => q.2) (cT cI) (fun _ => rfl)) (a_cons (d_var 4 (fun q : E6__law_moved_hold => q.1.2) cI (fun _ => rfl)) (a_cons (d_var 3 (fun q : E6__law_moved_hold => q.1.1.2) cI (fun _ => rfl)) a_nil))))) a_nil)) (fun _ => rfl) rfl (hN := sc__law_moved_hold.nd)) (s_ifR (t_not (t_val (d_call ((f__law_same_Q T).mono (by decide)) hr hg T.M32 T.F32.kp (b__law_same T) (a_cons (d_var 7 (fun q : E8__law_moved_hold => q.2) (c2 cI cI) (fun _ => rfl)) (a_cons (d_tp2 (a_cons (d_op op_sub v_sub d_int (d_prj 0 (fun x : Int × Int => x.1) (cb := cI) (fun _ => ⟨_, rfl, rfl⟩) (d_var 6 (fun q : E8__law_moved_hold => q.1.2) (c2 cI cI) (fun _ => rfl)) d_int)) (a_cons (d_prj 1 (fun x : Int × Int => x.2) (cb := cI) (fun _ => ⟨_, rfl, rfl⟩) (d_var 6 (fun q : E8__law_moved_hold => q.1.2) (c2 cI cI) (fun _ => rfl)) d_int) a_nil))) a_nil))))) (s_one (s_retS (r := fun v (q : E8__law_moved_hold) => (v, q.1.1.1.1.1.1.2)) (fun _ _ => rfl) (fun _ _ => rfl) d_bl)) (by intro ε n; (repeat' (first | (intro h; nomatch h) | split))) (s_one (s_retS (r := fun v (q : E8__law_moved_hold) => (v, q.1.1.1.1.1.1.2)) (fun _ _ => rfl) (fun _ _ => rfl) (d_call ((f__law_same_Q T).mono (by decide)) hr hg T.M32 T.F32.kp (b__law_same T) (a_cons (d_call ((f__law_plus T).mono (by decide)) hr hg T.M34 T.F34.kp (b__law_plus T) (a_cons (d_call ((f_fuel_for T).mono (by decide)) hr hg T.M21 T.F21.kp (b_fuel_for T) (a_cons (d_var 1 (fun q : E8__law_moved_hold => q.1.1.1.1.1.1.1.1) (cT cI) (fun _ => rfl)) (a_cons (d_var 5 (fun q : E8__law_moved_hold => q.1.1.2) (cT cI) (fun _ => rfl)) a_nil))) (a_cons (d_var 6 (fun q : E8__law_moved_hold => q.1.2) (c2 cI cI) (fun _ => rfl)) a_nil))) (a_cons (d_call ((f_fuel_for T).mono (by decide)) hr hg T.M21 T.F21.kp (b_fuel_for T) (a_cons (d_var 1 (fun q : E8__law_moved_hold => q.1.1.1.1.1.1.1.1) (cT cI) (fun _ => rfl)) (a_cons (d_var 2 (fun q : E8__law_moved_hold => q.1.1.1.1.1.2) (cT cI) (fun _ => rfl)) a_nil))) a_nil))))))))))))
    exact dss_eq key (by kernel_rfl) (by kernel_rfl)) (fun _ h => h) (fun a _ => ret_ex (o__law_moved_hold a))
abbrev E0_law : Type := St4
abbrev E1_law : Type := E0_law × Int
abbrev E2_law : Type := E1_law × (List Int)
abbrev E3_law : Type := St4 × E0_law
def k1_law (q2 : E1_law) : Out E0_law Bool E0_law :=
  (let r3 := m__law_lengths ((), q2.1); (let lengths4 : List Int := r3.1; (let r5 := m__law_best_hold ((lengths4, ()), r3.2); let r6 := m__law_fuel_holds ((lengths4, ()), r5.2); let r7 := m__law_moved_hold ((lengths4, ()), r6.2); let t8 := (if (!r5.1) = true then r5.2 else (if (!r6.1) = true then r6.2 else r7.2)); (if ((!r5.1) || ((!r6.1) || (!r7.1))) = true then (Out.rt false) else (Out.nx t8)))))
def kg1_law (q2 : E1_law) : Prop :=
  (let r3 := m__law_lengths ((), q2.1); ((True ∧ (g__law_lengths ((), q2.1))) ∧ (let lengths4 : List Int := r3.1; (let r5 := m__law_best_hold ((lengths4, ()), r3.2); let r6 := m__law_fuel_holds ((lengths4, ()), r5.2); let r7 := m__law_moved_hold ((lengths4, ()), r6.2); let t8 := (if (!r5.1) = true then r5.2 else (if (!r6.1) = true then r6.2 else r7.2)); ((((True ∧ True) ∧ (g__law_best_hold ((lengths4, ()), r3.2))) ∧ ((!r5.1) = false → (((True ∧ True) ∧ (g__law_fuel_holds ((lengths4, ()), r5.2))) ∧ ((!r6.1) = false → ((True ∧ True) ∧ (g__law_moved_hold ((lengths4, ()), r6.2))))))) ∧ (((!r5.1) || ((!r6.1) || (!r7.1))) = true → True) ∧ (((!r5.1) || ((!r6.1) || (!r7.1))) = false → True))))))
def o_law (a : St4) : Out Empty Bool Empty :=
  ((forO k1_law a (rng 0 ((5 : Int)))).bind (fun l9 : E0_law => (Out.rt true)))
def g_law (a : St4) : Prop :=
  ((((True ∧ True) ∧ (CRg 0 ((5 : Int)))) ∧ (forG kg1_law k1_law a (rng 0 ((5 : Int))))) ∧ (∀ l9 : E0_law, (forO k1_law a (rng 0 ((5 : Int)))) = Out.nx (S := Empty) l9 → True))
theorem sc_law : FnScope ["script", "state", "turn", "lengths"] ["script"] (defScope (topS 40)) := ⟨rfl, rfl, rfl, by decide +kernel, rfl, by decide +kernel, by decide +kernel⟩
theorem f_law {P : Program} {w : World} {K : Y.Frag} {mg : Str → Option Value} {base : Heap} {ad : Nat → Addr} {fd : Nat → FuncData} (T : Tx K mg ad fd) (ok : ∀ t, Wf t → g_law t ∧ o_law t = .rt true) : FnG P w K mg base 8 (ad 40) (fd 40) ["script"] (spLaw K) :=
  fn_law T.F40 2 rfl sc_law rfl ((f__law_start T).mono (by decide : 1 ≤ 7)) T.M29 T.F29.kp (b__law_start T) (owS := []) (ow' := []) (ΓS := fun _ : Empty => []) (Γ' := fun _ : Empty => []) (G := g_law) (d := o_law) (fun cdv A outer s H E hr hg => by
    have hu : (A.deeper (envOfC _ (defScope (topS 40)) s.heap.objs.size _ cdv)).units + 64 < cLine := Nat.lt_of_le_of_lt (Nat.add_le_add_left (by decide) _) (room_un hr)
    refine ⟨⟨_, ps_set (i := 1) sc_law.nd rfl (by first | exact .inl rfl | exact .inr rfl) (pe_callG ((f__law_start T).mono (by decide : 1 ≤ 7)) hr hg T.M29 T.F29.kp (b__law_start T) (pa_cons (pv 0) pa_nil)), fun a D σ H e h => by subst e; exact ⟨.ref a, rfl, h⟩⟩, ?_⟩
    have key : Dss (XF P w K mg base ["script", "state", "turn", "lengths"] "law" (topS 40) (ad 40) cdv A outer s H E) ⟨[], [], none⟩ [1] (fun t : St4 => none :: some (.list (cSt t)) :: List.replicate 2 none) cB (fun _ => []) [] (fun _ : Empty => []) ((defBody (topS 40)).drop 1) _ _ [] (fun _ : Empty => []) := (s_consK (s_forP (ΓL := (fun (e1 : St4) (m : E0_law) => [none, some (.list (cSt m)), none, none])) (fun q : St4 => q) (i_rng1 (a_cons d_int a_nil) T.z_range) (fun _ _ _ _ r => r) (pg_name (i := 2) sc_law.nd rfl (by first | exact .inl rfl | exact .inr rfl)) (tg_name 2) (fun e1 : St4 => (s_cons (s_asg 3 (d_callS 1 (fun q : E1_law => q.1) (fun (q : E1_law) t => (t, q.2)) (fun _ => rfl) (fun _ _ => rfl) ((f__law_lengths T).mono (by decide)) hr hg T.M36 T.F36.kp (b__law_lengths T) a_nil) (hN := sc_law.nd)) (s_ifR (Dw.dt (w_orS (fun (q : E2_law) t => ((t, q.1.2), q.2)) (t_not (t_val (d_callS 1 (fun q : E2_law => q.1.1) (fun (q : E2_law) t => ((t, q.1.2), q.2)) (fun _ => rfl) (fun _ _ => rfl) ((f__law_best_hold T).mono (by decide)) hr hg T.M37 T.F37.kp (b__law_best_hold T) (a_cons (d_var 3 (fun q : E2_law => q.2) (cT cI) (fun _ => rfl)) a_nil)))) (w_orS (fun (q : E2_law) t => ((t, q.1.2), q.2)) (t_not (t_val (d_callS 1 (fun q : E2_law => q.1.1) (fun (q : E2_law) t => ((t, q.1.2), q.2)) (fun _ => rfl) (fun _ _ => rfl) ((f__law_fuel_holds T).mono (by decide)) hr hg T.M38 T.F38.kp (b__law_fuel_holds T) (a_cons (d_var 3 (fun q : E2_law => q.2) (cT cI) (fun _ => rfl)) a_nil)))) (w_or1 (t_not (t_val (d_callS 1 (fun q : E2_law => q.1.1) (fun (q : E2_law) t => ((t, q.1.2), q.2)) (fun _ => rfl) (fun _ _ => rfl) ((f__law_moved_hold T).mono (by decide)) hr hg T.M39 T.F39.kp (b__law_moved_hold T) (a_cons (d_var 3 (fun q : E2_law => q.2) (cT cI) (fun _ => rfl)) a_nil))))) (fun _ => rfl) (fun _ => rfl)) (fun _ => rfl) (fun _ => rfl))) (s_one (s_ret (r := fun v (_ : E2_law) => v) (fun _ _ => rfl) rfl d_bl)) (by intro ε n; (repeat' (first | (intro h; nomatch h) | split))) (s_end (ow2 := [1]) (Γ2 := (fun m : E0_law => [none, some (.list (cSt m)), none, none])) (fun q : E2_law => q.1.1) (fun _ _ _ _ r => r.wk (.k (.k (.f (.f .nil))))))))) PassesOwn.never) (s_one (s_ret (r := fun v (_ : E3_law) => v) (fun _ _ => rfl) rfl d_bl)))
    exact dss_eq key (by kernel_rfl) (by kernel_rfl)) (fun t h => (ok t h).1) (fun t h => (ok t h).2)
end Z
namespace Y
open PySem PySem.Spec PyProof.Rows L2

/-! ### quotients as pairs -/
def qp (r : Rat) : Int × Int := (r.num, (r.den : Int))
theorem qp_inj {a b : Rat} : qp a = qp b ↔ a = b := by
  constructor
  · intro h
    have h1 : a.num = b.num := congrArg Prod.fst h
    have h2 : (a.den : Int) = (b.den : Int) := congrArg Prod.snd h
    exact Rat.ext h1 (by omega)
  · rintro rfl; rfl
theorem qp_int (n : Int) : (n, (1 : Int)) = qp (n : Rat) := rfl
theorem qp_zero : ((0 : Int), (1 : Int)) = qp 0 := rfl
theorem qp_one : ((1 : Int), (1 : Int)) = qp 1 := rfl
theorem qp_neg (a : Rat) : (0 - a.num, (a.den : Int)) = qp (-a) := by
  unfold qp
  rw [Rat.neg_num, Rat.neg_den, Int.zero_sub]
theorem qp_neg' (a : Rat) : (-a.num, (a.den : Int)) = qp (-a) := by
  unfold qp
  rw [Rat.neg_num, Rat.neg_den]
theorem qp_div {a b : Int} (h : 0 < b) : (a / (Int.gcd a b : Int), b / (Int.gcd a b : Int)) = qp (Rat.divInt a b) := by
  unfold qp
  have e1 := Rat.num_divInt a b
  have e2 := Rat.den_divInt a b
  rw [Int.sign_eq_one_of_pos h, Int.one_mul, Int.gcd_comm] at e1
  rw [if_neg (by omega), Int.gcd_comm] at e2
  refine Prod.ext e1.symm ?_
  show b / (Int.gcd a b : Int) = ((Rat.divInt a b).den : Int)
  rw [e2, Int.natCast_ediv]
  congr 1
  omega
theorem qp_inv {n : Int} (h : 0 < n) : ((1 : Int), n) = qp ((n : Rat)⁻¹) := by
  unfold qp
  rw [Rat.num_inv, Rat.den_inv]
  have e1 : (n : Rat).num = n := rfl
  have e2 : (n : Rat).den = 1 := rfl
  rw [e1, e2, Int.sign_eq_one_of_pos h, if_neg (by omega)]
  refine Prod.ext rfl ?_
  show n = (n.natAbs : Int)
  omega
theorem den_pos (a : Rat) : 0 < (a.den : Int) := by
  have := a.den_nz
  omega
theorem div_add (a b : Rat) : Rat.divInt (a.num * b.den + b.num * a.den) ((a.den : Int) * b.den) = a + b := by
  have h := Rat.divInt_add_divInt a.num b.num (d₁ := a.den) (d₂ := b.den) (by have := den_pos a; omega) (by have := den_pos b; omega)
  rw [Rat.num_divInt_den, Rat.num_divInt_den] at h
  exact h.symm
theorem div_sub (a b : Rat) : Rat.divInt (a.num * b.den - b.num * a.den) ((a.den : Int) * b.den) = a - b := by
  have h := Rat.divInt_sub_divInt a.num b.num (d₁ := a.den) (d₂ := b.den) (by have := den_pos a; omega) (by have := den_pos b; omega)
  rw [Rat.num_divInt_den, Rat.num_divInt_den] at h
  exact h.symm
theorem div_mul (a b : Rat) : Rat.divInt (a.num * b.num) ((a.den : Int) * b.den) = a * b := by
  have h := Rat.divInt_mul_divInt a.num b.num (d₁ := a.den) (d₂ := b.den)
  rw [Rat.num_divInt_den, Rat.num_divInt_den] at h
  exact h.symm
theorem div_div (a b : Rat) : Rat.divInt (a.num * b.den) ((a.den : Int) * b.num) = a / b := by
  have h := Rat.divInt_mul_divInt a.num b.den (d₁ := a.den) (d₂ := b.num)
  rw [Rat.num_divInt_den, ← Rat.inv_def] at h
  exact h.symm
/-! ### sizes -/
def Sz (k : Nat) (r : Rat) : Prop := r.num.natAbs < 2 ^ k ∧ r.den < 2 ^ k
theorem natAbs_div_le (a : Int) (n : Nat) : (a / (n : Int)).natAbs ≤ a.natAbs := Int.natAbs_ediv_le_natAbs a n
theorem Sz.mk {k : Nat} {a b : Int} (h1 : a.natAbs < 2 ^ k) (h2 : b.natAbs < 2 ^ k) (hb : b ≠ 0) : Sz k (Rat.divInt a b) := by
  constructor
  · rw [Rat.num_divInt]
    refine Nat.lt_of_le_of_lt (natAbs_div_le _ _) ?_
    rw [Int.natAbs_mul, Int.natAbs_sign_of_ne_zero hb, Nat.one_mul]
    exact h1
  · rw [Rat.den_divInt, if_neg hb]
    exact Nat.lt_of_le_of_lt (Nat.div_le_self _ _) h2
theorem Sz.mono {k l : Nat} {a : Rat} (h : Sz k a) (hl : k ≤ l) : Sz l a := ⟨Nat.lt_of_lt_of_le h.1 (Nat.pow_le_pow_right (by decide) hl), Nat.lt_of_lt_of_le h.2 (Nat.pow_le_pow_right (by decide) hl)⟩
theorem lt_pow_mul {a b k l : Nat} (h1 : a < 2 ^ k) (h2 : b < 2 ^ l) : a * b < 2 ^ (k + l) := by
  rw [Nat.pow_add]
  exact Nat.mul_lt_mul'' h1 h2
theorem Sz.d {k : Nat} {a : Rat} (h : Sz k a) : ((a.den : Int)).natAbs < 2 ^ k := by have := h.2; omega
theorem mul_abs {a b : Int} {k l : Nat} (h1 : a.natAbs < 2 ^ k) (h2 : b.natAbs < 2 ^ l) : (a * b).natAbs < 2 ^ (k + l) := by
  rw [Int.natAbs_mul]; exact lt_pow_mul h1 h2
theorem add_abs {a b : Int} {k : Nat} (h1 : a.natAbs < 2 ^ k) (h2 : b.natAbs < 2 ^ k) : (a + b).natAbs < 2 ^ (k + 1) := by
  have := Int.natAbs_add_le a b
  rw [Nat.pow_succ]; omega
theorem sub_abs {a b : Int} {k : Nat} (h1 : a.natAbs < 2 ^ k) (h2 : b.natAbs < 2 ^ k) : (a - b).natAbs < 2 ^ (k + 1) := by
  have := Int.natAbs_sub_le a b
  rw [Nat.pow_succ]; omega
theorem abs_mono {a : Int} {k l : Nat} (h : a.natAbs < 2 ^ k) (hl : k ≤ l) : a.natAbs < 2 ^ l := Nat.lt_of_lt_of_le h (Nat.pow_le_pow_right (by decide) hl)
theorem Sz.upAdd {k l : Nat} {a b : Rat} (h1 : Sz k a) (h2 : Sz l b) : (a.num * b.den + b.num * a.den).natAbs < 2 ^ (k + l + 1) := add_abs (mul_abs h1.1 h2.d) (by rw [Nat.add_comm k l]; exact mul_abs h2.1 h1.d)
theorem Sz.upSub {k l : Nat} {a b : Rat} (h1 : Sz k a) (h2 : Sz l b) : (a.num * b.den - b.num * a.den).natAbs < 2 ^ (k + l + 1) := sub_abs (mul_abs h1.1 h2.d) (by rw [Nat.add_comm k l]; exact mul_abs h2.1 h1.d)
theorem Sz.dens {k l : Nat} {a b : Rat} (h1 : Sz k a) (h2 : Sz l b) : ((a.den : Int) * b.den).natAbs < 2 ^ (k + l) := mul_abs h1.d h2.d
theorem dens_ne (a b : Rat) : (a.den : Int) * b.den ≠ 0 := by
  have h1 := den_pos a
  have h2 := den_pos b
  have := Int.mul_pos h1 h2
  omega
theorem Sz.add {k l : Nat} {a b : Rat} (h1 : Sz k a) (h2 : Sz l b) : Sz (k + l + 1) (a + b) := by
  rw [← div_add]
  exact .mk (h1.upAdd h2) (abs_mono (h1.dens h2) (by omega)) (dens_ne a b)
theorem Sz.sub {k l : Nat} {a b : Rat} (h1 : Sz k a) (h2 : Sz l b) : Sz (k + l + 1) (a - b) := by
  rw [← div_sub]
  exact .mk (h1.upSub h2) (abs_mono (h1.dens h2) (by omega)) (dens_ne a b)
theorem Sz.mul {k l : Nat} {a b : Rat} (h1 : Sz k a) (h2 : Sz l b) : Sz (k + l) (a * b) := by
  rw [← div_mul]
  exact .mk (mul_abs h1.1 h2.1) (h1.dens h2) (dens_ne a b)
theorem Sz.neg {k : Nat} {a : Rat} (h : Sz k a) : Sz k (-a) := ⟨by rw [Rat.neg_num, Int.natAbs_neg]; exact h.1, by rw [Rat.neg_den]; exact h.2⟩
theorem Sz.div {k l : Nat} {a b : Rat} (h1 : Sz k a) (h2 : Sz l b) (hb : b ≠ 0) : Sz (k + l) (a / b) := by
  rw [← div_div]
  refine .mk (mul_abs h1.1 h2.d) (mul_abs h1.d h2.1) ?_
  have h3 := den_pos a
  have h4 : b.num ≠ 0 := fun e => hb (Rat.num_eq_zero.mp e)
  exact Int.mul_ne_zero (by omega) h4
theorem Sz.int {k : Nat} {n : Int} (h : n.natAbs < 2 ^ k) (hk : 0 < k) : Sz k (n : Rat) := ⟨h, Nat.one_lt_two_pow (by omega)⟩
theorem Sz.inv {k : Nat} {a : Rat} (h : Sz k a) (ha : a ≠ 0) : Sz (1 + k) a⁻¹ := by
  have := Sz.div (k := 1) (a := 1) ⟨by decide, by decide⟩ h ha
  rwa [Rat.div_def, Rat.one_mul] at this
theorem Sz.zero : Sz 1 0 := ⟨by decide, by decide⟩
theorem Sz.one : Sz 1 1 := ⟨by decide, by decide⟩
theorem cmw {a b : Int} {k l : Nat} (h1 : a.natAbs < 2 ^ k) (h2 : b.natAbs < 2 ^ l) (h : k + l ≤ 100000) : CMulW a b := by
  have e1 : a.natAbs.log2 ≤ k := by
    by_cases h0 : a.natAbs = 0
    · rw [h0, Nat.log2_zero]; omega
    · exact Nat.le_of_lt ((Nat.log2_lt h0).mpr h1)
  have e2 : b.natAbs.log2 ≤ l := by
    by_cases h0 : b.natAbs = 0
    · rw [h0, Nat.log2_zero]; omega
    · exact Nat.le_of_lt ((Nat.log2_lt h0).mpr h2)
  show a.natAbs.log2 + b.natAbs.log2 < 1000000
  omega
/-! ### the greatest divisor by a loop -/
theorem gcd_step {a b : Int} (ha : 0 ≤ a) (hb : 0 < b) : Int.gcd b (a % b) = Int.gcd a b := by
  obtain ⟨m, rfl⟩ := Int.eq_ofNat_of_zero_le ha
  obtain ⟨n, rfl⟩ := Int.eq_ofNat_of_zero_le (show 0 ≤ b by omega)
  rw [← Int.natCast_emod, Int.gcd_natCast_natCast, Int.gcd_natCast_natCast, Nat.gcd_comm m n, Nat.gcd_rec n m, Nat.gcd_comm]
theorem gcd_loop {R S : Type} {c : Int × Int → Bool} {f : Int × Int → Out (Int × Int) R (Int × Int)} {gc gb : Int × Int → Prop} (hc : ∀ a b : Int, 0 ≤ b → c (a, b) = decide (0 < b)) (hf : ∀ a b : Int, f (a, b) = .nx (b, a % b)) (hgc : ∀ a b : Int, 0 ≤ b → gc (a, b)) (hgb : ∀ a b : Int, 0 < b → gb (a, b)) :
    ∀ (n : Nat) (a b : Int), 0 ≤ a → 0 ≤ b → b.toNat < n → whO (S := S) c f n (a, b) = .nx ((Int.gcd a b : Int), 0) ∧ whG gc c gb f n (a, b)
  | 0, a, b, _, _, h => absurd h (by omega)
  | n + 1, a, b, ha, hb, h => by
    by_cases h0 : 0 < b
    · have e : c (a, b) = true := by rw [hc a b hb]; exact decide_eq_true h0
      obtain ⟨i1, i2⟩ := gcd_loop (S := S) hc hf hgc hgb n b (a % b) hb (Int.emod_nonneg _ (by omega)) (by
        have := Int.emod_lt_of_pos a h0
        omega)
      refine ⟨?_, hgc a b hb, fun _ => ⟨hgb a b h0, ?_⟩⟩
      · rw [whO, if_pos e, hf]
        show whO c f n (b, a % b) = _
        rw [i1, gcd_step ha h0]
      · rw [hf]; exact i2
    · have e : c (a, b) = false := by rw [hc a b hb]; exact decide_eq_false h0
      have : b = 0 := by omega
      subst this
      refine ⟨?_, hgc a 0 hb, fun z => by rw [e] at z; cases z⟩
      rw [whO, e, if_neg Bool.false_ne_true]
      congr 1
      refine Prod.ext ?_ rfl
      show a = (Int.gcd a 0 : Int)
      rw [Int.gcd_zero_right]
      omega
theorem gcd_bd {a b : Int} {k : Nat} (hb : 0 < b) (h : b.natAbs < 2 ^ k) (hk : k ≤ 8000) : CDivW a (Int.gcd a b : Int) := by
  have h1 : 0 < Int.gcd a b := Int.gcd_pos_of_ne_zero_right _ (by omega)
  have h2 : Int.gcd a b ≤ b.natAbs := Int.gcd_le_natAbs_right _ (by omega)
  refine ⟨by omega, ?_⟩
  have h3 : ((Int.gcd a b : Int)).natAbs < 2 ^ k := by omega
  have := (Nat.log2_lt (show ((Int.gcd a b : Int)).natAbs ≠ 0 by omega)).mpr h3
  omega
theorem gcd_abs (a b : Int) : Int.gcd (a.natAbs : Int) b = Int.gcd a b := by
  unfold Int.gcd
  rw [Int.natAbs_natCast]
theorem Sz.ge1 {k : Nat} {a : Rat} (h : Sz k a) : 1 ≤ k := by
  have h1 := h.2
  have h2 := a.den_nz
  rcases k with _ | k
  · simp at h1; omega
  · omega
theorem Sz.num12 {a : Rat} (h : Sz 39 a) : a.num.natAbs ≤ 1000000000000 ∧ (a.den : Int) ≤ 1000000000000 := by
  have h1 := h.1
  have h2 := h.2
  have : (2 : Nat) ^ 39 = 549755813888 := by decide
  omega
/-! ### sums -/
def rsum (xs : List Rat) : Rat := xs.foldl (· + ·) 0
theorem rsum_go : ∀ (xs : List Rat) (t : Rat), xs.foldl (· + ·) t = t + rsum xs
  | [], t => by show t = t + 0; rw [Rat.add_zero]
  | x :: xs, t => by
    show xs.foldl (· + ·) (t + x) = t + xs.foldl (· + ·) (0 + x)
    rw [rsum_go xs (t + x), rsum_go xs (0 + x), Rat.zero_add, Rat.add_assoc]
theorem rsum_nil : rsum [] = 0 := rfl
theorem rsum_cons (x : Rat) (xs : List Rat) : rsum (x :: xs) = x + rsum xs := by
  show xs.foldl (· + ·) (0 + x) = _
  rw [rsum_go, Rat.zero_add]
theorem rsum_append : ∀ (xs ys : List Rat), rsum (xs ++ ys) = rsum xs + rsum ys
  | [], ys => by rw [List.nil_append, rsum_nil, Rat.zero_add]
  | x :: xs, ys => by rw [List.cons_append, rsum_cons, rsum_cons, rsum_append xs ys, Rat.add_assoc]
theorem rsum_rev : ∀ xs : List Rat, rsum xs.reverse = rsum xs
  | [] => rfl
  | x :: xs => by rw [List.reverse_cons, rsum_append, rsum_rev xs, rsum_cons, rsum_cons, rsum_nil, Rat.add_zero, Rat.add_comm]
theorem rsum_map_add {α : Type} (f g : α → Rat) : ∀ xs : List α, rsum (xs.map fun x => f x + g x) = rsum (xs.map f) + rsum (xs.map g)
  | [] => by show (0 : Rat) = 0 + 0; rw [Rat.add_zero]
  | x :: xs => by
    simp only [List.map_cons, rsum_cons, rsum_map_add f g xs]
    grind
theorem rsum_map_mul {α : Type} (f : α → Rat) (c : Rat) : ∀ xs : List α, rsum (xs.map fun x => f x * c) = rsum (xs.map f) * c
  | [] => by show (0 : Rat) = 0 * c; rw [Rat.zero_mul]
  | x :: xs => by
    simp only [List.map_cons, rsum_cons, rsum_map_mul f c xs]
    grind
theorem rsum_map_neg {α : Type} (f : α → Rat) : ∀ xs : List α, rsum (xs.map fun x => -f x) = -rsum (xs.map f)
  | [] => rfl
  | x :: xs => by
    simp only [List.map_cons, rsum_cons, rsum_map_neg f xs]
    grind
theorem rsum_congr {α : Type} {f g : α → Rat} : ∀ (xs : List α), (∀ x ∈ xs, f x = g x) → rsum (xs.map f) = rsum (xs.map g)
  | [], _ => rfl
  | x :: xs, h => by
    simp only [List.map_cons, rsum_cons, rsum_congr xs fun y hy => h y (List.mem_cons_of_mem _ hy), h x List.mem_cons_self]
theorem rsum_nonneg : ∀ (xs : List Rat), (∀ x ∈ xs, 0 ≤ x) → 0 ≤ rsum xs
  | [], _ => Rat.le_refl
  | x :: xs, h => by
    rw [rsum_cons]
    exact Rat.add_nonneg (h x List.mem_cons_self) (rsum_nonneg xs fun y hy => h y (List.mem_cons_of_mem _ hy))
theorem rsum_pos : ∀ (xs : List Rat), xs ≠ [] → (∀ x ∈ xs, 0 < x) → 0 < rsum xs
  | [], h, _ => absurd rfl h
  | x :: xs, _, h => by
    rw [rsum_cons]
    have h1 := h x List.mem_cons_self
    have h2 := rsum_nonneg xs fun y hy => Rat.le_of_lt (h y (List.mem_cons_of_mem _ hy))
    grind
theorem num_pos {a : Rat} (h : 0 < a) : 0 < a.num := by
  have := (Rat.lt_iff 0 a).mp h
  simpa using this
theorem num_nn {a : Rat} (h : 0 ≤ a) : 0 ≤ a.num := Rat.num_nonneg.mpr h
/-! ### shown -/
theorem sw_z {x : Int} (h : x.natAbs < 2 ^ 1800) : Sw 1901 0 (.int x) := by
  have h1 : x.natAbs.log2 < 1900 := Nat.lt_trans (log2_lt (k := 1799) h) (by decide)
  exact ⟨by simp only [PyData.showable, decide_eq_true_eq]; omega, by simp [PyData.hasDict], by simp [PyData.depth], by
    have e := int_text_length_le (k := 1900) (by decide) h1
    show (Str.ofString (toString x)).length ≤ 1901
    rw [PySem.ofString_length]; exact e⟩
theorem sw_qp {r : Rat} {k : Nat} (h : Sz k r) (hk : k ≤ 1800) : Sw 3809 1 (c2 cI cI (qp r)) := (sw_2 (sw_z (h.mono hk).1) (sw_z (h.mono hk).d)).mono (by decide) (by decide)
end Y
namespace Z
open Y L2 PySem.Spec PyProof.Rows
/-! ### fuel -/
def fu (l m : Rat) : Rat := l * l * l / (m * m)
def ga (l m : Int) : Rat := fu l m - fu l ((m + 1 : Int) : Rat)
theorem rdiv_pos {a b : Rat} (ha : 0 < a) (hb : 0 < b) : 0 < a / b := by
  rw [Rat.div_def]; exact Rat.mul_pos ha (Rat.inv_pos.mpr hb)
theorem rdiv_nn {a b : Rat} (ha : 0 ≤ a) (hb : 0 < b) : 0 ≤ a / b := by
  rw [Rat.div_def]; exact Rat.mul_nonneg ha (Rat.le_of_lt (Rat.inv_pos.mpr hb))
theorem ipos {x : Int} (h : 1 ≤ x) : (0 : Rat) < (x : Rat) := Rat.intCast_pos.mpr (by omega)
theorem ga_dec {l m : Int} (hl : 1 ≤ l) (hm : 1 ≤ m) : ga l (m + 1) < ga l m := by
  have p1 := ipos hl
  have p2 := ipos hm
  have p3 : (0 : Rat) < (m : Rat) + 1 := by grind
  have p4 : (0 : Rat) < (m : Rat) + 2 := by grind
  have e : ga l m - ga l (m + 1) = (l : Rat) * l * l * ((6 * ((m : Rat) * m) + 12 * m + 4) / ((m : Rat) * m * ((m + 1) * (m + 1)) * ((m + 2) * (m + 2)))) := by
    unfold ga fu
    rw [Rat.intCast_add, Rat.intCast_add, Rat.intCast_add]
    have e1 : ((1 : Int) : Rat) = 1 := rfl
    rw [e1]
    have n1 : (m : Rat) ≠ 0 := Rat.ne_of_gt p2
    have n2 : (m : Rat) + 1 ≠ 0 := Rat.ne_of_gt p3
    have n3 : (m : Rat) + 1 + 1 ≠ 0 := by grind
    have n4 : (m : Rat) + 2 ≠ 0 := Rat.ne_of_gt p4
    grind
  have h1 : (0 : Rat) < 6 * ((m : Rat) * m) + 12 * m + 4 := by
    have := Rat.mul_pos p2 p2
    grind
  have h2 : (0 : Rat) < (m : Rat) * m * ((m + 1) * (m + 1)) * ((m + 2) * (m + 2)) := Rat.mul_pos (Rat.mul_pos (Rat.mul_pos p2 p2) (Rat.mul_pos p3 p3)) (Rat.mul_pos p4 p4)
  have h3 := Rat.mul_pos (Rat.mul_pos (Rat.mul_pos p1 p1) p1) (rdiv_pos h1 h2)
  rw [← e] at h3
  grind
theorem fu_mul (l m c : Rat) : fu (l * c) m = fu l m * (c * c * c) := by
  unfold fu
  rw [Rat.div_def, Rat.div_def]
  grind
theorem ga_mul (l m c : Int) : ga (l * c) m = ga l m * ((c : Rat) * c * c) := by
  unfold ga
  rw [Rat.intCast_mul, fu_mul, fu_mul]
  grind
/-! ### the first of the greatest -/
def am (g : Nat → Rat) : Nat → Nat
  | 0 => 0
  | k + 1 => if g (am g k) < g k then k else am g k
theorem am_spec (g : Nat → Rat) : ∀ k, (k = 0 ∨ am g k < k) ∧ (∀ j, j < k → g j ≤ g (am g k)) ∧ ∀ j, j < am g k → g j < g (am g k)
  | 0 => ⟨.inl rfl, fun j h => absurd h (by omega), fun j h => absurd h (by show ¬ j < 0; omega)⟩
  | k + 1 => by
    obtain ⟨h1, h2, h3⟩ := am_spec g k
    show (_ ∨ (if g (am g k) < g k then k else am g k) < k + 1) ∧ (∀ j, j < k + 1 → g j ≤ g (if g (am g k) < g k then k else am g k)) ∧ ∀ j, j < (if g (am g k) < g k then k else am g k) → g j < g (if g (am g k) < g k then k else am g k)
    by_cases c : g (am g k) < g k
    · rw [if_pos c]
      have lt : ∀ j, j < k → g j < g k := fun j hj => by have := h2 j hj; grind
      refine ⟨.inr (by omega), fun j hj => ?_, lt⟩
      by_cases e : j = k
      · rw [e]; exact Rat.le_refl
      · exact Rat.le_of_lt (lt j (by omega))
    · rw [if_neg c]
      have h4 : am g k < k + 1 := by
        rcases h1 with e | e
        · subst e; show 0 < 1; omega
        · omega
      refine ⟨.inr h4, fun j hj => ?_, h3⟩
      by_cases e : j = k
      · rw [e]; exact Rat.not_lt.mp c
      · exact h2 j (by omega)
theorem am_congr {g g' : Nat → Rat} (h : ∀ i j, (g i < g j ↔ g' i < g' j)) : ∀ k, am g k = am g' k
  | 0 => rfl
  | k + 1 => by
    show (if g (am g k) < g k then k else am g k) = (if g' (am g' k) < g' k then k else am g' k)
    rw [am_congr h k]
    by_cases c : g (am g' k) < g k
    · rw [if_pos c, if_pos ((h _ _).mp c)]
    · rw [if_neg c, if_neg fun q => c ((h _ _).mpr q)]
theorem am_ext {g g' : Nat → Rat} : ∀ k, (∀ i, i < k → g i = g' i) → am g k = am g' k
  | 0, _ => rfl
  | k + 1, h => by
    have ih := am_ext k fun i hi => h i (by omega)
    show (if g (am g k) < g k then k else am g k) = (if g' (am g' k) < g' k then k else am g' k)
    rw [ih]
    rcases (am_spec g' k).1 with h0 | h0
    · subst h0
      show (if g 0 < g 0 then 0 else 0) = (if g' 0 < g' 0 then 0 else 0)
      rw [ite_self, ite_self]
    · rw [h _ (by omega), h k (by omega)]
/-! ### minutes one by one -/
theorem ixD_set {ms : List Int} {b k : Nat} {v : Int} (hb : b < ms.length) : ixD (ms.set b v) (k : Int) = if k = b then v else ixD ms (k : Int) := by
  by_cases e : k = b
  · rw [if_pos e, e]
    exact ixD_of (by rw [List.getElem?_set_self hb])
  · rw [if_neg e]
    cases q : ms[k]? with
    | some y =>
      rw [ixD_of q]
      exact ixD_of (by rw [List.getElem?_set_ne (fun z => e z.symm)]; exact q)
    | none =>
      have hk : ms.length ≤ k := List.getElem?_eq_none_iff.mp q
      have nx : ∀ xs : List Int, xs.length ≤ k → ixD xs (k : Int) = default := fun xs h => by
        unfold ixD atI ixN
        rw [if_pos (by omega), if_neg (by omega)]
        rfl
      rw [nx _ hk, nx _ (by rw [List.length_set]; exact hk)]
def gf (ls ms : List Int) (k : Nat) : Rat := ga (ixD ls (k : Int)) (ixD ms (k : Int))
def stp (ls ms : List Int) : List Int := ms.set (am (gf ls ms) ls.length) (ixD ms (am (gf ls ms) ls.length : Nat) + 1)
def gre (ls : List Int) : Nat → List Int
  | 0 => List.replicate ls.length 1
  | k + 1 => stp ls (gre ls k)
structure Iv (ls ms : List Int) : Prop where
  len : ms.length = ls.length
  one : ∀ k, k < ls.length → 1 ≤ ixD ms (k : Int)
  opt : ∀ i j, i < ls.length → j < ls.length → 1 < ixD ms (i : Int) → ga (ixD ls (j : Int)) (ixD ms (j : Int)) ≤ ga (ixD ls (i : Int)) (ixD ms (i : Int) - 1)
  eq : ∀ i j, i < j → j < ls.length → ixD ls (i : Int) = ixD ls (j : Int) → 0 ≤ ixD ms (i : Int) - ixD ms (j : Int) ∧ ixD ms (i : Int) - ixD ms (j : Int) ≤ 1
theorem am_lt {ls ms : List Int} (h0 : 1 ≤ ls.length) : am (gf ls ms) ls.length < ls.length := by
  rcases (am_spec (gf ls ms) ls.length).1 with h | h <;> omega
theorem Iv.step {ls ms : List Int} (h0 : 1 ≤ ls.length) (hl : ∀ k, k < ls.length → 1 ≤ ixD ls (k : Int)) (v : Iv ls ms) : Iv ls (stp ls ms) := by
  have hb := am_lt (ms := ms) h0
  obtain ⟨_, s2, s3⟩ := am_spec (gf ls ms) ls.length
  unfold stp
  generalize am (gf ls ms) ls.length = b at hb s2 s3
  have hb' : b < ms.length := by rw [v.len]; exact hb
  refine ⟨by rw [List.length_set]; exact v.len, fun k hk => ?_, fun i j hi hj h1 => ?_, fun i j hij hj e => ?_⟩
  · rw [ixD_set hb']
    have h1 := v.one k hk
    have h2 := v.one b hb
    split <;> omega
  · rw [ixD_set hb'] at h1 ⊢
    rw [ixD_set hb']
    have gj : ga (ixD ls (j : Int)) (if j = b then ixD ms (b : Int) + 1 else ixD ms (j : Int)) ≤ ga (ixD ls (j : Int)) (ixD ms (j : Int)) := by
      by_cases e : j = b
      · subst e
        rw [if_pos rfl]
        exact Rat.le_of_lt (ga_dec (hl j hj) (v.one j hj))
      · rw [if_neg e]; exact Rat.le_refl
    refine Rat.le_trans gj ?_
    by_cases e : i = b
    · subst e
      rw [if_pos rfl, Int.add_sub_cancel]
      exact s2 j hj
    · rw [if_neg e] at h1 ⊢
      exact v.opt i j hi hj h1
  · rw [ixD_set hb', ixD_set hb']
    have h1 := v.eq i j hij hj e
    by_cases e1 : i = b
    · subst e1
      rw [if_pos rfl, if_neg (by omega)]
      have h2 := s2 j hj
      have : ¬ ixD ms (i : Int) - ixD ms (j : Int) = 1 := fun q => by
        have e2 : ixD ms (i : Int) = ixD ms (j : Int) + 1 := by omega
        unfold gf at h2
        rw [e, e2] at h2
        have := ga_dec (hl j hj) (v.one j hj)
        grind
      omega
    · rw [if_neg e1]
      by_cases e2 : j = b
      · subst e2
        rw [if_pos rfl]
        have h2 := s3 i hij
        have : ¬ ixD ms (i : Int) = ixD ms (j : Int) := fun q => by
          unfold gf at h2
          rw [e, q] at h2
          exact Rat.lt_irrefl h2
        omega
      · rw [if_neg e2]; exact h1
theorem ixD_rep {n : Nat} {v : Int} {k : Nat} (hk : k < n) : ixD (List.replicate n v) (k : Int) = v := ixD_of (by rw [List.getElem?_replicate, if_pos hk])
theorem Iv.zero {ls : List Int} : Iv ls (List.replicate ls.length 1) :=
  ⟨List.length_replicate, fun k hk => by rw [ixD_rep hk]; decide, fun i j hi hj h1 => by rw [ixD_rep hi] at h1; exact absurd h1 (by decide), fun i j hij hj _ => by rw [ixD_rep (by omega), ixD_rep hj]; decide⟩
theorem gre_iv {ls : List Int} (h0 : 1 ≤ ls.length) (hl : ∀ k, k < ls.length → 1 ≤ ixD ls (k : Int)) : ∀ n, Iv ls (gre ls n)
  | 0 => Iv.zero
  | n + 1 => (gre_iv h0 hl n).step h0 hl
theorem gre_bd {ls : List Int} (h0 : 1 ≤ ls.length) (hl : ∀ k, k < ls.length → 1 ≤ ixD ls (k : Int)) : ∀ n k, k < ls.length → ixD (gre ls n) (k : Int) ≤ 1 + n
  | 0, k, hk => by
    show ixD (List.replicate ls.length 1) (k : Int) ≤ _
    rw [ixD_rep hk]; omega
  | n + 1, k, hk => by
    have hb := am_lt (ms := gre ls n) h0
    have h1 := gre_bd h0 hl n k hk
    have h2 := gre_bd h0 hl n _ hb
    show ixD ((gre ls n).set _ _) (k : Int) ≤ _
    rw [ixD_set (by rw [(gre_iv h0 hl n).len]; exact hb)]
    split <;> omega
theorem sum_set : ∀ (ms : List Int) (b : Nat) (v : Int), b < ms.length → (ms.set b v).sum = ms.sum + v - ixD ms (b : Int)
  | [], b, v, h => absurd h (by simp)
  | x :: ms, 0, v, _ => by
    have e : ixD (x :: ms) ((0 : Nat) : Int) = x := ixD_of rfl
    rw [e, List.set_cons_zero, List.sum_cons, List.sum_cons]
    omega
  | x :: ms, b + 1, v, h => by
    have hb : b < ms.length := by simpa using h
    have e : ixD (x :: ms) ((b + 1 : Nat) : Int) = ixD ms (b : Int) := by
      rw [ixD_of (List.getElem?_eq_getElem hb)]
      exact ixD_of (by rw [List.getElem?_cons_succ, List.getElem?_eq_getElem hb])
    rw [e, List.set_cons_succ, List.sum_cons, List.sum_cons, sum_set ms b v hb]
    omega
theorem gre_sum {ls : List Int} (h0 : 1 ≤ ls.length) (hl : ∀ k, k < ls.length → 1 ≤ ixD ls (k : Int)) : ∀ n : Nat, (gre ls n).sum = (ls.length : Int) + n
  | 0 => by
    show (List.replicate ls.length (1 : Int)).sum = _
    have : ∀ k : Nat, (List.replicate k (1 : Int)).sum = k := fun k => by
      induction k with
      | zero => rfl
      | succ k ih => rw [List.replicate_succ, List.sum_cons, ih]; omega
    rw [this]; omega
  | n + 1 => by
    have hb := am_lt (ms := gre ls n) h0
    show ((gre ls n).set _ _).sum = _
    rw [sum_set _ _ _ (by rw [(gre_iv h0 hl n).len]; exact hb), gre_sum h0 hl n]
    omega
/-- all lengths times a number -/
theorem gre_mul {ls : List Int} {c : Int} (hc : 0 < c) : ∀ n, gre (ls.map (· * c)) n = gre ls n
  | 0 => by show List.replicate (ls.map (· * c)).length 1 = _; rw [List.length_map]; rfl
  | n + 1 => by
    have hc' : (0 : Rat) < (c : Rat) * c * c := by
      have p := ipos (x := c) (by omega)
      exact Rat.mul_pos (Rat.mul_pos p p) p
    show stp (ls.map (· * c)) (gre (ls.map (· * c)) n) = stp ls (gre ls n)
    rw [gre_mul hc n]
    have e : am (gf (ls.map (· * c)) (gre ls n)) ls.length = am (gf ls (gre ls n)) ls.length := by
      have e1 : am (gf (ls.map (· * c)) (gre ls n)) ls.length = am (fun k => gf ls (gre ls n) k * ((c : Rat) * c * c)) ls.length := am_ext _ fun i hi => by
        have ei : ixD (ls.map (· * c)) (i : Int) = ixD ls (i : Int) * c := by
          rw [ixD_of (List.getElem?_eq_getElem hi)]
          exact ixD_of (by rw [List.getElem?_map, List.getElem?_eq_getElem hi]; rfl)
        unfold gf
        rw [ei, ga_mul]
      rw [e1]
      exact am_congr (fun i j => Rat.mul_lt_mul_right hc') _
    unfold stp
    rw [List.length_map, e]
end Z
namespace Z
open PySem PySem.W Y L2 PySem.Spec PyProof.Rows
/-! ### one speed needs least -/
abbrev LM := Int × Int
def fs (l : List LM) : Rat := rsum (l.map fun x => fu x.1 x.2)
def sL (l : List LM) : Rat := rsum (l.map fun x => (x.1 : Rat))
def sM (l : List LM) : Rat := rsum (l.map fun x => (x.2 : Rat))
def Pos (l : List LM) : Prop := ∀ x ∈ l, 1 ≤ x.1 ∧ 1 ≤ x.2
def tn (s : Rat) (x : LM) : Rat := fu x.1 x.2 - 3 * (s * s) * x.1 + 2 * (s * s * s) * x.2
theorem tn_eq {s : Rat} {x : LM} (h : 1 ≤ x.2) : tn s x = (x.2 : Rat) * (((x.1 : Rat) / x.2 - s) * ((x.1 : Rat) / x.2 - s)) * ((x.1 : Rat) / x.2 + 2 * s) := by
  have n1 : (x.2 : Rat) ≠ 0 := Rat.ne_of_gt (ipos h)
  unfold tn fu
  grind
theorem rsum_tn (s : Rat) : ∀ l : List LM, rsum (l.map (tn s)) = fs l - 3 * (s * s) * sL l + 2 * (s * s * s) * sM l
  | [] => by
    show (0 : Rat) = 0 - 3 * (s * s) * 0 + 2 * (s * s * s) * 0
    grind
  | x :: l => by
    have ih := rsum_tn s l
    unfold fs sL sM at ih ⊢
    simp only [List.map_cons, rsum_cons]
    rw [ih]
    unfold tn
    grind
theorem sM_pos {l : List LM} (h0 : l ≠ []) (h : Pos l) : 0 < sM l := rsum_pos _ (fun e => h0 (List.map_eq_nil_iff.mp e)) fun y hy => by
  obtain ⟨x, hx, rfl⟩ := List.mem_map.mp hy
  exact ipos (h x hx).2
theorem sL_pos {l : List LM} (h0 : l ≠ []) (h : Pos l) : 0 < sL l := rsum_pos _ (fun e => h0 (List.map_eq_nil_iff.mp e)) fun y hy => by
  obtain ⟨x, hx, rfl⟩ := List.mem_map.mp hy
  exact ipos (h x hx).1
def ws (l : List LM) : Rat := fs l - fu (sL l) (sM l)
theorem ws_eq {l : List LM} (h0 : l ≠ []) (h : Pos l) : ws l = rsum (l.map (tn (sL l / sM l))) := by
  rw [rsum_tn]
  have n : sM l ≠ 0 := Rat.ne_of_gt (sM_pos h0 h)
  unfold ws fu
  grind
theorem tn_nn {s : Rat} {x : LM} (hs : 0 < s) (h1 : 1 ≤ x.1) (h2 : 1 ≤ x.2) : 0 ≤ tn s x := by
  rw [tn_eq h2]
  have p1 := rdiv_pos (ipos h1) (ipos h2)
  have sq : ∀ y : Rat, 0 ≤ y * y := fun y => by
    by_cases c : 0 ≤ y
    · exact Rat.mul_nonneg c c
    · have : 0 ≤ (-y) * (-y) := Rat.mul_nonneg (by grind) (by grind)
      grind
  exact Rat.mul_nonneg (Rat.mul_nonneg (Rat.le_of_lt (ipos h2)) (sq _)) (by grind)
theorem tn_zero {s : Rat} {x : LM} (hs : 0 < s) (h1 : 1 ≤ x.1) (h2 : 1 ≤ x.2) : tn s x = 0 ↔ (x.1 : Rat) / x.2 = s := by
  rw [tn_eq h2]
  have p1 := rdiv_pos (ipos h1) (ipos h2)
  have p2 := ipos h2
  constructor
  · intro e
    have n2 : (x.1 : Rat) / x.2 + 2 * s ≠ 0 := by grind
    have n3 : (x.2 : Rat) ≠ 0 := Rat.ne_of_gt p2
    rcases Rat.mul_eq_zero.mp e with e | e
    · rcases Rat.mul_eq_zero.mp e with e | e
      · exact absurd e n3
      · rcases Rat.mul_eq_zero.mp e with e | e <;> grind
    · exact absurd e n2
  · intro e
    rw [e]
    grind
theorem rsum_zero : ∀ xs : List Rat, (∀ x ∈ xs, 0 ≤ x) → (rsum xs = 0 ↔ ∀ x ∈ xs, x = 0)
  | [], _ => ⟨fun _ x hx => (nomatch hx), fun _ => rfl⟩
  | x :: xs, h => by
    have ih := rsum_zero xs fun y hy => h y (List.mem_cons_of_mem _ hy)
    have h1 := h x List.mem_cons_self
    have h2 := rsum_nonneg xs fun y hy => h y (List.mem_cons_of_mem _ hy)
    rw [rsum_cons]
    constructor
    · intro e
      have e1 : x = 0 := by grind
      have e2 : rsum xs = 0 := by grind
      intro y hy
      rcases List.mem_cons.mp hy with rfl | hy
      · exact e1
      · exact ih.mp e2 y hy
    · intro e
      rw [e x List.mem_cons_self, ih.mpr fun y hy => e y (List.mem_cons_of_mem _ hy)]
      exact Rat.add_zero 0
theorem ws_nn {l : List LM} (h0 : l ≠ []) (h : Pos l) : 0 ≤ ws l := by
  rw [ws_eq h0 h]
  refine rsum_nonneg _ fun y hy => ?_
  obtain ⟨x, hx, rfl⟩ := List.mem_map.mp hy
  exact tn_nn (rdiv_pos (sL_pos h0 h) (sM_pos h0 h)) (h x hx).1 (h x hx).2
theorem ws_zero {l : List LM} (h0 : l ≠ []) (h : Pos l) : ws l = 0 ↔ ∀ x ∈ l, (x.1 : Rat) / x.2 = sL l / sM l := by
  rw [ws_eq h0 h, rsum_zero]
  · constructor
    · intro e x hx
      exact (tn_zero (rdiv_pos (sL_pos h0 h) (sM_pos h0 h)) (h x hx).1 (h x hx).2).mp (e _ (List.mem_map_of_mem hx))
    · intro e y hy
      obtain ⟨x, hx, rfl⟩ := List.mem_map.mp hy
      exact (tn_zero (rdiv_pos (sL_pos h0 h) (sM_pos h0 h)) (h x hx).1 (h x hx).2).mpr (e x hx)
  · intro y hy
    obtain ⟨x, hx, rfl⟩ := List.mem_map.mp hy
    exact tn_nn (rdiv_pos (sL_pos h0 h) (sM_pos h0 h)) (h x hx).1 (h x hx).2
theorem one_speed {v : Rat} : ∀ l : List LM, Pos l → (∀ x ∈ l, (x.1 : Rat) / x.2 = v) → sL l = v * sM l
  | [], _, _ => by show (0 : Rat) = v * 0; grind
  | x :: l, h, e => by
    have ih := one_speed l (fun y hy => h y (List.mem_cons_of_mem _ hy)) fun y hy => e y (List.mem_cons_of_mem _ hy)
    have e1 := e x List.mem_cons_self
    have n : (x.2 : Rat) ≠ 0 := Rat.ne_of_gt (ipos (h x List.mem_cons_self).2)
    unfold sL sM at ih ⊢
    simp only [List.map_cons, rsum_cons]
    rw [ih]
    grind
/-- all have the first's speed just if nothing is wasted -/
theorem ws_even {x0 : LM} {l : List LM} (h : Pos (x0 :: l)) : ws (x0 :: l) = 0 ↔ ∀ x ∈ x0 :: l, (x.1 : Rat) / x.2 = (x0.1 : Rat) / x0.2 := by
  rw [ws_zero (by simp) h]
  have n : sM (x0 :: l) ≠ 0 := Rat.ne_of_gt (sM_pos (by simp) h)
  constructor
  · intro e x hx
    rw [e x hx, e x0 List.mem_cons_self]
  · intro e x hx
    have := one_speed _ h e
    rw [e x hx, this]
    grind
/-! ### sums with few changes -/
theorem rsum_one {g g' : Nat → Rat} {i : Nat} (h : ∀ k, k ≠ i → g' k = g k) : ∀ n, i < n → rsum ((List.range n).map g') = rsum ((List.range n).map g) + (g' i - g i)
  | 0, hi => absurd hi (by omega)
  | n + 1, hi => by
    rw [List.range_succ, List.map_append, List.map_append, rsum_append, rsum_append, List.map_singleton, List.map_singleton, rsum_cons, rsum_cons, rsum_nil]
    by_cases e : i = n
    · subst e
      have : (List.range i).map g' = (List.range i).map g := List.map_congr_left fun k hk => h k (by rw [List.mem_range] at hk; omega)
      rw [this]
      grind
    · rw [rsum_one h n (by omega), h n (fun q => e q.symm)]
      grind
theorem rsum_two {g g' : Nat → Rat} {i j n : Nat} (hij : i ≠ j) (hi : i < n) (hj : j < n) (h : ∀ k, k ≠ i → k ≠ j → g' k = g k) : rsum ((List.range n).map g') = rsum ((List.range n).map g) + (g' i - g i) + (g' j - g j) := by
  have h1 := rsum_one (g := g) (g' := fun k => if k = i then g' i else g k) (i := i) (fun k hk => if_neg hk) n hi
  have h2 := rsum_one (g := fun k => if k = i then g' i else g k) (g' := g') (i := j) (fun k hk => by
    by_cases e : k = i
    · subst e; rw [if_pos rfl]
    · rw [if_neg e]; exact h k e hk) n hj
  rw [h2, h1, if_pos rfl, if_neg (fun q => hij q.symm)]
/-! ### sorted lists -/
theorem srt_i (xs : List Int) : (srt cI xs).Pairwise fun p q => p ≤ q := by
  have h := List.pairwise_mergeSort (le := dataLe false cI) (fun a b c h1 h2 => by
    rw [le_I] at h1 h2 ⊢
    simp only [decide_eq_true_eq] at h1 h2 ⊢
    omega) (fun a b => by
    rw [le_I]
    simp only [Bool.or_eq_true, decide_eq_true_eq]
    omega) xs
  refine h.imp fun {a b} q => ?_
  rw [le_I] at q
  simpa using q
theorem perm_set : ∀ (n b : Nat), b < n → ((List.replicate n (0 : Int)).set b 1).Perm (List.replicate (n - 1) 0 ++ [1])
  | 0, b, h => absurd h (by omega)
  | n + 1, 0, _ => by
    rw [List.replicate_succ, List.set_cons_zero]
    exact List.perm_append_comm (l₁ := [1])
  | n + 1, b + 1, h => by
    rw [List.replicate_succ, List.set_cons_succ]
    have e : n + 1 - 1 = (n - 1) + 1 := by omega
    rw [e, List.replicate_succ, List.cons_append]
    exact (perm_set n b (by omega)).cons 0
theorem srt_set {n b : Nat} (h : b < n) : srt cI ((List.replicate n (0 : Int)).set b 1) = List.replicate (n - 1) 0 ++ [1] := by
  refine List.Perm.eq_of_pairwise (le := fun p q => p ≤ q) (fun a b _ _ h1 h2 => Int.le_antisymm h1 h2) (srt_i _) ?_ ((List.mergeSort_perm _ _).trans (perm_set n b h))
  rw [List.pairwise_append]
  refine ⟨List.pairwise_replicate.mpr (.inr (Int.le_refl _)), by simp, fun a ha c hc => ?_⟩
  rw [List.eq_of_mem_replicate ha, List.mem_singleton.mp hc]
  decide
/-! ### rows that differ by one at most -/
theorem two_kinds (q : Int) : ∀ xs : List Int, (∀ x ∈ xs, x = q ∨ x = q + 1) → xs.Pairwise (fun a b => b ≤ a) → ∃ a, a ≤ xs.length ∧ xs = List.replicate a (q + 1) ++ List.replicate (xs.length - a) q
  | [], _, _ => ⟨0, Nat.le_refl _, rfl⟩
  | x :: xs, h, p => by
    obtain ⟨p1, p2⟩ := List.pairwise_cons.mp p
    obtain ⟨a, ha, e⟩ := two_kinds q xs (fun y hy => h y (List.mem_cons_of_mem _ hy)) p2
    rcases h x List.mem_cons_self with hx | hx
    · have e2 : xs = List.replicate xs.length q := List.eq_replicate_iff.mpr ⟨rfl, fun y hy => by
        have := p1 y hy
        rcases h y (List.mem_cons_of_mem _ hy) with z | z <;> omega⟩
      refine ⟨0, Nat.zero_le _, ?_⟩
      rw [List.replicate_zero, List.nil_append, Nat.sub_zero, List.length_cons, List.replicate_succ, hx, ← e2]
    · refine ⟨a + 1, by rw [List.length_cons]; omega, ?_⟩
      rw [List.length_cons, List.replicate_succ, Nat.add_sub_add_right, List.cons_append, ← e, hx]
theorem sum_rep (k : Nat) (v : Int) : (List.replicate k v).sum = k * v := by
  induction k with
  | zero => simp
  | succ k ih =>
    rw [List.replicate_succ, List.sum_cons, ih]
    have : ((k + 1 : Nat) : Int) * v = (k : Int) * v + v := by rw [Int.natCast_add]; grind
    omega
theorem even_row {xs : List Int} (h0 : 1 ≤ xs.length) (h : ∀ i j, i < j → j < xs.length → 0 ≤ ixD xs (i : Int) - ixD xs (j : Int) ∧ ixD xs (i : Int) - ixD xs (j : Int) ≤ 1) :
    xs = List.replicate (xs.sum % (xs.length : Int)).toNat (xs.sum / (xs.length : Int) + 1) ++ List.replicate ((xs.length : Int) - xs.sum % (xs.length : Int)).toNat (xs.sum / (xs.length : Int)) := by
  have ix : ∀ (i : Nat) (hi : i < xs.length), ixD xs (i : Int) = xs[i] := fun i hi => ixD_of (List.getElem?_eq_getElem hi)
  have pw : xs.Pairwise (fun a b => b ≤ a) := List.pairwise_iff_getElem.mpr fun i j hi hj hij => by
    have := h i j hij hj
    rw [ix i hi, ix j hj] at this
    omega
  have hz : xs.length - 1 < xs.length := by omega
  obtain ⟨a, ha, e⟩ := two_kinds xs[xs.length - 1] xs (fun x hx => by
    obtain ⟨i, hi, rfl⟩ := List.mem_iff_getElem.mp hx
    by_cases c : i = xs.length - 1
    · left; simp only [c]
    · have := h i (xs.length - 1) (by omega) hz
      rw [ix i hi, ix _ hz] at this
      omega) pw
  generalize hq : xs[xs.length - 1] = q at e
  have hlt : a < xs.length := by
    rcases Nat.lt_or_ge a xs.length with z | z
    · exact z
    · exfalso
      have ea : a = xs.length := by omega
      rw [ea, Nat.sub_self, List.replicate_zero, List.append_nil] at e
      have : xs[xs.length - 1] = q + 1 := List.eq_of_mem_replicate (n := xs.length) (by rw [← e]; exact List.getElem_mem hz)
      omega
  have es : xs.sum = (xs.length : Int) * q + a := by
    have : xs.sum = (a : Int) * (q + 1) + ((xs.length - a : Nat) : Int) * q := by
      conv => lhs; rw [e]
      rw [List.sum_append, sum_rep, sum_rep]
    rw [this, Int.natCast_sub ha, Int.sub_mul, Int.mul_add]
    omega
  have hn : (0 : Int) < (xs.length : Int) := by omega
  have e1 : xs.sum / (xs.length : Int) = q := by
    rw [es, Int.add_comm, Int.add_mul_ediv_left _ _ (by omega), Int.ediv_eq_zero_of_lt (by omega) (by omega), Int.zero_add]
  have e2 : xs.sum % (xs.length : Int) = a := by
    rw [es, Int.add_comm, Int.add_mul_emod_self_left, Int.emod_eq_of_lt (by omega) (by omega)]
  rw [e1, e2, Int.toNat_natCast]
  have e3 : ((xs.length : Int) - (a : Int)).toNat = xs.length - a := by omega
  rw [e3]
  exact e
end Z
namespace Z
open PySem PySem.Spec PyProof.Rows L2 Y

theorem draw_ok {t : St4} {m : Int} (h : Wf t) (h0 : 0 < m) (h1 : m < 2 ^ 63) : g__law_draw ((m, ()), t) ∧ 0 ≤ (m__law_draw ((m, ()), t)).1 ∧ (m__law_draw ((m, ()), t)).1 < m ∧ Wf (m__law_draw ((m, ()), t)).2 := by
  obtain ⟨xs, a, i, z⟩ := t
  obtain ⟨w1, w2, w3, w4, w5, w6⟩ := h
  simp only at w1 w2 w3 w4 w5 w6
  have dm : ∀ x : Int, CDivW x m := fun x => ⟨h0, Nat.lt_trans (log2_lt (k := 62) (by omega)) (by decide)⟩
  have d13 : ∀ x : Int, CDivW x 13 := fun x => ⟨by decide, by decide⟩
  have em : ∀ x : Int, 0 ≤ x % m ∧ x % m < m := fun x => ⟨Int.emod_nonneg _ (by omega), Int.emod_lt_of_pos _ h0⟩
  have ed : ∀ x : Int, 0 ≤ x → 0 ≤ x / m := fun x hx => Int.ediv_nonneg hx (by omega)
  have cm : CMul z 48271 := .inr ⟨by decide, by decide⟩
  unfold g__law_draw m__law_draw o__law_draw
  simp only [true_and, and_true, implies_true, dm, d13, cm, h0]
  by_cases c0 : a = 0
  · by_cases c1 : (xs.length : Int) ≤ i
    · have hc : (decide (a = 0) && decide ((xs.length : Int) ≤ i)) = true := by simp [c0, c1]
      have hz : 0 ≤ (z * 48271 + 69621) % 2147483629 ∧ (z * 48271 + 69621) % 2147483629 ≤ 2147483629 := by omega
      rw [hc]
      simp only [true_implies, Bool.true_eq_false, false_implies, and_true, if_true, ret_rt]
      exact ⟨by decide, (em _).1, (em _).2, w1, w2, w3, w4, hz⟩
    · have hc : (decide (a = 0) && decide ((xs.length : Int) ≤ i)) = false := by simp [c1]
      have hi : CIx xs i := cix_of w3 (by omega)
      have hk : decide (a = 0) = true := by simp [c0]
      have hi2 : 0 ≤ i + 1 ∧ i + 1 ≤ (xs.length : Int) := by omega
      rw [hc]
      simp only [hk, hi, true_implies, Bool.false_eq_true, Bool.true_eq_false, false_implies, and_true, true_and, if_true, if_false, ret_rt]
      exact ⟨(em _).1, (em _).2, w1, ed _ (by omega), hi2.1, hi2.2, w5, w6⟩
  · have hc : (decide (a = 0) && decide ((xs.length : Int) ≤ i)) = false := by simp [c0]
    have hk : decide (a = 0) = false := by simp [c0]
    rw [hc]
    simp only [hk, true_implies, Bool.false_eq_true, Bool.true_eq_false, false_implies, and_true, true_and, if_false, ret_rt]
    exact ⟨(em _).1, (em _).2, w1, ed _ w2, w3, w4, w5, w6⟩

theorem law_pick_LI_ok {t : St4} {xs : List Int} (h : Wf t) (h0 : xs ≠ []) (h1 : xs.length < 1000) : g__law_pick_LI ((xs, ()), t) ∧ (m__law_pick_LI ((xs, ()), t)).1 ∈ xs ∧ Wf (m__law_pick_LI ((xs, ()), t)).2 := by
  have hl : 0 < xs.length := List.length_pos_iff.mpr h0
  obtain ⟨d1, d2, d3, d4⟩ := draw_ok (m := (xs.length : Int)) h (by omega) (by omega)
  unfold g__law_pick_LI m__law_pick_LI o__law_pick_LI
  simp only [true_and, and_true, ret_rt]
  exact ⟨⟨d1, cix_of d2 d3⟩, ixD_mem d2 d3, d4⟩

theorem law_same_Q_ok {x y : Int × Int} (h : x = y) (hs : Shw ((c2 cI cI) x)) : g__law_same_Q (x, y, ()) ∧ m__law_same_Q (x, y, ()) = true := by
  subst h
  unfold g__law_same_Q m__law_same_Q o__law_same_Q
  simp only [eqv_T (cq_2 cq_I cq_I), decide_true, Bool.and_self, ret_rt, hs, true_and, and_true, implies_true]

theorem law_same_TI_ok {x y : List Int} (h : x = y) (hs : Shw ((cT cI) x)) : g__law_same_TI (x, y, ()) ∧ m__law_same_TI (x, y, ()) = true := by
  subst h
  unfold g__law_same_TI m__law_same_TI o__law_same_TI
  simp only [eqv_T (cq_T cq_I), decide_true, Bool.and_self, ret_rt, hs, true_and, and_true, implies_true]

theorem law_same_LQ_ok {x y : List (Int × Int)} (h : x = y) (hs : Shw ((cL (c2 cI cI)) x)) : g__law_same_LQ (x, y, ()) ∧ m__law_same_LQ (x, y, ()) = true := by
  subst h
  unfold g__law_same_LQ m__law_same_LQ o__law_same_LQ
  simp only [eqv_T (cq_L (cq_2 cq_I cq_I)), decide_true, Bool.and_self, ret_rt, hs, true_and, and_true, implies_true]

theorem m_isint (x : Int) : m_is_integer (x, ()) = true := rfl
theorem g_isint (x : Int) : g_is_integer (x, ()) := by unfold g_is_integer; simp

theorem gd_ok {a b : Int} (ha : 0 ≤ a) (hb : 0 ≤ b) : g_greatest_divisor (a, b, ()) ∧ m_greatest_divisor (a, b, ()) = (Int.gcd a b : Int) := by
  obtain ⟨h1, h2⟩ := gcd_loop (S := Empty) (c := kt1_greatest_divisor) (f := k1_greatest_divisor) (gc := ktg1_greatest_divisor) (gb := kg1_greatest_divisor) (fun a b _ => rfl) (fun a b => rfl) (fun a b _ => ⟨trivial, trivial, trivial⟩) (fun a b h => by unfold kg1_greatest_divisor; simp [h]) (b.toNat + 1) a b ha hb (by omega)
  unfold g_greatest_divisor m_greatest_divisor o_greatest_divisor
  dsimp only
  rw [h1]
  exact ⟨⟨h2, fun _ _ => trivial⟩, rfl⟩

theorem quot_ok {a b : Int} {k : Nat} (hb : b ≠ 0) (h1 : a.natAbs < 2 ^ k) (h2 : b.natAbs < 2 ^ k) (hk : k ≤ 8000) : g_quotient (a, b, ()) ∧ m_quotient (a, b, ()) = qp (Rat.divInt a b) := by
  have key : ∀ a b : Int, 0 < b → b.natAbs < 2 ^ k → (g_greatest_divisor ((a.natAbs : Int), b, ()) ∧ CDivW a (m_greatest_divisor ((a.natAbs : Int), b, ())) ∧ CDivW b (m_greatest_divisor ((a.natAbs : Int), b, ()))) ∧ (a / m_greatest_divisor ((a.natAbs : Int), b, ()), b / m_greatest_divisor ((a.natAbs : Int), b, ())) = qp (Rat.divInt a b) := fun a b h h2 => by
    obtain ⟨d1, d2⟩ := gd_ok (a := (a.natAbs : Int)) (b := b) (by omega) (by omega)
    rw [d2, gcd_abs]
    exact ⟨⟨d1, gcd_bd h h2 hk, gcd_bd h h2 hk⟩, qp_div h⟩
  unfold g_quotient m_quotient o_quotient
  dsimp only
  by_cases c : b < 0
  · obtain ⟨⟨k1, k2, k3⟩, k4⟩ := key (-a) (-b) (by omega) (by rw [Int.natAbs_neg]; exact h2)
    rw [if_pos (decide_eq_true c)]
    rw [Rat.neg_divInt_neg] at k4
    simp only [k1, k2, k3, true_and, and_true, implies_true, ret_rt]
    exact k4
  · obtain ⟨⟨k1, k2, k3⟩, k4⟩ := key a b (by omega) h2
    rw [if_neg (by rw [decide_eq_false c]; exact Bool.false_ne_true)]
    simp only [k1, k2, k3, true_and, and_true, implies_true, ret_rt]
    exact k4

theorem plus_ok {a b : Rat} {k l : Nat} (h1 : Sz k a) (h2 : Sz l b) (hk : k + l + 1 ≤ 8000) : g_plus (qp a, qp b, ()) ∧ m_plus (qp a, qp b, ()) = qp (a + b) := by
  obtain ⟨q1, q2⟩ := quot_ok (dens_ne a b) (h1.upAdd h2) (abs_mono (h1.dens h2) (by omega)) hk
  rw [div_add] at q2
  have c1 := cmw h1.1 h2.d (by omega)
  have c2 := cmw h2.1 h1.d (by omega)
  have c3 := cmw h1.d h2.d (by omega)
  unfold g_plus m_plus o_plus qp
  unfold qp at q2
  simp only [c1, c2, c3, q1, true_and, and_true, ret_rt]
  exact q2

theorem minus_ok {a b : Rat} {k l : Nat} (h1 : Sz k a) (h2 : Sz l b) (hk : k + l + 1 ≤ 8000) : g_minus (qp a, qp b, ()) ∧ m_minus (qp a, qp b, ()) = qp (a - b) := by
  obtain ⟨q1, q2⟩ := quot_ok (dens_ne a b) (h1.upSub h2) (abs_mono (h1.dens h2) (by omega)) hk
  rw [div_sub] at q2
  have c1 := cmw h1.1 h2.d (by omega)
  have c2 := cmw h2.1 h1.d (by omega)
  have c3 := cmw h1.d h2.d (by omega)
  unfold g_minus m_minus o_minus qp
  unfold qp at q2
  simp only [c1, c2, c3, q1, true_and, and_true, ret_rt]
  exact q2

theorem less_ok {a b : Rat} {k l : Nat} (h1 : Sz k a) (h2 : Sz l b) (hk : k + l ≤ 8000) : g_is_less (qp a, qp b, ()) ∧ m_is_less (qp a, qp b, ()) = decide (a < b) := by
  have c1 := cmw h1.1 h2.d (by omega)
  have c3 := cmw h2.1 h1.d (by omega)
  unfold g_is_less m_is_less o_is_less qp
  simp only [c1, c3, true_and, and_true, ret_rt]
  exact decide_eq_decide.mpr (Rat.lt_iff a b).symm

theorem sum_go {k : Nat} : ∀ (xs : List Rat) (t : Rat) (n : Nat), Sz n t → (∀ x ∈ xs, Sz k x) → n + (k + 1) * xs.length ≤ 8000 → forN kg1_sum_of k1_sum_of (qp t) (xs.map qp) ∧ (xs.map qp).foldl (fun m x => k1_sum_of (m, x)) (qp t) = qp (xs.foldl (· + ·) t) ∧ Sz (n + (k + 1) * xs.length) (xs.foldl (· + ·) t)
  | [], t, n, h, _, _ => ⟨trivial, rfl, h⟩
  | x :: xs, t, n, h, hx, hn => by
    have h1 := hx x List.mem_cons_self
    rw [List.length_cons, Nat.mul_add] at hn
    obtain ⟨p1, p2⟩ := plus_ok h h1 (by omega)
    obtain ⟨i1, i2, i3⟩ := sum_go xs (t + x) (n + k + 1) (h.add h1) (fun y hy => hx y (List.mem_cons_of_mem _ hy)) (by omega)
    have e : k1_sum_of (qp t, qp x) = qp (t + x) := p2
    refine ⟨⟨?_, ?_⟩, ?_, ?_⟩
    · unfold kg1_sum_of
      simp only [p1, true_and, and_true]
    · show forN kg1_sum_of k1_sum_of (k1_sum_of (qp t, qp x)) (xs.map qp)
      rw [e]; exact i1
    · rw [List.map_cons, List.foldl_cons, e]
      exact i2
    · rw [List.foldl_cons, List.length_cons, Nat.mul_add]
      exact i3.mono (by omega)
theorem sum_ok {k : Nat} {xs : List Rat} (h : ∀ x ∈ xs, Sz k x) (hn : 1 + (k + 1) * xs.length ≤ 8000) : g_sum_of (xs.map qp, ()) ∧ m_sum_of (xs.map qp, ()) = qp (rsum xs) ∧ Sz (1 + (k + 1) * xs.length) (rsum xs) := by
  obtain ⟨i1, i2, i3⟩ := sum_go xs 0 1 Sz.zero h hn
  unfold g_sum_of m_sum_of o_sum_of
  simp only [true_and, and_true, ret_rt]
  exact ⟨i1, i2, i3⟩

theorem low_ok {a b : Int} {k : Nat} (hb : 0 < b) (h2 : b.natAbs < 2 ^ k) (hk : k ≤ 8000) : g__law_low (a, b, ()) ∧ m__law_low (a, b, ()) = qp (Rat.divInt a b) := by
  obtain ⟨e1, e2⟩ := gcd_loop (S := Empty) (c := kt1__law_low) (f := k1__law_low) (gc := ktg1__law_low) (gb := kg1__law_low) (fun a b h => by
    show (!decide (b = 0)) = decide (0 < b)
    by_cases c : b = 0
    · subst c; rfl
    · rw [decide_eq_false c, decide_eq_true (by omega)]; rfl) (fun a b => rfl) (fun a b _ => ⟨trivial, trivial, trivial⟩) (fun a b h => by unfold kg1__law_low; simp [h]) (b.toNat + 1) (a.natAbs : Int) b (by omega) (by omega) (by omega)
  unfold g__law_low m__law_low o__law_low
  dsimp only
  rw [e1, gcd_abs]
  refine ⟨⟨⟨⟨⟨trivial, trivial⟩, trivial⟩, trivial, trivial⟩, e2, fun l e => ?_⟩, qp_div hb⟩
  have c1 := gcd_bd (a := a) hb h2 hk
  have c2 := gcd_bd (a := a) hb h2 hk
  injection e with e
  rw [← e]
  exact ⟨⟨trivial, trivial, c1⟩, ⟨trivial, trivial, c1.1, c1.2⟩, trivial⟩

theorem lplus_ok {a b : Rat} {k l : Nat} (h1 : Sz k a) (h2 : Sz l b) (hk : k + l + 1 ≤ 8000) : g__law_plus (qp a, qp b, ()) ∧ m__law_plus (qp a, qp b, ()) = qp (a + b) := by
  have hd : 0 < (a.den : Int) * b.den := Int.mul_pos (den_pos a) (den_pos b)
  obtain ⟨q1, q2⟩ := low_ok (a := a.num * b.den + b.num * a.den) hd (h1.dens h2) (by omega)
  rw [div_add] at q2
  have c1 := cmw h1.1 h2.d (by omega)
  have c2 := cmw h2.1 h1.d (by omega)
  have c3 := cmw h1.d h2.d (by omega)
  unfold g__law_plus m__law_plus o__law_plus qp
  unfold qp at q2
  simp only [c1, c2, c3, q1, true_and, and_true, ret_rt]
  exact q2

theorem lmul_ok {a b : Rat} {k l : Nat} (h1 : Sz k a) (h2 : Sz l b) (hk : k + l ≤ 8000) : g__law_mul (qp a, qp b, ()) ∧ m__law_mul (qp a, qp b, ()) = qp (a * b) := by
  have hd : 0 < (a.den : Int) * b.den := Int.mul_pos (den_pos a) (den_pos b)
  obtain ⟨q1, q2⟩ := low_ok (a := a.num * b.num) hd (h1.dens h2) (by omega)
  rw [div_mul] at q2
  have c1 := cmw h1.1 h2.1 (by omega)
  have c3 := cmw h1.d h2.d (by omega)
  unfold g__law_mul m__law_mul o__law_mul qp
  unfold qp at q2
  simp only [c1, c3, q1, true_and, and_true, ret_rt]
  exact q2

end Z
namespace Z
open PySem PySem.Spec PyProof.Rows L2 Y
/-! ### the parts -/
theorem fuel_ok {l m : Int} (l0 : 1 ≤ l) (l1 : l ≤ 5000) (m0 : 1 ≤ m) (m1 : m ≤ 5000) : g_fuel_in (l, m, ()) ∧ m_fuel_in (l, m, ()) = qp (fu l m) ∧ Sz 39 (fu l m) := by
  have a1 : l.natAbs < 2 ^ 13 := by show _ < 8192; omega
  have a2 : m.natAbs < 2 ^ 13 := by show _ < 8192; omega
  have b1 := mul_abs a1 a1
  have b2 := mul_abs b1 a1
  have b3 := mul_abs a2 a2
  have nz : m * m ≠ 0 := Int.mul_ne_zero (by omega) (by omega)
  obtain ⟨q1, q2⟩ := quot_ok (a := l * l * l) (b := m * m) (k := 39) nz b2 (abs_mono b3 (by decide)) (by decide)
  have e : Rat.divInt (l * l * l) (m * m) = fu l m := by
    rw [Rat.divInt_eq_div, Rat.intCast_mul, Rat.intCast_mul, Rat.intCast_mul]
    rfl
  rw [e] at q2
  have c1 := cmw a1 a1 (by decide)
  have c2 := cmw b1 a1 (by decide)
  have c3 := cmw a2 a2 (by decide)
  refine ⟨?_, q2, by rw [← e]; exact .mk b2 (abs_mono b3 (by decide)) nz⟩
  unfold g_fuel_in
  simp only [c1, c2, c3, q1, true_and, and_true]
theorem gain_ok {l m : Int} (l0 : 1 ≤ l) (l1 : l ≤ 5000) (m0 : 1 ≤ m) (m1 : m < 5000) : g_gain_of (l, m, ()) ∧ m_gain_of (l, m, ()) = qp (ga l m) ∧ Sz 79 (ga l m) := by
  obtain ⟨a1, a2, a3⟩ := fuel_ok l0 l1 m0 (by omega)
  obtain ⟨b1, b2, b3⟩ := fuel_ok l0 l1 (m := m + 1) (by omega) (by omega)
  have d := minus_ok a3 b3 (by decide)
  refine ⟨?_, ?_, a3.sub b3⟩
  · unfold g_gain_of
    simp only [a1, a2, b1, b2, d.1, true_and, and_true]
  · unfold m_gain_of o_gain_of
    simp only [a2, b2, d.2, ret_rt]
    rfl
structure Ls (ls : List Int) : Prop where
  l0 : 1 ≤ ls.length
  l1 : ls.length ≤ 5
  e : ∀ x ∈ ls, 1 ≤ x ∧ x ≤ 800
theorem Ls.at {ls : List Int} (h : Ls ls) : ∀ k, k < ls.length → 1 ≤ ixD ls (k : Int) ∧ ixD ls (k : Int) ≤ 800 := fun k hk => by
  rw [ixD_of (List.getElem?_eq_getElem hk)]
  exact h.e _ (List.getElem_mem hk)
theorem g_lens {ls : List Int} (h : Ls ls) : g_check_lengths (ls, ()) := by
  have h0 := h.l0
  have h1 := h.l1
  have e1 : decide ((1 : Int) ≤ (ls.length : Int)) = true := by simp; omega
  have e2 : decide ((ls.length : Int) ≤ 10) = true := by simp; omega
  have e3 : (ls.map fun x1 => ((m_is_integer (x1, ())) && ((decide ((1 : Int) ≤ x1)) && (decide (x1 ≤ (1000000 : Int)))))).all id = true := by
    rw [List.all_eq_true]
    intro y hy
    obtain ⟨x, hx, rfl⟩ := List.mem_map.mp hy
    obtain ⟨a, b⟩ := h.e x hx
    have : x ≤ 1000000 := by omega
    simp [m_isint, a, this]
  unfold g_check_lengths
  simp only [e1, e2, e3, g_isint, true_and, and_true, implies_true, Bool.not_true, Bool.and_self, Bool.or_self, Bool.or_false]
structure Ms (ls ms : List Int) : Prop where
  len : ms.length = ls.length
  e : ∀ x ∈ ms, 1 ≤ x ∧ x ≤ 900
theorem Ms.at {ls ms : List Int} (h : Ms ls ms) : ∀ k, k < ls.length → 1 ≤ ixD ms (k : Int) ∧ ixD ms (k : Int) ≤ 900 := fun k hk => by
  rw [ixD_of (List.getElem?_eq_getElem (by rw [h.len]; exact hk))]
  exact h.e _ (List.getElem_mem _)
theorem are_ok {ls ms : List Int} (h : Ms ls ms) : g_are_minutes (ms, ls, ()) ∧ m_are_minutes (ms, ls, ()) = true := by
  have e3 : (ms.map fun x1 => ((m_is_integer (x1, ())) && ((decide ((1 : Int) ≤ x1)) && (decide (x1 ≤ (1000 : Int)))))).all id = true := by
    rw [List.all_eq_true]
    intro y hy
    obtain ⟨x, hx, rfl⟩ := List.mem_map.mp hy
    obtain ⟨a, b⟩ := h.e x hx
    have : x ≤ 1000 := by omega
    simp [m_isint, a, this]
  have e1 : decide ((ms.length : Int) = (ls.length : Int)) = true := by simp [h.len]
  unfold g_are_minutes m_are_minutes o_are_minutes
  simp only [e1, e3, g_isint, true_and, and_true, implies_true, Bool.not_true, Bool.or_self, Bool.false_eq_true, if_false, ret_rt]
theorem g_mins {ls ms : List Int} (h1 : Ls ls) (h2 : Ms ls ms) : g_check_minutes (ls, ms, ()) := by
  unfold g_check_minutes
  simp only [g_lens h1, (are_ok h2).1, (are_ok h2).2, true_and, and_true, Bool.not_true]
theorem zip_pos {ls ms : List Int} (h1 : Ls ls) (h2 : Ms ls ms) : Pos (ls.zip ms) := fun x hx => ⟨(h1.e _ (List.of_mem_zip hx).1).1, (h2.e _ (List.of_mem_zip hx).2).1⟩
theorem zip_ne {ls ms : List Int} (h1 : Ls ls) (h2 : Ms ls ms) : ls.zip ms ≠ [] := fun e => by
  have : (ls.zip ms).length = 0 := by rw [e]; rfl
  rw [List.length_zip, h2.len] at this
  have := h1.l0
  omega
theorem ffor_ok {ls ms : List Int} (h1 : Ls ls) (h2 : Ms ls ms) : g_fuel_for (ls, ms, ()) ∧ m_fuel_for (ls, ms, ()) = qp (fs (ls.zip ms)) ∧ Sz 201 (fs (ls.zip ms)) := by
  have fo : ∀ x ∈ ls.zip ms, g_fuel_in (x.1, x.2, ()) ∧ m_fuel_in (x.1, x.2, ()) = qp (fu x.1 x.2) ∧ Sz 39 (fu x.1 x.2) := fun x hx => by
    have a := h1.e _ (List.of_mem_zip hx).1
    have b := h2.e _ (List.of_mem_zip hx).2
    exact fuel_ok a.1 (by omega) b.1 (by omega)
  have em : (ls.zip ms).map (fun x1 => m_fuel_in (x1.1, x1.2, ())) = ((ls.zip ms).map fun x => fu x.1 x.2).map qp := by
    rw [List.map_map]
    exact List.map_congr_left fun x hx => (fo x hx).2.1
  have hl := h1.l1
  obtain ⟨s1, s2, s3⟩ := sum_ok (k := 39) (xs := (ls.zip ms).map fun x => fu x.1 x.2) (fun y hy => by
    obtain ⟨x, hx, rfl⟩ := List.mem_map.mp hy
    exact (fo x hx).2.2) (by rw [List.length_map, List.length_zip]; omega)
  unfold g_fuel_for m_fuel_for o_fuel_for
  simp only [em, g_mins h1 h2, s1, s2, true_and, and_true, ret_rt]
  exact ⟨fun x hx => (fo x hx).1, rfl, s3.mono (by rw [List.length_map, List.length_zip]; omega)⟩
theorem sum_cast : ∀ l : List LM, sL l = ((l.map fun x => x.1).sum : Int) ∧ sM l = ((l.map fun x => x.2).sum : Int)
  | [] => ⟨rfl, rfl⟩
  | x :: l => by
    obtain ⟨i1, i2⟩ := sum_cast l
    constructor
    · unfold sL at i1 ⊢
      simp only [List.map_cons, rsum_cons, List.sum_cons, Rat.intCast_add, i1]
    · unfold sM at i2 ⊢
      simp only [List.map_cons, rsum_cons, List.sum_cons, Rat.intCast_add, i2]
theorem sum_bd {c : Int} (hc : 0 ≤ c) : ∀ xs : List Int, (∀ x ∈ xs, 1 ≤ x ∧ x ≤ c) → (xs.length : Int) ≤ xs.sum ∧ xs.sum ≤ c * (xs.length : Int)
  | [], _ => by simp
  | x :: xs, h => by
    have ih := sum_bd hc xs fun y hy => h y (List.mem_cons_of_mem _ hy)
    have h1 := h x List.mem_cons_self
    rw [List.sum_cons, List.length_cons, Int.natCast_add, Int.mul_add]
    omega
theorem fw_ok {ls ms : List Int} (h1 : Ls ls) (h2 : Ms ls ms) : g_fuel_wasted (ls, ms, ()) ∧ m_fuel_wasted (ls, ms, ()) = qp (ws (ls.zip ms)) ∧ Sz 250 (ws (ls.zip ms)) := by
  obtain ⟨f1, f2, f3⟩ := ffor_ok h1 h2
  have hl := h1.l1
  have hl0 := h1.l0
  have b1 := sum_bd (c := 800) (by decide) ls h1.e
  have b2 := sum_bd (c := 900) (by decide) ms h2.e
  rw [h2.len] at b2
  obtain ⟨a1, a2, a3⟩ := fuel_ok (l := ls.sum) (m := ms.sum) (by omega) (by omega) (by omega) (by omega)
  have c := sum_cast (ls.zip ms)
  have z1 : (ls.zip ms).map (fun x => x.1) = ls := List.map_fst_zip (by rw [h2.len]; exact Nat.le_refl _)
  have z2 : (ls.zip ms).map (fun x => x.2) = ms := List.map_snd_zip (by rw [h2.len]; exact Nat.le_refl _)
  rw [z1, z2] at c
  have d := minus_ok f3 a3 (by decide)
  have ew : fs (ls.zip ms) - fu ls.sum ms.sum = ws (ls.zip ms) := by unfold ws; rw [c.1, c.2]
  rw [ew] at d
  have sz : Sz 250 (ws (ls.zip ms)) := by rw [← ew]; exact (f3.sub a3).mono (by decide)
  unfold g_fuel_wasted m_fuel_wasted o_fuel_wasted
  simp only [f1, f2, a1, a2, d.1, d.2, true_and, and_true, ret_rt]
  exact sz

/-! ### speeds -/
def sp (x : LM) : Rat := (x.1 : Rat) / (x.2 : Rat)
def je (ss : List Rat) : PySem.Str × D := match (enum ss).find? (fun x => !decide (x.2 = ss.headD 0)) with
  | some x => (PySem.Str.ofString "uneven", cI x.1)
  | none => (PySem.Str.ofString "even", c2 cI cI (qp (ss.headD 0)))
theorem eqv_qp {a b : Rat} : PyData.eqv (c2 cI cI (qp a)) (c2 cI cI (qp b)) = decide (a = b) := by
  by_cases e : a = b
  · subst e
    rw [decide_eq_true rfl]
    exact eqv_T (cq_2 cq_I cq_I) _
  · rw [decide_eq_false e]
    cases h : PyData.eqv (c2 cI cI (qp a)) (c2 cI cI (qp b)) with
    | false => rfl
    | true =>
      exfalso
      apply e
      simp only [c2, cI, qp, PyData.eqv, PyData.eqvAll, Bool.and_eq_true, decide_eq_true_eq, beq_iff_eq, and_true] at h
      exact Rat.ext h.1 (by omega)
theorem enum_map {α β : Type} (f : α → β) (xs : List α) : enum (xs.map f) = (enum xs).map fun x => (x.1, f x.2) := by
  refine List.ext_getElem? fun k => ?_
  rw [enum_get, List.getElem?_map, List.getElem?_map, enum_get]
  cases xs[k]? <;> rfl
theorem sp_ok {l m : Int} (l0 : 1 ≤ l) (l1 : l ≤ 5000) (m0 : 1 ≤ m) (m1 : m ≤ 5000) : g_quotient (l, m, ()) ∧ m_quotient (l, m, ()) = qp (sp (l, m)) := by
  have q := quot_ok (a := l) (b := m) (k := 13) (by omega) (by show _ < 8192; omega) (by show _ < 8192; omega) (by decide)
  rw [Rat.divInt_eq_div] at q
  exact q
theorem judge_ok {ls ms : List Int} (h1 : Ls ls) (h2 : Ms ls ms) : g_judge_even (ls, ms, ()) ∧ m_judge_even (ls, ms, ()) = je ((ls.zip ms).map sp) := by
  have so : ∀ x ∈ ls.zip ms, g_quotient (x.1, x.2, ()) ∧ m_quotient (x.1, x.2, ()) = qp (sp x) := fun x hx => by
    have a := h1.e _ (List.of_mem_zip hx).1
    have b := h2.e _ (List.of_mem_zip hx).2
    exact sp_ok a.1 (by omega) b.1 (by omega)
  have em : (ls.zip ms).map (fun x1 => m_quotient (x1.1, x1.2, ())) = ((ls.zip ms).map sp).map qp := by
    rw [List.map_map]
    exact List.map_congr_left fun x hx => (so x hx).2
  have ne := zip_ne h1 h2
  obtain ⟨s0, st, hs⟩ : ∃ s0 st, (ls.zip ms).map sp = s0 :: st := by
    cases h : (ls.zip ms).map sp with
    | nil => exact absurd (List.map_eq_nil_iff.mp h) ne
    | cons x xs => exact ⟨x, xs, rfl⟩
  have i0 : ixD ((s0 :: st).map qp) 0 = qp s0 := ixD_zero
  have ci : CIx ((s0 :: st).map qp) 0 := ⟨by rw [List.length_map, List.length_cons]; omega, by rw [List.length_map, List.length_cons]; omega⟩
  have key : ∀ x ∈ enum ((s0 :: st).map qp), k1_judge_even ((s0 :: st).map qp) ((), x) = if (!decide (x.2 = qp s0)) = true then .rt (PySem.Str.ofString "uneven", cI x.1) else .nx () := fun x hx => by
    rw [enum_map] at hx
    obtain ⟨y, hy, rfl⟩ := List.mem_map.mp hx
    unfold k1_judge_even
    simp only [i0, eqv_qp]
    have : decide (qp y.2 = qp s0) = decide (y.2 = s0) := decide_eq_decide.mpr qp_inj
    rw [this]
  have fo := forO_find (S := Empty) (f := k1_judge_even ((s0 :: st).map qp)) _ _ _ key
  have gk : forG (kg1_judge_even ((s0 :: st).map qp)) (k1_judge_even ((s0 :: st).map qp)) () (enum ((s0 :: st).map qp)) := forG_all _ fun x hx => by
    unfold kg1_judge_even
    simp only [ci, true_and, and_true, implies_true]
  unfold g_judge_even m_judge_even o_judge_even
  simp only [em, hs, g_mins h1 h2, gk, fo, ci, true_and, and_true, implies_true, i0]
  refine ⟨fun x hx => (so x hx).1, ?_⟩
  have e2 : (enum ((s0 :: st).map qp)).find? (fun x => !decide (x.2 = qp s0)) = ((enum (s0 :: st)).find? (fun x => !decide (x.2 = s0))).map fun x => (x.1, qp x.2) := by
    rw [enum_map, List.find?_map]
    congr 1
    refine congrArg (fun p => List.find? p _) (funext fun y => ?_)
    show (!decide (qp y.2 = qp s0)) = _
    rw [decide_eq_decide.mpr qp_inj]
  rw [e2]
  unfold je
  show _ = (match (enum (s0 :: st)).find? (fun x => !decide (x.2 = s0)) with
    | some x => (PySem.Str.ofString "uneven", cI x.1)
    | none => (PySem.Str.ofString "even", c2 cI cI (qp s0)))
  cases (enum (s0 :: st)).find? (fun x => !decide (x.2 = s0)) <;> rfl
theorem je_even {ss : List Rat} : decide ((je ss).1 = PySem.Str.ofString "even") = decide (∀ s ∈ ss, s = ss.headD 0) := by
  unfold je
  cases h : (enum ss).find? (fun x => !decide (x.2 = ss.headD 0)) with
  | none =>
    refine (decide_eq_true rfl).trans (decide_eq_true fun s hs => ?_).symm
    rw [List.find?_eq_none] at h
    obtain ⟨k, hk, rfl⟩ := List.mem_iff_getElem.mp hs
    have := h ((k : Int), ss[k]) (List.mem_iff_getElem?.mpr ⟨k, by rw [enum_get, List.getElem?_eq_getElem hk]; rfl⟩)
    simpa using this
  | some x =>
    have hx := List.mem_of_find?_eq_some h
    have hp := List.find?_some h
    have ne : PySem.Str.ofString "uneven" ≠ PySem.Str.ofString "even" := by decide +kernel
    refine (decide_eq_false ne).trans (decide_eq_false fun q => ?_).symm
    obtain ⟨k, hk⟩ := List.mem_iff_getElem?.mp hx
    rw [enum_get] at hk
    cases hs : ss[k]? with
    | none => rw [hs] at hk; cases hk
    | some s =>
      rw [hs] at hk
      injection hk with hk
      have := q s (List.mem_of_getElem? hs)
      rw [← hk] at hp
      simp [this] at hp
/-! ### best minutes -/
def gl (ls ms : List Int) : List (Int × Int) := (List.range ls.length).map fun k => qp (gf ls ms k)
theorem gl_at {ls ms : List Int} {k : Nat} (h : k < ls.length) : ixD (gl ls ms) (k : Int) = qp (gf ls ms k) ∧ CIx (gl ls ms) (k : Int) := ⟨ixD_of (by unfold gl; rw [List.getElem?_map, List.getElem?_range h]; rfl), cix_of (by omega) (by unfold gl; rw [List.length_map, List.length_range]; omega)⟩
theorem gl_len (ls ms : List Int) : (gl ls ms).length = ls.length := by unfold gl; rw [List.length_map, List.length_range]
theorem first_ok {ls ms : List Int} (h : Ls ls) (hm : ∀ k, k < ls.length → 1 ≤ ixD ms (k : Int) ∧ ixD ms (k : Int) ≤ 900) (f : List Int) (t : Int) : forN (kg1_best_minutes ((f, gl ls ms), t)) (k1_best_minutes ((f, gl ls ms), t)) 0 (enum (gl ls ms)) ∧ (enum (gl ls ms)).foldl (fun m x => k1_best_minutes ((f, gl ls ms), t) (m, x)) 0 = ((am (gf ls ms) ls.length : Nat) : Int) := by
  have hl := h.l0
  have sz : ∀ k, k < ls.length → Sz 79 (gf ls ms k) := fun k hk => by
    have a := h.at k hk
    have b := hm k hk
    exact (gain_ok a.1 (by omega) b.1 (by omega)).2.2
  have key := fold_pre (g := kg1_best_minutes ((f, gl ls ms), t)) (f := k1_best_minutes ((f, gl ls ms), t)) (fun l1 => ((am (gf ls ms) l1.length : Nat) : Int)) (enum (gl ls ms)) fun l1 x l2 e => by
    have hk : l1.length < ls.length := by
      have := congrArg List.length e
      rw [enum_length, gl_len, List.length_append, List.length_cons] at this
      omega
    have ex : x = ((l1.length : Int), qp (gf ls ms l1.length)) := by
      have h1 : (enum (gl ls ms))[l1.length]? = some x := by rw [e, List.getElem?_append_right (Nat.le_refl _), Nat.sub_self]; rfl
      rw [enum_get] at h1
      unfold gl at h1
      rw [List.getElem?_map, List.getElem?_range hk] at h1
      exact (Option.some.inj h1).symm
    subst ex
    have ha : am (gf ls ms) l1.length < ls.length := by
      rcases (am_spec (gf ls ms) l1.length).1 with z | z
      · rw [z]; show 0 < _; omega
      · omega
    obtain ⟨i1, i2⟩ := gl_at (ms := ms) ha
    have ll := less_ok (sz _ ha) (sz _ hk) (by decide)
    unfold kg1_best_minutes k1_best_minutes
    simp only [i1, i2, ll.1, ll.2, true_and, and_true, implies_true]
    rw [List.length_append, List.length_singleton]
    show _ = ((if gf ls ms (am (gf ls ms) l1.length) < gf ls ms l1.length then l1.length else am (gf ls ms) l1.length : Nat) : Int)
    by_cases c : gf ls ms (am (gf ls ms) l1.length) < gf ls ms l1.length
    · rw [if_pos c, if_pos (decide_eq_true c)]
    · rw [if_neg c, if_neg (by rw [decide_eq_false c]; exact Bool.false_ne_true)]
  refine ⟨key.1, key.2.trans ?_⟩
  show ((am (gf ls ms) (enum (gl ls ms)).length : Nat) : Int) = _
  rw [enum_length, gl_len]
theorem gl_set {ls ms : List Int} {b : Nat} {v : Int} (hb : b < ls.length) (hl : ms.length = ls.length) : (gl ls ms).set b (qp (ga (ixD ls (b : Int)) v)) = gl ls (ms.set b v) := by
  refine List.ext_getElem? fun k => ?_
  by_cases hk : k < ls.length
  · have e1 : (gl ls (ms.set b v))[k]? = some (qp (gf ls (ms.set b v) k)) := by unfold gl; rw [List.getElem?_map, List.getElem?_range hk]; rfl
    rw [e1]
    unfold gf
    rw [ixD_set (by omega)]
    by_cases c : k = b
    · subst c
      rw [if_pos rfl, List.getElem?_set_self (by rw [gl_len]; exact hk)]
    · rw [if_neg c, List.getElem?_set_ne (fun q => c q.symm)]
      unfold gl
      rw [List.getElem?_map, List.getElem?_range hk]
      rfl
  · rw [List.getElem?_eq_none (by rw [List.length_set, gl_len]; omega), List.getElem?_eq_none (by rw [gl_len]; omega)]
theorem gre_at {ls : List Int} (h : Ls ls) {n : Nat} (hn : n ≤ 800) : ∀ k, k < ls.length → 1 ≤ ixD (gre ls n) (k : Int) ∧ ixD (gre ls n) (k : Int) ≤ 900 := fun k hk => by
  have a := (gre_iv h.l0 (fun k hk => (h.at k hk).1) n).one k hk
  have b := gre_bd h.l0 (fun k hk => (h.at k hk).1) n k hk
  exact ⟨a, by omega⟩
theorem best_ok {ls : List Int} (h : Ls ls) {n : Nat} (hn : n ≤ 800) : g_best_minutes (ls, (ls.length : Int) + (n : Int), ()) ∧ m_best_minutes (ls, (ls.length : Int) + (n : Int), ()) = gre ls n := by
  have hl0 := h.l0
  have hl1 := h.l1
  have pos := fun k hk => (h.at k hk).1
  have gok : ∀ k v, k < ls.length → 1 ≤ v → v ≤ 901 → g_gain_of (ixD ls (k : Int), v, ()) ∧ m_gain_of (ixD ls (k : Int), v, ()) = qp (ga (ixD ls (k : Int)) v) := fun k v hk v0 v1 => by
    have a := h.at k hk
    have := gain_ok (l := ixD ls (k : Int)) (m := v) a.1 (by omega) v0 (by omega)
    exact ⟨this.1, this.2.1⟩
  have key := fold_rng (g := kg2_best_minutes ls) (f := k2_best_minutes ls) (fun j => ((gre ls j, gl ls (gre ls j)) : List Int × List (Int × Int))) n fun j hj => by
    have iv := gre_iv h.l0 pos j
    have at_ := gre_at h (n := j) (by omega)
    obtain ⟨f1, f2⟩ := first_ok h at_ (gre ls j) (j : Int)
    have hb := am_lt (ms := gre ls j) hl0
    have ci1 : CIx (gre ls j) ((am (gf ls (gre ls j)) ls.length : Nat) : Int) := cix_of (by omega) (by rw [iv.len]; omega)
    have ci2 : CIx ls ((am (gf ls (gre ls j)) ls.length : Nat) : Int) := cix_of (by omega) (by omega)
    have es : setI (gre ls j) ((am (gf ls (gre ls j)) ls.length : Nat) : Int) (ixD (gre ls j) ((am (gf ls (gre ls j)) ls.length : Nat) : Int) + 1) = gre ls (j + 1) := by
      rw [setI_nat (by omega) (by rw [iv.len]; omega), Int.toNat_natCast]
      rfl
    have ci3 : CIx (gre ls (j + 1)) ((am (gf ls (gre ls j)) ls.length : Nat) : Int) := cix_of (by omega) (by rw [(gre_iv h.l0 pos (j + 1)).len]; omega)
    have ev : ixD (gre ls (j + 1)) ((am (gf ls (gre ls j)) ls.length : Nat) : Int) = ixD (gre ls j) ((am (gf ls (gre ls j)) ls.length : Nat) : Int) + 1 := by
      show ixD ((gre ls j).set _ _) _ = _
      rw [ixD_set (by rw [iv.len]; exact hb), if_pos rfl]
    have av := at_ _ hb
    obtain ⟨k1, k2⟩ := gok _ (ixD (gre ls j) ((am (gf ls (gre ls j)) ls.length : Nat) : Int) + 1) hb (by omega) (by omega)
    obtain ⟨_, i2⟩ := gl_at (ms := gre ls j) hb
    have eg : setI (gl ls (gre ls j)) ((am (gf ls (gre ls j)) ls.length : Nat) : Int) (qp (ga (ixD ls ((am (gf ls (gre ls j)) ls.length : Nat) : Int)) (ixD (gre ls j) ((am (gf ls (gre ls j)) ls.length : Nat) : Int) + 1))) = gl ls (gre ls (j + 1)) := by
      rw [setI_nat (by omega) (by rw [gl_len]; omega), Int.toNat_natCast, gl_set hb iv.len]
      rfl
    unfold kg2_best_minutes k2_best_minutes
    simp only [f1, f2, ci1, ci2, ci3, es, ev, k1, k2, i2, eg, true_and, and_true]
  have e0 : repI [(1 : Int)] (ls.length : Int) = gre ls 0 := by
    show _ = List.replicate ls.length (1 : Int)
    unfold repI
    rw [Int.toNat_natCast]
    simp
  have eg0 : ls.map (fun x2 => m_gain_of (x2, 1, ())) = gl ls (gre ls 0) := by
    refine List.ext_getElem? fun k => ?_
    by_cases hk : k < ls.length
    · have e1 : (gl ls (gre ls 0))[k]? = some (qp (gf ls (gre ls 0) k)) := by unfold gl; rw [List.getElem?_map, List.getElem?_range hk]; rfl
      have e2 : ixD ls (k : Int) = ls[k] := ixD_of (List.getElem?_eq_getElem hk)
      have e3 : ixD (gre ls 0) (k : Int) = 1 := ixD_rep hk
      rw [e1, List.getElem?_map, List.getElem?_eq_getElem hk]
      show some (m_gain_of (ls[k], 1, ())) = _
      unfold gf
      rw [← e2, (gok k 1 hk (by decide) (by decide)).2, e3]
    · rw [List.getElem?_eq_none (by rw [List.length_map]; omega), List.getElem?_eq_none (by rw [gl_len]; omega)]
  have et : (ls.length : Int) + (n : Int) - (ls.length : Int) = (n : Int) := by omega
  have cr : CRg 0 (n : Int) := by unfold CRg; omega
  have d1 : decide ((ls.length : Int) ≤ (ls.length : Int) + (n : Int)) = true := decide_eq_true (by omega)
  have d2 : decide ((ls.length : Int) + (n : Int) ≤ 1000) = true := by simp; omega
  have lr : -1000000 ≤ (ls.length : Int) ∧ (ls.length : Int) ≤ 1000000 ∧ [(1 : Int)].length * ((ls.length : Int)).toNat ≤ 16777216 := ⟨by omega, by omega, by rw [Int.toNat_natCast, List.length_singleton]; omega⟩
  have gg : ∀ x2 ∈ ls, g_gain_of (x2, 1, ()) := fun x hx => by
    have a := h.e x hx
    exact (gain_ok a.1 (by omega) (by decide) (by decide)).1
  unfold g_best_minutes m_best_minutes o_best_minutes
  simp only [g_lens h, m_isint, g_isint, d1, d2, e0, eg0, et, cr, key.1, key.2, true_and, and_true, implies_true, Bool.not_true, Bool.and_self, Bool.or_self, ret_rt]
  exact ⟨lr, gg⟩
theorem gre_ms {ls : List Int} (h : Ls ls) {n : Nat} (hn : n ≤ 800) : Ms ls (gre ls n) := ⟨(gre_iv h.l0 (fun k hk => (h.at k hk).1) n).len, fun x hx => by
  obtain ⟨k, hk, rfl⟩ := List.mem_iff_getElem.mp hx
  have e := (gre_iv h.l0 (fun k hk => (h.at k hk).1) n).len
  have a := gre_at h hn k (by omega)
  rw [ixD_of (List.getElem?_eq_getElem hk)] at a
  exact a⟩
theorem accept_ok {ls : List Int} (h : Ls ls) {n : Nat} (hn : n ≤ 800) : g_accept_minutes (ls, (ls.length : Int) + (n : Int), gre ls n, ()) := by
  have hl0 := h.l0
  have hl1 := h.l1
  have pos := fun k hk => (h.at k hk).1
  have iv := gre_iv h.l0 pos n
  have ms := gre_ms h hn
  have at_ := gre_at h hn
  have hs := gre_sum h.l0 pos n
  generalize gre ls n = m at iv ms at_ hs
  have d1 : decide ((ls.length : Int) ≤ (ls.length : Int) + (n : Int)) = true := decide_eq_true (by omega)
  have d2 : decide ((ls.length : Int) + (n : Int) ≤ 1000) = true := decide_eq_true (by omega)
  have d3 : decide (m.sum = (ls.length : Int) + (n : Int)) = true := decide_eq_true hs
  have lp : forN (kg1_accept_minutes ls m) (k1_accept_minutes ls) () (enum m) := forN_all _ _ fun t x hx => by
    obtain ⟨k, hk, rfl⟩ := mem_enum hx
    have hk' : k < ls.length := by rw [← iv.len]; exact hk
    have ek : m[k] = ixD m (k : Int) := (ixD_of (List.getElem?_eq_getElem hk)).symm
    have ci : CIx ls (k : Int) := cix_of (by omega) (by omega)
    have al := h.at k hk'
    have am := at_ k hk'
    unfold kg1_accept_minutes
    dsimp only
    rw [ek]
    simp only [ci, true_and, and_true, implies_true]
    intro hd
    have h1 : 1 < ixD m (k : Int) := of_decide_eq_true hd
    obtain ⟨g1, g2, g3⟩ := gain_ok (l := ixD ls (k : Int)) (m := ixD m (k : Int) - 1) al.1 (by omega) (by omega) (by omega)
    have zz : ∀ y ∈ ls.zip m, g_gain_of (y.1, y.2, ()) ∧ g_is_less (qp (ga (ixD ls (k : Int)) (ixD m (k : Int) - 1)), m_gain_of (y.1, y.2, ()), ()) ∧ m_is_less (qp (ga (ixD ls (k : Int)) (ixD m (k : Int) - 1)), m_gain_of (y.1, y.2, ()), ()) = false := fun y hy => by
      obtain ⟨j, hj, rfl⟩ := List.mem_iff_getElem.mp hy
      have hj' : j < ls.length := by rw [List.length_zip] at hj; omega
      have hjm : j < m.length := by rw [iv.len]; exact hj'
      rw [List.getElem_zip]
      have e1 : ls[j] = ixD ls (j : Int) := (ixD_of (List.getElem?_eq_getElem hj')).symm
      have e2 : m[j] = ixD m (j : Int) := (ixD_of (List.getElem?_eq_getElem hjm)).symm
      rw [e1, e2]
      have al2 := h.at j hj'
      have am2 := at_ j hj'
      obtain ⟨k1, k2, k3⟩ := gain_ok (l := ixD ls (j : Int)) (m := ixD m (j : Int)) al2.1 (by omega) (by omega) (by omega)
      dsimp only
      rw [k2]
      have ll := less_ok g3 k3 (by decide)
      exact ⟨k1, ll.1, ll.2.trans (decide_eq_false (Rat.not_lt.mpr (iv.opt k j hk' hj' h1)))⟩
    have fe : (ls.zip m).filter (fun x5 => m_is_less (qp (ga (ixD ls (k : Int)) (ixD m (k : Int) - 1)), m_gain_of (x5.1, x5.2, ()), ())) = [] := List.filter_eq_nil_iff.mpr fun y hy => by
      rw [(zz y hy).2.2]; exact Bool.false_ne_true
    rw [g2, fe]
    exact ⟨g1, fun y hy => ⟨(zz y hy).1, (zz y hy).2.1⟩, rfl⟩
  unfold g_accept_minutes
  simp only [g_lens h, m_isint, g_isint, d1, d2, d3, (are_ok ms).1, (are_ok ms).2, lp, true_and, and_true, implies_true, Bool.not_true, Bool.and_self, Bool.or_self]
structure Lt (ls : List Int) : Prop where
  l0 : 1 ≤ ls.length
  l1 : ls.length ≤ 5
  e : ∀ x ∈ ls, 1 ≤ x ∧ x ≤ 60
theorem Lt.ok {ls : List Int} (h : Lt ls) : Ls ls := ⟨h.l0, h.l1, fun x hx => by have := h.e x hx; omega⟩
theorem Lt.mul {ls : List Int} (h : Lt ls) {c : Int} (c0 : 1 ≤ c) (c1 : c ≤ 10) : Ls (ls.map (· * c)) := ⟨by rw [List.length_map]; exact h.l0, by rw [List.length_map]; exact h.l1, fun x hx => by
  obtain ⟨y, hy, rfl⟩ := List.mem_map.mp hx
  have a := h.e y hy
  have h1 : 1 * 1 ≤ y * c := Int.mul_le_mul a.1 c0 (by decide) (by omega)
  have h2 : y * c ≤ 60 * 10 := Int.mul_le_mul a.2 c1 (by omega) (by decide)
  show 1 ≤ y * c ∧ y * c ≤ 800
  omega⟩
theorem cmsm {x : Int} (y : Int) (h0 : -100000 ≤ x) (h1 : x ≤ 100000) : CMul x y := .inl ⟨by omega, by omega⟩
theorem forO_unit {α R S : Type} {f : Unit × α → Out Unit R Unit} : ∀ xs : List α, (∀ x ∈ xs, f ((), x) = .nx ()) → forO (S := S) f () xs = .nx ()
  | [], _ => rfl
  | x :: xs, h => by
    rw [forO, h x List.mem_cons_self]
    exact forO_unit xs fun y hy => h y (List.mem_cons_of_mem _ hy)
theorem repI_one {v : Int} {n : Nat} : repI [v] (n : Int) = List.replicate n v := by
  unfold repI
  rw [Int.toNat_natCast]
  simp
theorem repI_len {v k : Int} : (repI [v] k).length = k.toNat := by
  unfold repI
  simp
theorem best_hold_ok {ls : List Int} {t : St4} (h : Lt ls) (w : Wf t) : g__law_best_hold ((ls, ()), t) ∧ (m__law_best_hold ((ls, ()), t)).1 = true ∧ Wf (m__law_best_hold ((ls, ()), t)).2 := by
  have hl0 := h.l0
  have hl1 := h.l1
  have ok := h.ok
  have pos := fun k hk => (ok.at k hk).1
  obtain ⟨a1, a2, a3, a4⟩ := draw_ok (m := 50) w (by decide) (by decide)
  unfold g__law_best_hold m__law_best_hold o__law_best_hold
  dsimp only
  generalize m__law_draw ((50, ()), t) = r1 at a1 a2 a3 a4 ⊢
  obtain ⟨b1, b2, b3, b4⟩ := draw_ok (m := 9) a4 (by decide) (by decide)
  generalize m__law_draw ((9, ()), r1.2) = r2 at b1 b2 b3 b4 ⊢
  obtain ⟨n, hn⟩ := Int.eq_ofNat_of_zero_le a2
  rw [hn]
  have n1 : n < 50 := by omega
  obtain ⟨c1, c2⟩ := best_ok ok (n := n) (by omega)
  have ac := accept_ok ok (n := n) (by omega)
  have sm := gre_sum hl0 pos n
  have iv := gre_iv hl0 pos n
  have at_ := gre_at ok (n := n) (by omega)
  have ms := gre_ms ok (n := n) (by omega)
  have d3 : decide ((gre ls n).sum = (ls.length : Int) + (n : Int)) = true := decide_eq_true sm
  -- times a number
  obtain ⟨e1, e2⟩ := best_ok (h.mul (c := 2 + r2.1) (by omega) (by omega)) (n := n) (by omega)
  rw [List.length_map] at e1 e2
  rw [gre_mul (by omega)] at e2
  have gm : ∀ x5 ∈ ls, CMul x5 (2 + r2.1) := fun x hx => by
    have := h.e x hx
    exact cmsm _ (by omega) (by omega)
  have shw : ∀ {xs : List Int}, xs.length ≤ 5 → (∀ x ∈ xs, 0 ≤ x ∧ x ≤ 2000) → Shw (cT cI xs) := fun {xs} hl hx => shw_TI (by omega) fun x m => by
    have := hx x m
    exact Nat.lt_of_lt_of_le (show x.natAbs < 2 ^ 11 by show _ < 2048; omega) (Nat.pow_le_pow_right (by decide) (by decide))
  have S1 := law_same_TI_ok (x := gre ls n) rfl (shw (by rw [iv.len]; exact hl1) fun x hx => by have := ms.e x hx; omega)
  -- a minute more
  obtain ⟨f1, f2⟩ := best_ok ok (n := n + 1) (by omega)
  have en : (ls.length : Int) + ((n + 1 : Nat) : Int) = (ls.length : Int) + (n : Int) + 1 := by omega
  rw [en] at f1 f2
  have hb := am_lt (ms := gre ls n) hl0
  have cr : CRg 0 (ls.length : Int) := by unfold CRg; omega
  have ci : ∀ j, j ≤ 60 → ∀ x ∈ rng 0 (ls.length : Int), CIx (gre ls j) x := fun j hj x hx => by
    rw [mem_rng] at hx
    exact cix_of (by omega) (by rw [(gre_iv hl0 pos j).len]; omega)
  have df : (rng 0 (ls.length : Int)).map (fun x7 => ixD (gre ls (n + 1)) x7 - ixD (gre ls n) x7) = (List.replicate ls.length (0 : Int)).set (am (gf ls (gre ls n)) ls.length) 1 := by
    rw [rng_eq, List.map_map]
    refine List.ext_getElem? fun k => ?_
    by_cases hk : k < ls.length
    · rw [List.getElem?_map, List.getElem?_range hk]
      show some (ixD ((gre ls n).set _ _) (k : Int) - ixD (gre ls n) (k : Int)) = _
      rw [ixD_set (by rw [iv.len]; exact hb)]
      by_cases c : k = am (gf ls (gre ls n)) ls.length
      · rw [if_pos c, ← c, List.getElem?_set_self (by rw [List.length_replicate]; exact hk)]
        congr 1
        omega
      · rw [if_neg c, List.getElem?_set_ne (fun q => c q.symm), List.getElem?_replicate, if_pos hk, Int.sub_self]
    · rw [List.getElem?_eq_none (by rw [List.length_map, List.length_range]; omega), List.getElem?_eq_none (by rw [List.length_set, List.length_replicate]; omega)]
  have srt1 := srt_set hb
  have el : (ls.length : Int) - 1 = ((ls.length - 1 : Nat) : Int) := by omega
  have er0 : repI [(0 : Int)] ((ls.length : Int) - 1) = List.replicate (ls.length - 1) 0 := by rw [el, repI_one]
  have ev : ∀ xs : List Int, PyData.eqv (cL cI xs) (cL cI xs) = true := eqv_T (cq_L cq_I)
  -- equal lengths
  have k1 : ∀ i j : Nat, i < j → j < ls.length → (decide (ixD ls (i : Int) = ixD ls (j : Int)) && !(decide (0 ≤ ixD (gre ls n) (i : Int) - ixD (gre ls n) (j : Int)) && decide (ixD (gre ls n) (i : Int) - ixD (gre ls n) (j : Int) ≤ 1))) = false := fun i j hij hj => by
    by_cases e : ixD ls (i : Int) = ixD ls (j : Int)
    · have := iv.eq i j hij hj e
      rw [decide_eq_true this.1, decide_eq_true this.2]
      simp
    · rw [decide_eq_false e, Bool.false_and]
  have i1 : ∀ i : Nat, i < ls.length → forO (S := E6__law_best_hold) (k1__law_best_hold ls r2 (gre ls n) ((), (i : Int))) () (rng ((i : Int) + 1) (ls.length : Int)) = .nx () ∧ forG (kg1__law_best_hold ls (gre ls n) ((), (i : Int))) (k1__law_best_hold ls r2 (gre ls n) ((), (i : Int))) () (rng ((i : Int) + 1) (ls.length : Int)) := fun i hi => by
    have each : ∀ x ∈ rng ((i : Int) + 1) (ls.length : Int), ∃ j : Nat, x = (j : Int) ∧ i < j ∧ j < ls.length := fun x hx => by
      rw [mem_rng] at hx
      obtain ⟨j, rfl⟩ := Int.eq_ofNat_of_zero_le (show 0 ≤ x by omega)
      exact ⟨j, rfl, by omega, by omega⟩
    refine ⟨forO_unit _ fun x hx => ?_, forG_all _ fun x hx => ?_⟩
    · obtain ⟨j, rfl, hij, hj⟩ := each x hx
      unfold k1__law_best_hold
      dsimp only
      rw [k1 i j hij hj]
      rfl
    · obtain ⟨j, rfl, hij, hj⟩ := each x hx
      have q1 : CIx ls (i : Int) := cix_of (by omega) (by omega)
      have q2 : CIx ls (j : Int) := cix_of (by omega) (by omega)
      have q3 : CIx (gre ls n) (i : Int) := cix_of (by omega) (by rw [iv.len]; omega)
      have q4 : CIx (gre ls n) (j : Int) := cix_of (by omega) (by rw [iv.len]; omega)
      unfold kg1__law_best_hold
      simp only [q1, q2, q3, q4, true_and, and_true, implies_true]
  have k2 : forO (S := Empty) (k2__law_best_hold ls r2 (gre ls n)) () (rng 0 (ls.length : Int)) = .nx () := forO_unit _ fun x hx => by
    rw [mem_rng] at hx
    obtain ⟨i, rfl⟩ := Int.eq_ofNat_of_zero_le hx.1
    unfold k2__law_best_hold
    dsimp only
    rw [(i1 i (by omega)).1]
  have g2 : forG (kg2__law_best_hold ls r2 (gre ls n)) (k2__law_best_hold ls r2 (gre ls n)) () (rng 0 (ls.length : Int)) := forG_all _ fun x hx => by
    rw [mem_rng] at hx
    obtain ⟨i, rfl⟩ := Int.eq_ofNat_of_zero_le hx.1
    have cr2 : CRg ((i : Int) + 1) (ls.length : Int) := by unfold CRg; omega
    unfold kg2__law_best_hold
    simp only [(i1 i (by omega)).2, cr2, true_and, and_true, implies_true]
  -- lengths all alike
  obtain ⟨v, hv⟩ : ∃ v, ixD ls 0 = v := ⟨_, rfl⟩
  have av : 1 ≤ v ∧ v ≤ 60 := by
    have h0 : ixD ls ((0 : Nat) : Int) ∈ ls := ixD_mem (by omega) (by omega)
    have := h.e _ h0
    rw [show ixD ls ((0 : Nat) : Int) = v from hv] at this
    exact this
  have okr : Ls (List.replicate ls.length v) := ⟨by rw [List.length_replicate]; exact hl0, by rw [List.length_replicate]; exact hl1, fun x hx => by rw [List.eq_of_mem_replicate hx]; omega⟩
  obtain ⟨p1, p2⟩ := best_ok okr (n := n) (by omega)
  have posr := fun k hk => (okr.at k hk).1
  have ivr := gre_iv okr.l0 posr n
  have smr := gre_sum okr.l0 posr n
  have msr := gre_ms okr (n := n) (by omega)
  have row := even_row (xs := gre (List.replicate ls.length v) n) (by rw [ivr.len]; exact okr.l0) fun i j hij hj => by
    rw [ivr.len, List.length_replicate] at hj
    exact ivr.eq i j hij (by rw [List.length_replicate]; exact hj) (by rw [ixD_rep (by omega), ixD_rep hj])
  rw [smr, ivr.len] at row
  rw [List.length_replicate] at p1 p2 row
  have ci0 : CIx ls 0 := cix_of (by omega) (by omega)
  have cd : CDivW ((ls.length : Int) + (n : Int)) (ls.length : Int) := ⟨by omega, Nat.lt_trans (log2_lt (k := 62) (by omega)) (by decide)⟩
  have hm0 := Int.emod_nonneg ((ls.length : Int) + (n : Int)) (b := (ls.length : Int)) (by omega)
  have hm1 := Int.emod_lt_of_pos ((ls.length : Int) + (n : Int)) (b := (ls.length : Int)) (by omega)
  have S2 := law_same_TI_ok (x := gre (List.replicate ls.length v) n) (y := repI [((ls.length : Int) + (n : Int)) / (ls.length : Int) + 1] (((ls.length : Int) + (n : Int)) % (ls.length : Int)) ++ repI [((ls.length : Int) + (n : Int)) / (ls.length : Int)] ((ls.length : Int) - ((ls.length : Int) + (n : Int)) % (ls.length : Int))) (by
    obtain ⟨l, hl⟩ := Int.eq_ofNat_of_zero_le hm0
    obtain ⟨l2, hl2⟩ := Int.eq_ofNat_of_zero_le (show 0 ≤ (ls.length : Int) - ((ls.length : Int) + (n : Int)) % (ls.length : Int) by omega)
    rw [hl2, hl] at row
    rw [hl2, hl, repI_one, repI_one]
    exact row) (shw (by rw [ivr.len]; exact okr.l1) fun x hx => by have := msr.e x hx; omega)
  have lr1 : -1000000 ≤ (ls.length : Int) - 1 ∧ (ls.length : Int) - 1 ≤ 1000000 ∧ [(0 : Int)].length * ((ls.length : Int) - 1).toNat ≤ 16777216 := ⟨by omega, by omega, by rw [List.length_singleton]; omega⟩
  have h0L : (0 : Int) < (ls.length : Int) := by omega
  simp only [a1, b1, c1, c2, ac, d3, gm, e1, e2, S1.1, S1.2, f1, f2, cr, ci n (by omega), ci (n + 1) (by omega), df, srt1, er0, ev, k2, g2, hv, repI_one, p1, p2, ci0, cd, S2.1, S2.2, h0L, nx_all, nx_bind, true_and, and_true, implies_true, true_implies, false_implies, Bool.true_eq_false, Bool.false_eq_true, Bool.not_true, Bool.not_false, Bool.or_self, Bool.or_false, if_true, if_false, decide_true, ret_rt]
  refine ⟨⟨gm, ⟨fun x hx => ⟨ci (n + 1) (by omega) x hx, ci n (by omega) x hx⟩, lr1, by rw [List.length_replicate, List.length_singleton]; omega⟩, fun _ => ⟨⟨by omega, by omega, by rw [List.length_singleton]; omega⟩, ⟨by omega, by omega, by rw [List.length_singleton]; omega⟩, ⟨by omega, by omega, by rw [List.length_singleton]; omega⟩, by rw [repI_len, repI_len]; omega⟩⟩, b4⟩
/-! ### fuel -/
theorem fs_map {c : Rat} {f : LM → LM} {l : List LM} (h : ∀ x ∈ l, fu (f x).1 (f x).2 = fu x.1 x.2 * c) : fs (l.map f) = fs l * c := by
  unfold fs
  rw [List.map_map, ← rsum_map_mul]
  exact rsum_congr l h
theorem sL_map {c : Rat} {f : LM → LM} {l : List LM} (h : ∀ x ∈ l, ((f x).1 : Rat) = (x.1 : Rat) * c) : sL (l.map f) = sL l * c := by
  unfold sL
  rw [List.map_map, ← rsum_map_mul]
  exact rsum_congr l h
theorem sM_map {c : Rat} {f : LM → LM} {l : List LM} (h : ∀ x ∈ l, ((f x).2 : Rat) = (x.2 : Rat) * c) : sM (l.map f) = sM l * c := by
  unfold sM
  rw [List.map_map, ← rsum_map_mul]
  exact rsum_congr l h
theorem fu_far (l m c : Rat) : fu (l * c) m = fu l m * (c * c * c) := fu_mul l m c
theorem fu_slow {l m c : Rat} (hm : m ≠ 0) (hc : c ≠ 0) : fu l (m * c) = fu l m * (c * c)⁻¹ := by
  unfold fu
  grind
theorem fu_both {l m c : Rat} (hm : m ≠ 0) (hc : c ≠ 0) : fu (l * c) (m * c) = fu l m * c := by
  unfold fu
  grind
theorem pl_zip (ls ms : List Int) (c : Int) : (ls.map (· * c)).zip ms = (ls.zip ms).map (fun x => (x.1 * c, x.2)) ∧ ls.zip (ms.map (· * c)) = (ls.zip ms).map (fun x => (x.1, x.2 * c)) ∧ (ls.map (· * c)).zip (ms.map (· * c)) = (ls.zip ms).map (fun x => (x.1 * c, x.2 * c)) := by
  refine ⟨?_, ?_, ?_⟩
  · rw [List.zip_map_left]; rfl
  · rw [List.zip_map_right]; rfl
  · rw [List.zip_map]; rfl
theorem ws_both {l : List LM} {c : Int} (h : Pos l) (h0 : l ≠ []) (hc : 1 ≤ c) : ws (l.map fun x => (x.1 * c, x.2 * c)) = ws l * (c : Rat) := by
  have nc : (c : Rat) ≠ 0 := Rat.ne_of_gt (ipos hc)
  have nM : sM l ≠ 0 := Rat.ne_of_gt (sM_pos h0 h)
  unfold ws
  rw [fs_map (c := (c : Rat)) fun x hx => by
    rw [Rat.intCast_mul, Rat.intCast_mul]
    exact fu_both (Rat.ne_of_gt (ipos (h x hx).2)) nc, sL_map (c := (c : Rat)) fun x _ => Rat.intCast_mul .., sM_map (c := (c : Rat)) fun x _ => Rat.intCast_mul .., fu_both nM nc]
  grind
theorem je_const {ss : List Rat} {v : Rat} (h0 : ss ≠ []) (h : ∀ s ∈ ss, s = v) : je ss = (PySem.Str.ofString "even", c2 cI cI (qp v)) := by
  have hv : ss.headD 0 = v := by
    cases ss with
    | nil => exact absurd rfl h0
    | cons x xs => exact h x List.mem_cons_self
  have hf : (enum ss).find? (fun x => !decide (x.2 = ss.headD 0)) = none := by
    rw [List.find?_eq_none]
    intro x hx
    obtain ⟨k, hk, rfl⟩ := mem_enum hx
    rw [hv, h _ (List.getElem_mem hk)]
    simp
  unfold je
  rw [hf, hv]
theorem sps_e : Y.Sp 1 (.str (PySem.Str.ofString "even")) := Y.Sp.mono (sp_str (by decide +kernel)) (by decide)
theorem sps_u : Y.Sp 0 (.str (PySem.Str.ofString "uneven")) := sp_str (by decide +kernel)
theorem je_sp (ss : List Rat) : Y.Sp 3 (c2 cS cD (je ss)) := by
  unfold je
  cases (enum ss).find? (fun x => !decide (x.2 = ss.headD 0)) with
  | none => exact (sp_2 sps_e (sp_2 (sp_int _) (sp_int _))).mono (by decide)
  | some x => exact (sp_2 sps_u (sp_int _)).mono (by decide)
theorem fuel_holds_ok {ls : List Int} {t : St4} (h : Lt ls) (w : Wf t) : g__law_fuel_holds ((ls, ()), t) ∧ (m__law_fuel_holds ((ls, ()), t)).1 = true ∧ Wf (m__law_fuel_holds ((ls, ()), t)).2 := by
  have hl0 := h.l0
  have hl1 := h.l1
  have ok := h.ok
  obtain ⟨a1, a2, a3, a4⟩ := lcS_inv (g := cg1__law_fuel_holds) (f := c1__law_fuel_holds) Wf (fun x => 1 ≤ x ∧ x ≤ 20) ls t w fun s x hs _ => by
    obtain ⟨p1, p2, p3, p4⟩ := draw_ok (m := 20) hs (by decide) (by decide)
    unfold cg1__law_fuel_holds c1__law_fuel_holds
    dsimp only
    simp only [p1, true_and, and_true]
    exact ⟨by omega, p4⟩
  unfold g__law_fuel_holds m__law_fuel_holds o__law_fuel_holds
  dsimp only
  generalize lcS c1__law_fuel_holds t ls = r5 at a1 a2 a3 a4 ⊢
  obtain ⟨b1, b2, b3, b4⟩ := draw_ok (m := 5) a3 (by decide) (by decide)
  generalize m__law_draw ((5, ()), r5.2) = r6 at b1 b2 b3 b4 ⊢
  generalize r5.1 = ms at a2 a4 ⊢
  obtain ⟨c, hc⟩ : ∃ c, 2 + r6.1 = c := ⟨_, rfl⟩
  rw [hc]
  have c0 : 2 ≤ c := by omega
  have c1 : c ≤ 6 := by omega
  have bm : ∀ {x k : Int}, 1 ≤ x → x ≤ k → 1 ≤ x * c ∧ x * c ≤ k * 6 := fun {x k} p q => by
    have h1 : 1 * 1 ≤ x * c := Int.mul_le_mul p (by omega) (by decide) (by omega)
    have h2 : x * c ≤ k * 6 := Int.mul_le_mul q c1 (by omega) (by omega)
    omega
  have MS : Ms ls ms := ⟨a4, fun x hx => by have := a2 x hx; omega⟩
  have okm := h.mul (c := c) (by omega) (by omega)
  have MSm : Ms (ls.map (· * c)) ms := ⟨by rw [List.length_map]; exact a4, MS.e⟩
  have MSs : Ms ls (ms.map (· * c)) := ⟨by rw [List.length_map]; exact a4, fun x hx => by
    obtain ⟨y, hy, rfl⟩ := List.mem_map.mp hx
    have a := a2 y hy
    have b := bm a.1 a.2
    show 1 ≤ y * c ∧ y * c ≤ 900
    omega⟩
  have MSb : Ms (ls.map (· * c)) (ms.map (· * c)) := ⟨by rw [List.length_map, List.length_map]; exact a4, MSs.e⟩
  have MSl : Ms ls (ls.map (· * c)) := ⟨List.length_map .., fun x hx => by
    obtain ⟨y, hy, rfl⟩ := List.mem_map.mp hx
    have a := h.e y hy
    have b := bm a.1 a.2
    show 1 ≤ y * c ∧ y * c ≤ 900
    omega⟩
  have pz := zip_pos ok MS
  have nz := zip_ne ok MS
  have nc : (c : Rat) ≠ 0 := Rat.ne_of_gt (ipos (by omega))
  obtain ⟨z1, z2, z3⟩ := pl_zip ls ms c
  obtain ⟨f1, f2, f3⟩ := ffor_ok ok MS
  obtain ⟨g1, g2, g3⟩ := ffor_ok okm MSm
  obtain ⟨h1, h2, h3⟩ := ffor_ok ok MSs
  obtain ⟨i1, i2, i3⟩ := ffor_ok okm MSb
  have y1 : fs ((ls.map (· * c)).zip ms) = fs (ls.zip ms) * ((c * c * c : Int) : Rat) := by
    rw [z1]
    exact fs_map fun x hx => by rw [Rat.intCast_mul, Rat.intCast_mul, Rat.intCast_mul]; exact fu_far _ _ _
  have y2 : fs (ls.zip (ms.map (· * c))) = fs (ls.zip ms) * ((c * c : Int) : Rat)⁻¹ := by
    rw [z2]
    exact fs_map fun x hx => by rw [Rat.intCast_mul, Rat.intCast_mul]; exact fu_slow (Rat.ne_of_gt (ipos (pz x hx).2)) nc
  have y3 : fs ((ls.map (· * c)).zip (ms.map (· * c))) = fs (ls.zip ms) * (c : Rat) := by
    rw [z3]
    exact fs_map fun x hx => by rw [Rat.intCast_mul, Rat.intCast_mul]; exact fu_both (Rat.ne_of_gt (ipos (pz x hx).2)) nc
  have cc : c * c ≤ 6 * 6 := Int.mul_le_mul c1 c1 (by omega) (by decide)
  have cc0 : 2 * 2 ≤ c * c := Int.mul_le_mul c0 c0 (by decide) (by omega)
  have ccc : c * c * c ≤ 36 * 6 := Int.mul_le_mul (by omega) c1 (by omega) (by decide)
  have ccc0 : 4 * 2 ≤ c * c * c := Int.mul_le_mul (by omega) c0 (by decide) (by omega)
  have s1 : Sz 9 ((c * c * c : Int) : Rat) := .int (by show _ < 512; omega) (by decide)
  have s2 : Sz 9 ((c * c : Int) : Rat) := .int (by show _ < 512; omega) (by decide)
  have s3 : Sz 9 (c : Rat) := .int (by show _ < 512; omega) (by decide)
  have l1 := lmul_ok f3 s1 (by decide)
  have l2 := lmul_ok f3 (s2.inv (Rat.ne_of_gt (ipos (by omega)))) (by decide)
  have l3 := lmul_ok f3 s3 (by decide)
  have sq : ∀ {k : Nat} r, Sz k r → k ≤ 1800 → Sw 3809 1 (c2 cI cI (qp r)) := fun r z hk => sw_qp z hk
  have S1 := law_same_LQ_ok (x := [qp (fs ((ls.map (· * c)).zip ms)), qp (fs (ls.zip (ms.map (· * c)))), qp (fs ((ls.map (· * c)).zip (ms.map (· * c))))]) (y := [qp (fs (ls.zip ms) * ((c * c * c : Int) : Rat)), qp (fs (ls.zip ms) * ((c * c : Int) : Rat)⁻¹), qp (fs (ls.zip ms) * (c : Rat))]) (by rw [y1, y2, y3]) ((sw_L (n := 3809) (k := 1) 3 (by simp) fun x hx => by
    simp only [List.mem_cons, List.not_mem_nil, or_false] at hx
    rcases hx with rfl | rfl | rfl
    · exact sq _ g3 (by decide)
    · exact sq _ h3 (by decide)
    · exact sq _ i3 (by decide)).shw (by decide) (by decide))
  -- wasted
  obtain ⟨w1, w2, w3⟩ := fw_ok ok MS
  obtain ⟨j1, j2⟩ := judge_ok ok MS
  have b1' := sum_bd (c := 60) (by decide) ls h.e
  have b2' := sum_bd (c := 20) (by decide) ms a2
  rw [a4] at b2'
  have lsn : ls.sum ^ (3 : Int).toNat = ls.sum * ls.sum * ls.sum := by
    show ls.sum ^ 3 = _
    rw [Int.pow_succ, Int.pow_succ, Int.pow_succ, Int.pow_zero, Int.one_mul]
  have msn : ms.sum ^ (2 : Int).toNat = ms.sum * ms.sum := by
    show ms.sum ^ 2 = _
    rw [Int.pow_succ, Int.pow_succ, Int.pow_zero, Int.one_mul]
  have cp1 : CPow ls.sum 3 := ⟨by decide, by decide, Nat.lt_of_lt_of_le (show _ < 2 ^ 10 by show _ < 1024; omega) (by decide)⟩
  have cp2 : CPow ms.sum 2 := ⟨by decide, by decide, Nat.lt_of_lt_of_le (show _ < 2 ^ 10 by show _ < 1024; omega) (by decide)⟩
  have msp : 0 < ms.sum * ms.sum := Int.mul_pos (by omega) (by omega)
  have msz : (ms.sum * ms.sum).natAbs < 2 ^ 20 := mul_abs (k := 10) (l := 10) (by show _ < 1024; omega) (by show _ < 1024; omega)
  have lw := low_ok (a := ls.sum * ls.sum * ls.sum) msp msz (by decide)
  have ez1 : (ls.zip ms).map (fun x => x.1) = ls := List.map_fst_zip (by omega)
  have ez2 : (ls.zip ms).map (fun x => x.2) = ms := List.map_snd_zip (by omega)
  have cs := sum_cast (ls.zip ms)
  rw [ez1, ez2] at cs
  have ewh : Rat.divInt (ls.sum * ls.sum * ls.sum) (ms.sum * ms.sum) = fu (sL (ls.zip ms)) (sM (ls.zip ms)) := by
    rw [Rat.divInt_eq_div, cs.1, cs.2, Rat.intCast_mul, Rat.intCast_mul, Rat.intCast_mul]
    rfl
  rw [ewh] at lw
  have swh : Sz 39 (fu (sL (ls.zip ms)) (sM (ls.zip ms))) := by
    rw [cs.1, cs.2]
    exact (fuel_ok (by omega) (by omega) (by omega) (by omega)).2.2
  have lp := lplus_ok w3 swh (by decide)
  have eqs : ws (ls.zip ms) + fu (sL (ls.zip ms)) (sM (ls.zip ms)) = fs (ls.zip ms) := by
    unfold ws
    exact Rat.sub_add_cancel
  rw [eqs] at lp
  have S2 := law_same_Q_ok (x := qp (fs (ls.zip ms))) rfl ((sq _ f3 (by decide)).shw (by decide) (by decide))
  have wn := num_nn (ws_nn nz pz)
  have d1 : decide ((qp (ws (ls.zip ms))).1 < 0) = false := decide_eq_false (show ¬ (ws (ls.zip ms)).num < 0 by omega)
  have d2 : decide (decide ((qp (ws (ls.zip ms))).1 = 0) = decide ((je ((ls.zip ms).map sp)).1 = PySem.Str.ofString "even")) = true := by
    refine decide_eq_true ?_
    rw [je_even]
    refine decide_eq_decide.mpr ?_
    show (ws (ls.zip ms)).num = 0 ↔ _
    rw [Rat.num_eq_zero]
    cases hz : ls.zip ms with
    | nil => exact absurd hz nz
    | cons x0 l =>
      rw [hz] at pz
      rw [ws_even pz]
      constructor
      · intro q s hs
        obtain ⟨x, hx, rfl⟩ := List.mem_map.mp hs
        exact q x hx
      · intro q x hx
        exact q _ (List.mem_map_of_mem hx)
  obtain ⟨u1, u2, u3⟩ := fw_ok okm MSb
  have ub : ws ((ls.map (· * c)).zip (ms.map (· * c))) = ws (ls.zip ms) * (c : Rat) := by
    rw [z3]
    exact ws_both pz nz (by omega)
  have lm := lmul_ok w3 s3 (by decide)
  have S3 := law_same_Q_ok (x := qp (ws ((ls.map (· * c)).zip (ms.map (· * c))))) (y := qp (ws (ls.zip ms) * (c : Rat))) (by rw [ub]) ((sq _ u3 (by decide)).shw (by decide) (by decide))
  obtain ⟨v1, v2⟩ := judge_ok okm MSb
  have ejb : je (((ls.map (· * c)).zip (ms.map (· * c))).map sp) = je ((ls.zip ms).map sp) := by
    rw [z3, List.map_map]
    congr 1
    refine List.map_congr_left fun x hx => ?_
    have n2 : (x.2 : Rat) ≠ 0 := Rat.ne_of_gt (ipos (pz x hx).2)
    show ((x.1 * c : Int) : Rat) / ((x.2 * c : Int) : Rat) = (x.1 : Rat) / x.2
    rw [Rat.intCast_mul, Rat.intCast_mul]
    grind
  rw [ejb] at v2
  have spj := je_sp ((ls.zip ms).map sp)
  have ej : PyData.eqv (c2 cS cD (je ((ls.zip ms).map sp))) (c2 cS cD (je ((ls.zip ms).map sp))) = true := PySem.SeqAt.eqv_refl _ spj.l
  have shj := spj.ok
  -- one speed
  obtain ⟨q1, q2⟩ := judge_ok ok MSl
  obtain ⟨x1, x2, x3⟩ := fw_ok ok MSl
  have pzl := zip_pos ok MSl
  have nzl := zip_ne ok MSl
  have alls : ∀ x ∈ ls.zip (ls.map (· * c)), (x.1 : Rat) / x.2 = (c : Rat)⁻¹ := fun x hx => by
    obtain ⟨k, hk, rfl⟩ := List.mem_iff_getElem.mp hx
    rw [List.getElem_zip, List.getElem_map]
    have hk' : k < ls.length := by rw [List.length_zip] at hk; omega
    have n2 : ((ls[k] : Int) : Rat) ≠ 0 := Rat.ne_of_gt (ipos (h.e _ (List.getElem_mem hk')).1)
    show ((ls[k] : Int) : Rat) / ((ls[k] * c : Int) : Rat) = _
    rw [Rat.intCast_mul]
    grind
  have ejl : je ((ls.zip (ls.map (· * c))).map sp) = (PySem.Str.ofString "even", c2 cI cI ((1 : Int), c)) := by
    rw [je_const (v := (c : Rat)⁻¹) (fun e => nzl (List.map_eq_nil_iff.mp e)) fun s hs => by
      obtain ⟨x, hx, rfl⟩ := List.mem_map.mp hs
      exact alls x hx, qp_inv (by omega)]
  have spl := je_sp ((ls.zip (ls.map (· * c))).map sp)
  rw [ejl] at q2 spl
  have ejl2 : PyData.eqv (c2 cS cD (PySem.Str.ofString "even", c2 cI cI ((1 : Int), c))) (c2 cS cD (PySem.Str.ofString "even", c2 cI cI ((1 : Int), c))) = true := PySem.SeqAt.eqv_refl _ spl.l
  have shl := spl.ok
  have w0 : ws (ls.zip (ls.map (· * c))) = 0 := by
    cases hz : ls.zip (ls.map (· * c)) with
    | nil => exact absurd hz nzl
    | cons x0 l =>
      rw [hz] at pzl alls
      rw [ws_even pzl]
      intro x hx
      rw [alls x hx, alls x0 List.mem_cons_self]
  rw [w0] at x2
  have eq0 : PyData.eqv (c2 cI cI (qp 0)) (c2 cI cI ((0 : Int), (1 : Int))) = true := eqv_T (cq_2 cq_I cq_I) _
  have gm : ∀ x ∈ ls, CMul x c := fun x hx => by
    have := h.e x hx
    exact cmsm _ (by omega) (by omega)
  have gs : ∀ x ∈ ms, CMul x c := fun x hx => by
    have := a2 x hx
    exact cmsm _ (by omega) (by omega)
  have m1 : CMul c c := cmsm _ (by omega) (by omega)
  have m2 : CMul (c * c) c := cmsm _ (by omega) (by omega)
  have qi := qp_inv (n := c * c) (by omega)
  simp only [a1, b1, f1, f2, g1, g2, h1, h2, i1, i2, qp_int, qi, l1.1, l1.2, l2.1, l2.2, l3.1, l3.2, S1.1, S1.2, w1, w2, j1, j2, lsn, msn, cp1, cp2, lw.1, lw.2, lp.1, lp.2, S2.1, S2.2, d1, d2, u1, u2, lm.1, lm.2, S3.1, S3.2, v1, v2, ej, shj, q1, q2, x1, x2, m1, m2, true_and, and_true, implies_true, true_implies, false_implies, Bool.true_eq_false, Bool.false_eq_true, Bool.not_true, Bool.not_false, Bool.or_self, Bool.or_false, Bool.and_self, if_true, if_false, decide_true, ret_rt]
  exact ⟨⟨⟨gm, gs⟩, ⟨gm, shl, shl⟩, fun _ => gm⟩, by rw [ejl2, Bool.true_and]; exact eq0, b4⟩
/-! ### a minute moved -/
theorem moved_fn {ls ms : List Int} (h : Ls ls) (hm : Ms ls ms) {i j : Nat} (hi : i < ls.length) (hj : j < ls.length) (hij : i ≠ j) (h1 : 2 ≤ ixD ms (i : Int)) : g_minute_moved (ls, ms, (i : Int), (j : Int), ()) ∧ m_minute_moved (ls, ms, (i : Int), (j : Int), ()) = qp (ga (ixD ls (j : Int)) (ixD ms (j : Int)) - ga (ixD ls (i : Int)) (ixD ms (i : Int) - 1)) ∧ Sz 159 (ga (ixD ls (j : Int)) (ixD ms (j : Int)) - ga (ixD ls (i : Int)) (ixD ms (i : Int) - 1)) := by
  have li := h.at i hi
  have lj := h.at j hj
  have mi := hm.at i hi
  have mj := hm.at j hj
  have ci1 : CIx ls (i : Int) := cix_of (by omega) (by omega)
  have ci2 : CIx ls (j : Int) := cix_of (by omega) (by omega)
  have ci3 : CIx ms (i : Int) := cix_of (by omega) (by rw [hm.len]; omega)
  have ci4 : CIx ms (j : Int) := cix_of (by omega) (by rw [hm.len]; omega)
  obtain ⟨a1, a2, a3⟩ := gain_ok (l := ixD ls (j : Int)) (m := ixD ms (j : Int)) lj.1 (by omega) mj.1 (by omega)
  obtain ⟨b1, b2, b3⟩ := gain_ok (l := ixD ls (i : Int)) (m := ixD ms (i : Int) - 1) li.1 (by omega) (by omega) (by omega)
  have d := minus_ok a3 b3 (by decide)
  have e1 : decide (ixD ms (i : Int) = 1) = false := decide_eq_false (by omega)
  have e2 : decide (ixD ms (j : Int) = 1000) = false := decide_eq_false (by omega)
  have e3 : decide ((i : Int) = (j : Int)) = false := decide_eq_false (by omega)
  have lp : forN (kg1_minute_moved ls) k1_minute_moved () [(PySem.Str.ofString "one", (i : Int)), (PySem.Str.ofString "other", (j : Int))] := forN_all _ _ fun t x hx => by
    have q : 0 ≤ x.2 ∧ x.2 < (ls.length : Int) := by
      simp only [List.mem_cons, List.not_mem_nil, or_false] at hx
      rcases hx with rfl | rfl
      · show 0 ≤ (i : Int) ∧ (i : Int) < _; omega
      · show 0 ≤ (j : Int) ∧ (j : Int) < _; omega
    unfold kg1_minute_moved
    simp only [m_isint, g_isint, decide_eq_true q.1, decide_eq_true q.2, true_and, and_true, implies_true, Bool.not_true, Bool.and_self, Bool.or_self]
  unfold g_minute_moved m_minute_moved o_minute_moved
  simp only [g_mins h hm, lp, ci1, ci2, ci3, ci4, e1, e2, e3, a1, a2, b1, b2, d.1, d.2, true_and, and_true, implies_true, Bool.or_self, ret_rt]
  exact a3.sub b3
def fk (ls ms : List Int) (k : Nat) : Rat := fu ((ixD ls (k : Int) : Int) : Rat) ((ixD ms (k : Int) : Int) : Rat)
theorem fs_range {ls ms : List Int} (hl : ms.length = ls.length) : fs (ls.zip ms) = rsum ((List.range ls.length).map fun k => fk ls ms k) := by
  unfold fs
  congr 1
  refine List.ext_getElem? fun k => ?_
  by_cases hk : k < ls.length
  · have hk2 : k < ms.length := by omega
    rw [List.getElem?_map, List.getElem?_map, List.getElem?_range hk, List.getElem?_eq_getElem (by rw [List.length_zip]; omega), List.getElem_zip]
    have e1 : ixD ls (k : Int) = ls[k] := ixD_of (List.getElem?_eq_getElem hk)
    have e2 : ixD ms (k : Int) = ms[k] := ixD_of (List.getElem?_eq_getElem hk2)
    show some (fu (ls[k] : Int) (ms[k] : Int)) = some (fk ls ms k)
    unfold fk
    rw [e1, e2]
  · rw [List.getElem?_eq_none (by rw [List.length_map, List.length_zip]; omega), List.getElem?_eq_none (by rw [List.length_map, List.length_range]; omega)]
theorem moved_hold_ok {ls : List Int} {t : St4} (h : Lt ls) (w : Wf t) : g__law_moved_hold ((ls, ()), t) ∧ (m__law_moved_hold ((ls, ()), t)).1 = true ∧ Wf (m__law_moved_hold ((ls, ()), t)).2 := by
  have hl0 := h.l0
  have hl1 := h.l1
  have ok := h.ok
  obtain ⟨a1, a2, a3, a4⟩ := lcS_inv (g := cg1__law_moved_hold) (f := c1__law_moved_hold) Wf (fun x => 2 ≤ x ∧ x ≤ 21) ls t w fun s x hs _ => by
    obtain ⟨p1, p2, p3, p4⟩ := draw_ok (m := 20) hs (by decide) (by decide)
    unfold cg1__law_moved_hold c1__law_moved_hold
    dsimp only
    simp only [p1, true_and, and_true]
    exact ⟨by omega, p4⟩
  unfold g__law_moved_hold m__law_moved_hold o__law_moved_hold
  dsimp only
  generalize lcS c1__law_moved_hold t ls = r5 at a1 a2 a3 a4 ⊢
  generalize r5.1 = ms at a2 a4 ⊢
  by_cases one : (ls.length : Int) = 1
  · simp only [a1, one, decide_true, true_and, and_true, true_implies, Bool.true_eq_false, false_implies, implies_true, if_true, ret_rt]
    exact a3
  have d1 : decide ((ls.length : Int) = 1) = false := decide_eq_false one
  obtain ⟨b1, b2, b3, b4⟩ := draw_ok (m := (ls.length : Int)) a3 (by omega) (by omega)
  generalize m__law_draw (((ls.length : Int), ()), r5.2) = r7 at b1 b2 b3 b4 ⊢
  obtain ⟨e1, e2, e3, e4⟩ := draw_ok (m := (ls.length : Int) - 1) b4 (by omega) (by omega)
  generalize m__law_draw (((ls.length : Int) - 1, ()), r7.2) = r9 at e1 e2 e3 e4 ⊢
  obtain ⟨i, hi⟩ := Int.eq_ofNat_of_zero_le b2
  rw [hi]
  have oth : ∃ j : Nat, ((i : Int) + 1 + r9.1) % (ls.length : Int) = (j : Int) ∧ j < ls.length ∧ i ≠ j := by
    by_cases c : (i : Int) + 1 + r9.1 < (ls.length : Int)
    · refine ⟨((i : Int) + 1 + r9.1).toNat, ?_, by omega, by omega⟩
      rw [Int.emod_eq_of_lt (by omega) c]
      omega
    · refine ⟨((i : Int) + 1 + r9.1 - (ls.length : Int)).toNat, ?_, by omega, by omega⟩
      rw [← Int.sub_emod_right, Int.emod_eq_of_lt (by omega) (by omega)]
      omega
  obtain ⟨j, hj, j1, hij⟩ := oth
  rw [hj]
  have i1 : i < ls.length := by omega
  have MS : Ms ls ms := ⟨a4, fun x hx => by have := a2 x hx; omega⟩
  have at_ : ∀ k, k < ls.length → 2 ≤ ixD ms (k : Int) ∧ ixD ms (k : Int) ≤ 21 := fun k hk => by
    rw [ixD_of (List.getElem?_eq_getElem (by omega))]
    exact a2 _ (List.getElem_mem _)
  have cr : CRg 0 (ls.length : Int) := by unfold CRg; omega
  have ci : ∀ x ∈ rng 0 (ls.length : Int), CIx ms x := fun x hx => by
    rw [mem_rng] at hx
    exact cix_of (by omega) (by omega)
  obtain ⟨mv, hmv⟩ : ∃ mv, (rng 0 (ls.length : Int)).map (fun x11 => if decide (x11 = (i : Int)) = true then ixD ms x11 - 1 else if decide (x11 = (j : Int)) = true then ixD ms x11 + 1 else ixD ms x11) = mv := ⟨_, rfl⟩
  have lmv : mv.length = ls.length := by rw [← hmv, List.length_map, rng_length]; omega
  have mat : ∀ k, k < ls.length → ixD mv (k : Int) = if k = i then ixD ms (k : Int) - 1 else if k = j then ixD ms (k : Int) + 1 else ixD ms (k : Int) := fun k hk => ixD_of (by
    rw [← hmv, rng_eq, List.map_map, List.getElem?_map, List.getElem?_range hk]
    show some (if decide ((k : Int) = (i : Int)) = true then _ else if decide ((k : Int) = (j : Int)) = true then _ else _) = _
    by_cases c1 : k = i
    · rw [if_pos c1, if_pos (decide_eq_true (by omega))]
    · rw [if_neg c1, if_neg (by rw [decide_eq_false (by omega)]; exact Bool.false_ne_true)]
      by_cases c2 : k = j
      · rw [if_pos c2, if_pos (decide_eq_true (by omega))]
      · rw [if_neg c2, if_neg (by rw [decide_eq_false (by omega)]; exact Bool.false_ne_true)])
  have MV : Ms ls mv := ⟨lmv, fun x hx => by
    obtain ⟨k, hk, rfl⟩ := List.mem_iff_getElem.mp hx
    have e := mat k (by omega)
    rw [ixD_of (List.getElem?_eq_getElem hk)] at e
    rw [e]
    have a := at_ k (by omega)
    split
    · omega
    · split <;> omega⟩
  have mi := mat i i1
  have mj := mat j j1
  rw [if_pos rfl] at mi
  rw [if_neg (fun q => hij q.symm), if_pos rfl] at mj
  have ai := at_ i i1
  have aj := at_ j j1
  obtain ⟨f1, f2, f3⟩ := moved_fn ok MS i1 j1 hij ai.1
  obtain ⟨g1, g2, g3⟩ := moved_fn ok MV j1 i1 (fun q => hij q.symm) (by omega)
  rw [mi, mj, Int.add_sub_cancel] at g2 g3
  generalize hA : ga (ixD ls (j : Int)) (ixD ms (j : Int)) = A at f2 f3 g2 g3
  generalize hB : ga (ixD ls (i : Int)) (ixD ms (i : Int) - 1) = B' at f2 f3 g2 g3
  have en : ((0 : Int) - (qp (A - B')).1, (qp (A - B')).2) = qp (B' - A) := by
    have e : B' - A = -(A - B') := by grind
    rw [e]
    exact qp_neg _
  have sq : ∀ {k : Nat} r, Sz k r → k ≤ 1800 → Sw 3809 1 (c2 cI cI (qp r)) := fun r z hk => sw_qp z hk
  have S1 := law_same_Q_ok (x := qp (B' - A)) rfl ((sq _ g3 (by decide)).shw (by decide) (by decide))
  obtain ⟨u1, u2, u3⟩ := ffor_ok ok MS
  obtain ⟨v1, v2, v3⟩ := ffor_ok ok MV
  have lp := lplus_ok v3 f3 (by decide)
  have ef : fs (ls.zip mv) + (A - B') = fs (ls.zip ms) := by
    rw [fs_range lmv, fs_range a4]
    have r2 := rsum_two (g := fun k => fk ls ms k) (g' := fun k => if k < ls.length then fk ls mv k else fk ls ms k) hij i1 j1 fun k k1 k2 => by
      by_cases c : k < ls.length
      · rw [if_pos c]
        unfold fk
        rw [mat k c, if_neg k1, if_neg k2]
      · rw [if_neg c]
    have cg : (List.range ls.length).map (fun k => if k < ls.length then fk ls mv k else fk ls ms k) = (List.range ls.length).map fun k => fk ls mv k := List.map_congr_left fun k hk => if_pos (List.mem_range.mp hk)
    have p1 : fk ls mv i = fu ((ixD ls (i : Int) : Int) : Rat) ((ixD ms (i : Int) - 1 : Int) : Rat) := by unfold fk; rw [mi]
    have p2 : fk ls mv j = fu ((ixD ls (j : Int) : Int) : Rat) ((ixD ms (j : Int) + 1 : Int) : Rat) := by unfold fk; rw [mj]
    rw [cg, if_pos i1, if_pos j1, p1, p2] at r2
    rw [r2, ← hA, ← hB]
    unfold ga fk
    rw [Int.sub_add_cancel]
    grind
  rw [ef] at lp
  have S2 := law_same_Q_ok (x := qp (fs (ls.zip ms))) rfl ((sq _ u3 (by decide)).shw (by decide) (by decide))
  have h0L : (0 : Int) < (ls.length : Int) := by omega
  simp only [a1, d1, b1, e1, cr, hmv, f1, f2, g1, g2, en, S1.1, S1.2, u1, u2, v1, v2, lp.1, lp.2, S2.1, S2.2, h0L, true_and, and_true, implies_true, true_implies, false_implies, Bool.true_eq_false, Bool.false_eq_true, Bool.not_true, Bool.not_false, if_true, if_false, ret_rt]
  exact ⟨fun x hx => ⟨fun _ => ci x hx, fun _ => ⟨fun _ => ci x hx, fun _ => ci x hx⟩⟩, e4⟩
/-! ### the law -/
theorem lengths_ok {t : St4} (w : Wf t) : g__law_lengths ((), t) ∧ Lt (m__law_lengths ((), t)).1 ∧ Wf (m__law_lengths ((), t)).2 := by
  have cr2 : CRg 0 2 := by unfold CRg; omega
  obtain ⟨a1, a2, a3, a4⟩ := lcS_inv (g := cg1__law_lengths) (f := c1__law_lengths) Wf (fun x => 1 ≤ x ∧ x ≤ 30) (rng 0 2) t w fun s x hs _ => by
    obtain ⟨p1, p2, p3, p4⟩ := draw_ok (m := 30) hs (by decide) (by decide)
    unfold cg1__law_lengths c1__law_lengths
    dsimp only
    simp only [p1, true_and, and_true]
    exact ⟨by omega, p4⟩
  unfold g__law_lengths m__law_lengths o__law_lengths
  dsimp only
  generalize lcS c1__law_lengths t (rng 0 2) = r5 at a1 a2 a3 a4 ⊢
  have l2 : r5.1.length = 2 := a4
  have ne : r5.1 ≠ [] := fun e => by rw [e] at a4; cases a4
  obtain ⟨b1, b2, b3, b4⟩ := draw_ok (m := 5) a3 (by decide) (by decide)
  generalize m__law_draw ((5, ()), r5.2) = r7 at b1 b2 b3 b4 ⊢
  have cr : CRg 0 (1 + r7.1) := by unfold CRg; omega
  obtain ⟨d1, d2, d3, d4⟩ := lcS_inv (g := cg2__law_lengths r5.1) (f := c2__law_lengths r5.1) Wf (fun x => 1 ≤ x ∧ x ≤ 60) (rng 0 (1 + r7.1)) r7.2 b4 fun s x hs _ => by
    obtain ⟨q1, q2, q3, q4⟩ := draw_ok (m := 2) hs (by decide) (by decide)
    unfold cg2__law_lengths c2__law_lengths
    dsimp only
    generalize m__law_draw ((2, ()), s) = r18 at q1 q2 q3 q4 ⊢
    cases k : decide (r18.1 = (0 : Int)) with
    | true =>
      obtain ⟨p1, p2, p3⟩ := law_pick_LI_ok q4 ne (by omega)
      simp only [q1, p1, true_and, and_true, implies_true, true_implies, Bool.true_eq_false, false_implies, if_true]
      have := a2 _ p2
      exact ⟨by omega, p3⟩
    | false =>
      obtain ⟨p1, p2, p3, p4⟩ := draw_ok (m := 60) q4 (by decide) (by decide)
      simp only [q1, p1, true_and, and_true, implies_true, true_implies, Bool.false_eq_true, false_implies, if_false]
      exact ⟨by omega, p4⟩
  generalize lcS (c2__law_lengths r5.1) r7.2 (rng 0 (1 + r7.1)) = r20 at d1 d2 d3 d4 ⊢
  rw [rng_length] at d4
  simp only [a1, b1, d1, cr, cr2, true_and, and_true, ret_rt]
  exact ⟨⟨by omega, by omega, d2⟩, d3⟩
theorem turn_ok {t : St4} (w : Wf t) (x : Int) : kg1_law (t, x) ∧ ∃ t', k1_law (t, x) = .nx t' ∧ Wf t' := by
  obtain ⟨a1, a2, a3⟩ := lengths_ok w
  unfold kg1_law k1_law
  dsimp only
  generalize m__law_lengths ((), t) = r3 at a1 a2 a3 ⊢
  obtain ⟨b1, b2, b3⟩ := best_hold_ok a2 a3
  generalize m__law_best_hold ((r3.1, ()), r3.2) = r4 at b1 b2 b3 ⊢
  obtain ⟨d1, d2, d3⟩ := fuel_holds_ok a2 b3
  generalize m__law_fuel_holds ((r3.1, ()), r4.2) = r5 at d1 d2 d3 ⊢
  obtain ⟨e1, e2, e3⟩ := moved_hold_ok a2 d3
  generalize m__law_moved_hold ((r3.1, ()), r5.2) = r6 at e1 e2 e3 ⊢
  simp only [a1, b1, b2, d1, d2, e1, e2, true_and, and_true, implies_true, true_implies, Bool.not_true, Bool.or_self, Bool.false_eq_true, if_false]
  exact ⟨_, rfl, e3⟩
theorem law_ok : ∀ t, Wf t → g_law t ∧ o_law t = .rt true := by
  intro t w
  have cr : CRg 0 5 := by unfold CRg; omega
  unfold g_law o_law
  simp only [cr, true_and, and_true, implies_true]
  exact ⟨forG_use Wf w fun t x ht _ => turn_ok ht x, forO_use Wf (Z := fun o : Out St4 Bool Empty => Out.bind o _ = Out.rt true) w (fun t x ht _ => (turn_ok ht x).2) fun t' _ => rfl⟩
end Z
namespace Z
open PySem PySem.Spec PyProof.Rows L2 Y
theorem all_mk {l : PySem.W.OpenLaw} {w : World} {K : Y.Frag} {h : Heap} {mg : Str → Option Value} {fa : Addr} (X : K.In h) (G : h.Ns mainGlobals mg) (hfa : mg "law" = some (.ref fa)) {f5 f10 f11 f12 f13 f14 f15 f17 f18 f19 f20 f21 f22 f23 f24 f25 f26 f27 f29 f30 f31 f32 f33 f34 f35 f36 f37 f38 f39 f40 : Addr} {od5 an5 od10 an10 od11 an11 od12 an12 od13 an13 od14 an14 od15 an15 od17 an17 od18 an18 od19 an19 od20 an20 od21 an21 od22 an22 od23 an23 od24 an24 od25 an25 od26 an26 od27 an27 od29 an29 od30 an30 od31 an31 od32 an32 od33 an33 od34 an34 od35 an35 od36 an36 od37 an37 od38 an38 od39 an39 od40 an40 : Option Addr} {sl5 sl10 sl11 sl12 sl13 sl14 sl15 sl17 sl18 sl19 sl20 sl21 sl22 sl23 sl24 sl25 sl26 sl27 sl29 sl30 sl31 sl32 sl33 sl34 sl35 sl36 sl37 sl38 sl39 sl40 : Array (Option Value)} {oc5 kV5 dc5 pm5 cd5 ct5 oc10 kV10 dc10 pm10 cd10 ct10 oc11 kV11 dc11 pm11 cd11 ct11 oc12 kV12 dc12 pm12 cd12 ct12 oc13 kV13 dc13 pm13 cd13 ct13 oc14 kV14 dc14 pm14 cd14 ct14 oc15 kV15 dc15 pm15 cd15 ct15 oc17 kV17 dc17 pm17 cd17 ct17 oc18 kV18 dc18 pm18 cd18 ct18 oc19 kV19 dc19 pm19 cd19 ct19 oc20 kV20 dc20 pm20 cd20 ct20 oc21 kV21 dc21 pm21 cd21 ct21 oc22 kV22 dc22 pm22 cd22 ct22 oc23 kV23 dc23 pm23 cd23 ct23 oc24 kV24 dc24 pm24 cd24 ct24 oc25 kV25 dc25 pm25 cd25 ct25 oc26 kV26 dc26 pm26 cd26 ct26 oc27 kV27 dc27 pm27 cd27 ct27 oc29 kV29 dc29 pm29 cd29 ct29 oc30 kV30 dc30 pm30 cd30 ct30 oc31 kV31 dc31 pm31 cd31 ct31 oc32 kV32 dc32 pm32 cd32 ct32 oc33 kV33 dc33 pm33 cd33 ct33 oc34 kV34 dc34 pm34 cd34 ct34 oc35 kV35 dc35 pm35 cd35 ct35 oc36 kV36 dc36 pm36 cd36 ct36 oc37 kV37 dc37 pm37 cd37 ct37 oc38 kV38 dc38 pm38 cd38 ct38 oc39 kV39 dc39 pm39 cd39 ct39 oc40 kV40 dc40 pm40 cd40 ct40 : Value} {t_MAX_LEGS : Tok} {t_MAX_LENGTH : Tok} {t_MAX_MINUTES : Tok} (a5 : PySem.W.nsIn K mainGlobals "is_integer" = some (some (.ref f5))) (l5 : K.lookup f5 = some ⟨oc5, od5, .func (PySem.W.fnOf "is_integer" "is_integer" (defArgs (topS 5)) (defBody (topS 5)) (defScope (topS 5)) .none kV5 dc5 pm5 an5 cd5 ct5), sl5⟩) (c5 : PySem.W.codeIn K cd5 "is_integer" = true) (k5 : PySem.W.keepIn K (.ref f5) = true) (a10 : PySem.W.nsIn K mainGlobals "greatest_divisor" = some (some (.ref f10))) (l10 : K.lookup f10 = some ⟨oc10, od10, .func (PySem.W.fnOf "greatest_divisor" "greatest_divisor" (defArgs (topS 10)) (defBody (topS 10)) (defScope (topS 10)) .none kV10 dc10 pm10 an10 cd10 ct10), sl10⟩) (c10 : PySem.W.codeIn K cd10 "greatest_divisor" = true) (k10 : PySem.W.keepIn K (.ref f10) = true) (a11 : PySem.W.nsIn K mainGlobals "quotient" = some (some (.ref f11))) (l11 : K.lookup f11 = some ⟨oc11, od11, .func (PySem.W.fnOf "quotient" "quotient" (defArgs (topS 11)) (defBody (topS 11)) (defScope (topS 11)) .none kV11 dc11 pm11 an11 cd11 ct11), sl11⟩) (c11 : PySem.W.codeIn K cd11 "quotient" = true) (k11 : PySem.W.keepIn K (.ref f11) = true) (a12 : PySem.W.nsIn K mainGlobals "plus" = some (some (.ref f12))) (l12 : K.lookup f12 = some ⟨oc12, od12, .func (PySem.W.fnOf "plus" "plus" (defArgs (topS 12)) (defBody (topS 12)) (defScope (topS 12)) .none kV12 dc12 pm12 an12 cd12 ct12), sl12⟩) (c12 : PySem.W.codeIn K cd12 "plus" = true) (k12 : PySem.W.keepIn K (.ref f12) = true) (a13 : PySem.W.nsIn K mainGlobals "minus" = some (some (.ref f13))) (l13 : K.lookup f13 = some ⟨oc13, od13, .func (PySem.W.fnOf "minus" "minus" (defArgs (topS 13)) (defBody (topS 13)) (defScope (topS 13)) .none kV13 dc13 pm13 an13 cd13 ct13), sl13⟩) (c13 : PySem.W.codeIn K cd13 "minus" = true) (k13 : PySem.W.keepIn K (.ref f13) = true) (a14 : PySem.W.nsIn K mainGlobals "is_less" = some (some (.ref f14))) (l14 : K.lookup f14 = some ⟨oc14, od14, .func (PySem.W.fnOf "is_less" "is_less" (defArgs (topS 14)) (defBody (topS 14)) (defScope (topS 14)) .none kV14 dc14 pm14 an14 cd14 ct14), sl14⟩) (c14 : PySem.W.codeIn K cd14 "is_less" = true) (k14 : PySem.W.keepIn K (.ref f14) = true) (a15 : PySem.W.nsIn K mainGlobals "sum_of" = some (some (.ref f15))) (l15 : K.lookup f15 = some ⟨oc15, od15, .func (PySem.W.fnOf "sum_of" "sum_of" (defArgs (topS 15)) (defBody (topS 15)) (defScope (topS 15)) .none kV15 dc15 pm15 an15 cd15 ct15), sl15⟩) (c15 : PySem.W.codeIn K cd15 "sum_of" = true) (k15 : PySem.W.keepIn K (.ref f15) = true) (a17 : PySem.W.nsIn K mainGlobals "check_lengths" = some (some (.ref f17))) (l17 : K.lookup f17 = some ⟨oc17, od17, .func (PySem.W.fnOf "check_lengths" "check_lengths" (defArgs (topS 17)) (defBody (topS 17)) (defScope (topS 17)) .none kV17 dc17 pm17 an17 cd17 ct17), sl17⟩) (c17 : PySem.W.codeIn K cd17 "check_lengths" = true) (k17 : PySem.W.keepIn K (.ref f17) = true) (a18 : PySem.W.nsIn K mainGlobals "are_minutes" = some (some (.ref f18))) (l18 : K.lookup f18 = some ⟨oc18, od18, .func (PySem.W.fnOf "are_minutes" "are_minutes" (defArgs (topS 18)) (defBody (topS 18)) (defScope (topS 18)) .none kV18 dc18 pm18 an18 cd18 ct18), sl18⟩) (c18 : PySem.W.codeIn K cd18 "are_minutes" = true) (k18 : PySem.W.keepIn K (.ref f18) = true) (a19 : PySem.W.nsIn K mainGlobals "check_minutes" = some (some (.ref f19))) (l19 : K.lookup f19 = some ⟨oc19, od19, .func (PySem.W.fnOf "check_minutes" "check_minutes" (defArgs (topS 19)) (defBody (topS 19)) (defScope (topS 19)) .none kV19 dc19 pm19 an19 cd19 ct19), sl19⟩) (c19 : PySem.W.codeIn K cd19 "check_minutes" = true) (k19 : PySem.W.keepIn K (.ref f19) = true) (a20 : PySem.W.nsIn K mainGlobals "fuel_in" = some (some (.ref f20))) (l20 : K.lookup f20 = some ⟨oc20, od20, .func (PySem.W.fnOf "fuel_in" "fuel_in" (defArgs (topS 20)) (defBody (topS 20)) (defScope (topS 20)) .none kV20 dc20 pm20 an20 cd20 ct20), sl20⟩) (c20 : PySem.W.codeIn K cd20 "fuel_in" = true) (k20 : PySem.W.keepIn K (.ref f20) = true) (a21 : PySem.W.nsIn K mainGlobals "fuel_for" = some (some (.ref f21))) (l21 : K.lookup f21 = some ⟨oc21, od21, .func (PySem.W.fnOf "fuel_for" "fuel_for" (defArgs (topS 21)) (defBody (topS 21)) (defScope (topS 21)) .none kV21 dc21 pm21 an21 cd21 ct21), sl21⟩) (c21 : PySem.W.codeIn K cd21 "fuel_for" = true) (k21 : PySem.W.keepIn K (.ref f21) = true) (a22 : PySem.W.nsIn K mainGlobals "judge_even" = some (some (.ref f22))) (l22 : K.lookup f22 = some ⟨oc22, od22, .func (PySem.W.fnOf "judge_even" "judge_even" (defArgs (topS 22)) (defBody (topS 22)) (defScope (topS 22)) .none kV22 dc22 pm22 an22 cd22 ct22), sl22⟩) (c22 : PySem.W.codeIn K cd22 "judge_even" = true) (k22 : PySem.W.keepIn K (.ref f22) = true) (a23 : PySem.W.nsIn K mainGlobals "fuel_wasted" = some (some (.ref f23))) (l23 : K.lookup f23 = some ⟨oc23, od23, .func (PySem.W.fnOf "fuel_wasted" "fuel_wasted" (defArgs (topS 23)) (defBody (topS 23)) (defScope (topS 23)) .none kV23 dc23 pm23 an23 cd23 ct23), sl23⟩) (c23 : PySem.W.codeIn K cd23 "fuel_wasted" = true) (k23 : PySem.W.keepIn K (.ref f23) = true) (a24 : PySem.W.nsIn K mainGlobals "gain_of" = some (some (.ref f24))) (l24 : K.lookup f24 = some ⟨oc24, od24, .func (PySem.W.fnOf "gain_of" "gain_of" (defArgs (topS 24)) (defBody (topS 24)) (defScope (topS 24)) .none kV24 dc24 pm24 an24 cd24 ct24), sl24⟩) (c24 : PySem.W.codeIn K cd24 "gain_of" = true) (k24 : PySem.W.keepIn K (.ref f24) = true) (a25 : PySem.W.nsIn K mainGlobals "best_minutes" = some (some (.ref f25))) (l25 : K.lookup f25 = some ⟨oc25, od25, .func (PySem.W.fnOf "best_minutes" "best_minutes" (defArgs (topS 25)) (defBody (topS 25)) (defScope (topS 25)) .none kV25 dc25 pm25 an25 cd25 ct25), sl25⟩) (c25 : PySem.W.codeIn K cd25 "best_minutes" = true) (k25 : PySem.W.keepIn K (.ref f25) = true) (a26 : PySem.W.nsIn K mainGlobals "accept_minutes" = some (some (.ref f26))) (l26 : K.lookup f26 = some ⟨oc26, od26, .func (PySem.W.fnOf "accept_minutes" "accept_minutes" (defArgs (topS 26)) (defBody (topS 26)) (defScope (topS 26)) .none kV26 dc26 pm26 an26 cd26 ct26), sl26⟩) (c26 : PySem.W.codeIn K cd26 "accept_minutes" = true) (k26 : PySem.W.keepIn K (.ref f26) = true) (a27 : PySem.W.nsIn K mainGlobals "minute_moved" = some (some (.ref f27))) (l27 : K.lookup f27 = some ⟨oc27, od27, .func (PySem.W.fnOf "minute_moved" "minute_moved" (defArgs (topS 27)) (defBody (topS 27)) (defScope (topS 27)) .none kV27 dc27 pm27 an27 cd27 ct27), sl27⟩) (c27 : PySem.W.codeIn K cd27 "minute_moved" = true) (k27 : PySem.W.keepIn K (.ref f27) = true) (a29 : PySem.W.nsIn K mainGlobals "_law_start" = some (some (.ref f29))) (l29 : K.lookup f29 = some ⟨oc29, od29, .func (PySem.W.fnOf "_law_start" "_law_start" (defArgs (topS 29)) (defBody (topS 29)) (defScope (topS 29)) .none kV29 dc29 pm29 an29 cd29 ct29), sl29⟩) (c29 : PySem.W.codeIn K cd29 "_law_start" = true) (k29 : PySem.W.keepIn K (.ref f29) = true) (a30 : PySem.W.nsIn K mainGlobals "_law_draw" = some (some (.ref f30))) (l30 : K.lookup f30 = some ⟨oc30, od30, .func (PySem.W.fnOf "_law_draw" "_law_draw" (defArgs (topS 30)) (defBody (topS 30)) (defScope (topS 30)) .none kV30 dc30 pm30 an30 cd30 ct30), sl30⟩) (c30 : PySem.W.codeIn K cd30 "_law_draw" = true) (k30 : PySem.W.keepIn K (.ref f30) = true) (a31 : PySem.W.nsIn K mainGlobals "_law_pick" = some (some (.ref f31))) (l31 : K.lookup f31 = some ⟨oc31, od31, .func (PySem.W.fnOf "_law_pick" "_law_pick" (defArgs (topS 31)) (defBody (topS 31)) (defScope (topS 31)) .none kV31 dc31 pm31 an31 cd31 ct31), sl31⟩) (c31 : PySem.W.codeIn K cd31 "_law_pick" = true) (k31 : PySem.W.keepIn K (.ref f31) = true) (a32 : PySem.W.nsIn K mainGlobals "_law_same" = some (some (.ref f32))) (l32 : K.lookup f32 = some ⟨oc32, od32, .func (PySem.W.fnOf "_law_same" "_law_same" (defArgs (topS 32)) (defBody (topS 32)) (defScope (topS 32)) .none kV32 dc32 pm32 an32 cd32 ct32), sl32⟩) (c32 : PySem.W.codeIn K cd32 "_law_same" = true) (k32 : PySem.W.keepIn K (.ref f32) = true) (a33 : PySem.W.nsIn K mainGlobals "_law_low" = some (some (.ref f33))) (l33 : K.lookup f33 = some ⟨oc33, od33, .func (PySem.W.fnOf "_law_low" "_law_low" (defArgs (topS 33)) (defBody (topS 33)) (defScope (topS 33)) .none kV33 dc33 pm33 an33 cd33 ct33), sl33⟩) (c33 : PySem.W.codeIn K cd33 "_law_low" = true) (k33 : PySem.W.keepIn K (.ref f33) = true) (a34 : PySem.W.nsIn K mainGlobals "_law_plus" = some (some (.ref f34))) (l34 : K.lookup f34 = some ⟨oc34, od34, .func (PySem.W.fnOf "_law_plus" "_law_plus" (defArgs (topS 34)) (defBody (topS 34)) (defScope (topS 34)) .none kV34 dc34 pm34 an34 cd34 ct34), sl34⟩) (c34 : PySem.W.codeIn K cd34 "_law_plus" = true) (k34 : PySem.W.keepIn K (.ref f34) = true) (a35 : PySem.W.nsIn K mainGlobals "_law_mul" = some (some (.ref f35))) (l35 : K.lookup f35 = some ⟨oc35, od35, .func (PySem.W.fnOf "_law_mul" "_law_mul" (defArgs (topS 35)) (defBody (topS 35)) (defScope (topS 35)) .none kV35 dc35 pm35 an35 cd35 ct35), sl35⟩) (c35 : PySem.W.codeIn K cd35 "_law_mul" = true) (k35 : PySem.W.keepIn K (.ref f35) = true) (a36 : PySem.W.nsIn K mainGlobals "_law_lengths" = some (some (.ref f36))) (l36 : K.lookup f36 = some ⟨oc36, od36, .func (PySem.W.fnOf "_law_lengths" "_law_lengths" (defArgs (topS 36)) (defBody (topS 36)) (defScope (topS 36)) .none kV36 dc36 pm36 an36 cd36 ct36), sl36⟩) (c36 : PySem.W.codeIn K cd36 "_law_lengths" = true) (k36 : PySem.W.keepIn K (.ref f36) = true) (a37 : PySem.W.nsIn K mainGlobals "_law_best_hold" = some (some (.ref f37))) (l37 : K.lookup f37 = some ⟨oc37, od37, .func (PySem.W.fnOf "_law_best_hold" "_law_best_hold" (defArgs (topS 37)) (defBody (topS 37)) (defScope (topS 37)) .none kV37 dc37 pm37 an37 cd37 ct37), sl37⟩) (c37 : PySem.W.codeIn K cd37 "_law_best_hold" = true) (k37 : PySem.W.keepIn K (.ref f37) = true) (a38 : PySem.W.nsIn K mainGlobals "_law_fuel_holds" = some (some (.ref f38))) (l38 : K.lookup f38 = some ⟨oc38, od38, .func (PySem.W.fnOf "_law_fuel_holds" "_law_fuel_holds" (defArgs (topS 38)) (defBody (topS 38)) (defScope (topS 38)) .none kV38 dc38 pm38 an38 cd38 ct38), sl38⟩) (c38 : PySem.W.codeIn K cd38 "_law_fuel_holds" = true) (k38 : PySem.W.keepIn K (.ref f38) = true) (a39 : PySem.W.nsIn K mainGlobals "_law_moved_hold" = some (some (.ref f39))) (l39 : K.lookup f39 = some ⟨oc39, od39, .func (PySem.W.fnOf "_law_moved_hold" "_law_moved_hold" (defArgs (topS 39)) (defBody (topS 39)) (defScope (topS 39)) .none kV39 dc39 pm39 an39 cd39 ct39), sl39⟩) (c39 : PySem.W.codeIn K cd39 "_law_moved_hold" = true) (k39 : PySem.W.keepIn K (.ref f39) = true) (a40 : PySem.W.nsIn K mainGlobals "law" = some (some (.ref f40))) (l40 : K.lookup f40 = some ⟨oc40, od40, .func (PySem.W.fnOf "law" "law" (defArgs (topS 40)) (defBody (topS 40)) (defScope (topS 40)) .none kV40 dc40 pm40 an40 cd40 ct40), sl40⟩) (c40 : PySem.W.codeIn K cd40 "law" = true) (k40 : PySem.W.keepIn K (.ref f40) = true) (z_abs : PySem.W.nsIn K mainGlobals "abs" = some none) (z_all : PySem.W.nsIn K mainGlobals "all" = some none) (z_bool : PySem.W.nsIn K mainGlobals "bool" = some none) (z_enumerate : PySem.W.nsIn K mainGlobals "enumerate" = some none) (z_int : PySem.W.nsIn K mainGlobals "int" = some none) (z_isinstance : PySem.W.nsIn K mainGlobals "isinstance" = some none) (z_len : PySem.W.nsIn K mainGlobals "len" = some none) (z_list : PySem.W.nsIn K mainGlobals "list" = some none) (z_range : PySem.W.nsIn K mainGlobals "range" = some none) (z_repr : PySem.W.nsIn K mainGlobals "repr" = some none) (z_sorted : PySem.W.nsIn K mainGlobals "sorted" = some none) (z_sum : PySem.W.nsIn K mainGlobals "sum" = some none) (z_tuple : PySem.W.nsIn K mainGlobals "tuple" = some none) (z_zip : PySem.W.nsIn K mainGlobals "zip" = some none) (c_MAX_LEGS : PySem.W.nsIn K mainGlobals "MAX_LEGS" = some (some (.int 10 t_MAX_LEGS))) (c_MAX_LENGTH : PySem.W.nsIn K mainGlobals "MAX_LENGTH" = some (some (.int 1000000 t_MAX_LENGTH))) (c_MAX_MINUTES : PySem.W.nsIn K mainGlobals "MAX_MINUTES" = some (some (.int 1000 t_MAX_MINUTES)))
    (ok : ∀ t, Wf t → g_law t ∧ o_law t = .rt true) : ∃ fd : FuncData, (∀ (s : Shared) (u : Value), BindsTo s fd ⟨[u], []⟩ [("script", u)]) ∧ ∀ base : Heap, K.In base → base.Ns mainGlobals mg → FnG l.prog w K mg base 8 fa fd ["script"] (spLaw K) := by
  have e : fa = f40 := by
    have e := hfa.symm.trans (PySem.W.mg_of X G a40)
    injection e with e
    injection e
  rw [e]
  have T : Tx K mg (fun i => (([(5, f5), (10, f10), (11, f11), (12, f12), (13, f13), (14, f14), (15, f15), (17, f17), (18, f18), (19, f19), (20, f20), (21, f21), (22, f22), (23, f23), (24, f24), (25, f25), (26, f26), (27, f27), (29, f29), (30, f30), (31, f31), (32, f32), (33, f33), (34, f34), (35, f35), (36, f36), (37, f37), (38, f38), (39, f39), (40, f40)] : List (Nat × Addr)).lookup i).getD 0) (fun i => (([(5, (PySem.W.fnOf "is_integer" "is_integer" (defArgs (topS 5)) (defBody (topS 5)) (defScope (topS 5)) .none kV5 dc5 pm5 an5 cd5 ct5)), (10, (PySem.W.fnOf "greatest_divisor" "greatest_divisor" (defArgs (topS 10)) (defBody (topS 10)) (defScope (topS 10)) .none kV10 dc10 pm10 an10 cd10 ct10)), (11, (PySem.W.fnOf "quotient" "quotient" (defArgs (topS 11)) (defBody (topS 11)) (defScope (topS 11)) .none kV11 dc11 pm11 an11 cd11 ct11)), (12, (PySem.W.fnOf "plus" "plus" (defArgs (topS 12)) (defBody (topS 12)) (defScope (topS 12)) .none kV12 dc12 pm12 an12 cd12 ct12)), (13, (PySem.W.fnOf "minus" "minus" (defArgs (topS 13)) (defBody (topS 13)) (defScope (topS 13)) .none kV13 dc13 pm13 an13 cd13 ct13)), (14, (PySem.W.fnOf "is_less" "is_less" (defArgs (topS 14)) (defBody (topS 14)) (defScope (topS 14)) .none kV14 dc14 pm14 an14 cd14 ct14)), (15, (PySem.W.fnOf "sum_of" "sum_of" (defArgs (topS 15)) (defBody (topS 15)) (defScope (topS 15)) .none kV15 dc15 pm15 an15 cd15 ct15)), (17, (PySem.W.fnOf "check_lengths" "check_lengths" (defArgs (topS 17)) (defBody (topS 17)) (defScope (topS 17)) .none kV17 dc17 pm17 an17 cd17 ct17)), (18, (PySem.W.fnOf "are_minutes" "are_minutes" (defArgs (topS 18)) (defBody (topS 18)) (defScope (topS 18)) .none kV18 dc18 pm18 an18 cd18 ct18)), (19, (PySem.W.fnOf "check_minutes" "check_minutes" (defArgs (topS 19)) (defBody (topS 19)) (defScope (topS 19)) .none kV19 dc19 pm19 an19 cd19 ct19)), (20, (PySem.W.fnOf "fuel_in" "fuel_in" (defArgs (topS 20)) (defBody (topS 20)) (defScope (topS 20)) .none kV20 dc20 pm20 an20 cd20 ct20)), (21, (PySem.W.fnOf "fuel_for" "fuel_for" (defArgs (topS 21)) (defBody (topS 21)) (defScope (topS 21)) .none kV21 dc21 pm21 an21 cd21 ct21)), (22, (PySem.W.fnOf "judge_even" "judge_even" (defArgs (topS 22)) (defBody (topS 22)) (defScope (topS 22)) .none kV22 dc22 pm22 an22 cd22 ct22)), (23, (PySem.W.fnOf "fuel_wasted" "fuel_wasted" (defArgs (topS 23)) (defBody (topS 23)) (defScope (topS 23)) .none kV23 dc23 pm23 an23 cd23 ct23)), (24, (PySem.W.fnOf "gain_of" "gain_of" (defArgs (topS 24)) (defBody (topS 24)) (defScope (topS 24)) .none kV24 dc24 pm24 an24 cd24 ct24)), (25, (PySem.W.fnOf "best_minutes" "best_minutes" (defArgs (topS 25)) (defBody (topS 25)) (defScope (topS 25)) .none kV25 dc25 pm25 an25 cd25 ct25)), (26, (PySem.W.fnOf "accept_minutes" "accept_minutes" (defArgs (topS 26)) (defBody (topS 26)) (defScope (topS 26)) .none kV26 dc26 pm26 an26 cd26 ct26)), (27, (PySem.W.fnOf "minute_moved" "minute_moved" (defArgs (topS 27)) (defBody (topS 27)) (defScope (topS 27)) .none kV27 dc27 pm27 an27 cd27 ct27)), (29, (PySem.W.fnOf "_law_start" "_law_start" (defArgs (topS 29)) (defBody (topS 29)) (defScope (topS 29)) .none kV29 dc29 pm29 an29 cd29 ct29)), (30, (PySem.W.fnOf "_law_draw" "_law_draw" (defArgs (topS 30)) (defBody (topS 30)) (defScope (topS 30)) .none kV30 dc30 pm30 an30 cd30 ct30)), (31, (PySem.W.fnOf "_law_pick" "_law_pick" (defArgs (topS 31)) (defBody (topS 31)) (defScope (topS 31)) .none kV31 dc31 pm31 an31 cd31 ct31)), (32, (PySem.W.fnOf "_law_same" "_law_same" (defArgs (topS 32)) (defBody (topS 32)) (defScope (topS 32)) .none kV32 dc32 pm32 an32 cd32 ct32)), (33, (PySem.W.fnOf "_law_low" "_law_low" (defArgs (topS 33)) (defBody (topS 33)) (defScope (topS 33)) .none kV33 dc33 pm33 an33 cd33 ct33)), (34, (PySem.W.fnOf "_law_plus" "_law_plus" (defArgs (topS 34)) (defBody (topS 34)) (defScope (topS 34)) .none kV34 dc34 pm34 an34 cd34 ct34)), (35, (PySem.W.fnOf "_law_mul" "_law_mul" (defArgs (topS 35)) (defBody (topS 35)) (defScope (topS 35)) .none kV35 dc35 pm35 an35 cd35 ct35)), (36, (PySem.W.fnOf "_law_lengths" "_law_lengths" (defArgs (topS 36)) (defBody (topS 36)) (defScope (topS 36)) .none kV36 dc36 pm36 an36 cd36 ct36)), (37, (PySem.W.fnOf "_law_best_hold" "_law_best_hold" (defArgs (topS 37)) (defBody (topS 37)) (defScope (topS 37)) .none kV37 dc37 pm37 an37 cd37 ct37)), (38, (PySem.W.fnOf "_law_fuel_holds" "_law_fuel_holds" (defArgs (topS 38)) (defBody (topS 38)) (defScope (topS 38)) .none kV38 dc38 pm38 an38 cd38 ct38)), (39, (PySem.W.fnOf "_law_moved_hold" "_law_moved_hold" (defArgs (topS 39)) (defBody (topS 39)) (defScope (topS 39)) .none kV39 dc39 pm39 an39 cd39 ct39)), (40, (PySem.W.fnOf "law" "law" (defArgs (topS 40)) (defBody (topS 40)) (defScope (topS 40)) .none kV40 dc40 pm40 an40 cd40 ct40))] : List (Nat × FuncData)).lookup i).getD (PySem.W.fnOf "is_integer" "is_integer" (defArgs (topS 5)) (defBody (topS 5)) (defScope (topS 5)) .none kV5 dc5 pm5 an5 cd5 ct5)) := ⟨fun_mk (st := topS 5) l5 c5 k5, PySem.W.mg_of X G a5, fun_mk (st := topS 10) l10 c10 k10, PySem.W.mg_of X G a10, fun_mk (st := topS 11) l11 c11 k11, PySem.W.mg_of X G a11, fun_mk (st := topS 12) l12 c12 k12, PySem.W.mg_of X G a12, fun_mk (st := topS 13) l13 c13 k13, PySem.W.mg_of X G a13, fun_mk (st := topS 14) l14 c14 k14, PySem.W.mg_of X G a14, fun_mk (st := topS 15) l15 c15 k15, PySem.W.mg_of X G a15, fun_mk (st := topS 17) l17 c17 k17, PySem.W.mg_of X G a17, fun_mk (st := topS 18) l18 c18 k18, PySem.W.mg_of X G a18, fun_mk (st := topS 19) l19 c19 k19, PySem.W.mg_of X G a19, fun_mk (st := topS 20) l20 c20 k20, PySem.W.mg_of X G a20, fun_mk (st := topS 21) l21 c21 k21, PySem.W.mg_of X G a21, fun_mk (st := topS 22) l22 c22 k22, PySem.W.mg_of X G a22, fun_mk (st := topS 23) l23 c23 k23, PySem.W.mg_of X G a23, fun_mk (st := topS 24) l24 c24 k24, PySem.W.mg_of X G a24, fun_mk (st := topS 25) l25 c25 k25, PySem.W.mg_of X G a25, fun_mk (st := topS 26) l26 c26 k26, PySem.W.mg_of X G a26, fun_mk (st := topS 27) l27 c27 k27, PySem.W.mg_of X G a27, fun_mk (st := topS 29) l29 c29 k29, PySem.W.mg_of X G a29, fun_mk (st := topS 30) l30 c30 k30, PySem.W.mg_of X G a30, fun_mk (st := topS 31) l31 c31 k31, PySem.W.mg_of X G a31, fun_mk (st := topS 32) l32 c32 k32, PySem.W.mg_of X G a32, fun_mk (st := topS 33) l33 c33 k33, PySem.W.mg_of X G a33, fun_mk (st := topS 34) l34 c34 k34, PySem.W.mg_of X G a34, fun_mk (st := topS 35) l35 c35 k35, PySem.W.mg_of X G a35, fun_mk (st := topS 36) l36 c36 k36, PySem.W.mg_of X G a36, fun_mk (st := topS 37) l37 c37 k37, PySem.W.mg_of X G a37, fun_mk (st := topS 38) l38 c38 k38, PySem.W.mg_of X G a38, fun_mk (st := topS 39) l39 c39 k39, PySem.W.mg_of X G a39, fun_mk (st := topS 40) l40 c40 k40, PySem.W.mg_of X G a40, PySem.W.mg_none_of X G z_abs, PySem.W.mg_none_of X G z_all, PySem.W.mg_none_of X G z_bool, PySem.W.mg_none_of X G z_enumerate, PySem.W.mg_none_of X G z_int, PySem.W.mg_none_of X G z_isinstance, PySem.W.mg_none_of X G z_len, PySem.W.mg_none_of X G z_list, PySem.W.mg_none_of X G z_range, PySem.W.mg_none_of X G z_repr, PySem.W.mg_none_of X G z_sorted, PySem.W.mg_none_of X G z_sum, PySem.W.mg_none_of X G z_tuple, PySem.W.mg_none_of X G z_zip, ⟨_, PySem.W.mg_of X G c_MAX_LEGS⟩, ⟨_, PySem.W.mg_of X G c_MAX_LENGTH⟩, ⟨_, PySem.W.mg_of X G c_MAX_MINUTES⟩⟩
  exact ⟨_, fun s u => .of_eq rfl, fun base _ _ => f_law (ad := (fun i => (([(5, f5), (10, f10), (11, f11), (12, f12), (13, f13), (14, f14), (15, f15), (17, f17), (18, f18), (19, f19), (20, f20), (21, f21), (22, f22), (23, f23), (24, f24), (25, f25), (26, f26), (27, f27), (29, f29), (30, f30), (31, f31), (32, f32), (33, f33), (34, f34), (35, f35), (36, f36), (37, f37), (38, f38), (39, f39), (40, f40)] : List (Nat × Addr)).lookup i).getD 0)) (fd := (fun i => (([(5, (PySem.W.fnOf "is_integer" "is_integer" (defArgs (topS 5)) (defBody (topS 5)) (defScope (topS 5)) .none kV5 dc5 pm5 an5 cd5 ct5)), (10, (PySem.W.fnOf "greatest_divisor" "greatest_divisor" (defArgs (topS 10)) (defBody (topS 10)) (defScope (topS 10)) .none kV10 dc10 pm10 an10 cd10 ct10)), (11, (PySem.W.fnOf "quotient" "quotient" (defArgs (topS 11)) (defBody (topS 11)) (defScope (topS 11)) .none kV11 dc11 pm11 an11 cd11 ct11)), (12, (PySem.W.fnOf "plus" "plus" (defArgs (topS 12)) (defBody (topS 12)) (defScope (topS 12)) .none kV12 dc12 pm12 an12 cd12 ct12)), (13, (PySem.W.fnOf "minus" "minus" (defArgs (topS 13)) (defBody (topS 13)) (defScope (topS 13)) .none kV13 dc13 pm13 an13 cd13 ct13)), (14, (PySem.W.fnOf "is_less" "is_less" (defArgs (topS 14)) (defBody (topS 14)) (defScope (topS 14)) .none kV14 dc14 pm14 an14 cd14 ct14)), (15, (PySem.W.fnOf "sum_of" "sum_of" (defArgs (topS 15)) (defBody (topS 15)) (defScope (topS 15)) .none kV15 dc15 pm15 an15 cd15 ct15)), (17, (PySem.W.fnOf "check_lengths" "check_lengths" (defArgs (topS 17)) (defBody (topS 17)) (defScope (topS 17)) .none kV17 dc17 pm17 an17 cd17 ct17)), (18, (PySem.W.fnOf "are_minutes" "are_minutes" (defArgs (topS 18)) (defBody (topS 18)) (defScope (topS 18)) .none kV18 dc18 pm18 an18 cd18 ct18)), (19, (PySem.W.fnOf "check_minutes" "check_minutes" (defArgs (topS 19)) (defBody (topS 19)) (defScope (topS 19)) .none kV19 dc19 pm19 an19 cd19 ct19)), (20, (PySem.W.fnOf "fuel_in" "fuel_in" (defArgs (topS 20)) (defBody (topS 20)) (defScope (topS 20)) .none kV20 dc20 pm20 an20 cd20 ct20)), (21, (PySem.W.fnOf "fuel_for" "fuel_for" (defArgs (topS 21)) (defBody (topS 21)) (defScope (topS 21)) .none kV21 dc21 pm21 an21 cd21 ct21)), (22, (PySem.W.fnOf "judge_even" "judge_even" (defArgs (topS 22)) (defBody (topS 22)) (defScope (topS 22)) .none kV22 dc22 pm22 an22 cd22 ct22)), (23, (PySem.W.fnOf "fuel_wasted" "fuel_wasted" (defArgs (topS 23)) (defBody (topS 23)) (defScope (topS 23)) .none kV23 dc23 pm23 an23 cd23 ct23)), (24, (PySem.W.fnOf "gain_of" "gain_of" (defArgs (topS 24)) (defBody (topS 24)) (defScope (topS 24)) .none kV24 dc24 pm24 an24 cd24 ct24)), (25, (PySem.W.fnOf "best_minutes" "best_minutes" (defArgs (topS 25)) (defBody (topS 25)) (defScope (topS 25)) .none kV25 dc25 pm25 an25 cd25 ct25)), (26, (PySem.W.fnOf "accept_minutes" "accept_minutes" (defArgs (topS 26)) (defBody (topS 26)) (defScope (topS 26)) .none kV26 dc26 pm26 an26 cd26 ct26)), (27, (PySem.W.fnOf "minute_moved" "minute_moved" (defArgs (topS 27)) (defBody (topS 27)) (defScope (topS 27)) .none kV27 dc27 pm27 an27 cd27 ct27)), (29, (PySem.W.fnOf "_law_start" "_law_start" (defArgs (topS 29)) (defBody (topS 29)) (defScope (topS 29)) .none kV29 dc29 pm29 an29 cd29 ct29)), (30, (PySem.W.fnOf "_law_draw" "_law_draw" (defArgs (topS 30)) (defBody (topS 30)) (defScope (topS 30)) .none kV30 dc30 pm30 an30 cd30 ct30)), (31, (PySem.W.fnOf "_law_pick" "_law_pick" (defArgs (topS 31)) (defBody (topS 31)) (defScope (topS 31)) .none kV31 dc31 pm31 an31 cd31 ct31)), (32, (PySem.W.fnOf "_law_same" "_law_same" (defArgs (topS 32)) (defBody (topS 32)) (defScope (topS 32)) .none kV32 dc32 pm32 an32 cd32 ct32)), (33, (PySem.W.fnOf "_law_low" "_law_low" (defArgs (topS 33)) (defBody (topS 33)) (defScope (topS 33)) .none kV33 dc33 pm33 an33 cd33 ct33)), (34, (PySem.W.fnOf "_law_plus" "_law_plus" (defArgs (topS 34)) (defBody (topS 34)) (defScope (topS 34)) .none kV34 dc34 pm34 an34 cd34 ct34)), (35, (PySem.W.fnOf "_law_mul" "_law_mul" (defArgs (topS 35)) (defBody (topS 35)) (defScope (topS 35)) .none kV35 dc35 pm35 an35 cd35 ct35)), (36, (PySem.W.fnOf "_law_lengths" "_law_lengths" (defArgs (topS 36)) (defBody (topS 36)) (defScope (topS 36)) .none kV36 dc36 pm36 an36 cd36 ct36)), (37, (PySem.W.fnOf "_law_best_hold" "_law_best_hold" (defArgs (topS 37)) (defBody (topS 37)) (defScope (topS 37)) .none kV37 dc37 pm37 an37 cd37 ct37)), (38, (PySem.W.fnOf "_law_fuel_holds" "_law_fuel_holds" (defArgs (topS 38)) (defBody (topS 38)) (defScope (topS 38)) .none kV38 dc38 pm38 an38 cd38 ct38)), (39, (PySem.W.fnOf "_law_moved_hold" "_law_moved_hold" (defArgs (topS 39)) (defBody (topS 39)) (defScope (topS 39)) .none kV39 dc39 pm39 an39 cd39 ct39)), (40, (PySem.W.fnOf "law" "law" (defArgs (topS 40)) (defBody (topS 40)) (defScope (topS 40)) .none kV40 dc40 pm40 an40 cd40 ct40))] : List (Nat × FuncData)).lookup i).getD (PySem.W.fnOf "is_integer" "is_integer" (defArgs (topS 5)) (defBody (topS 5)) (defScope (topS 5)) .none kV5 dc5 pm5 an5 cd5 ct5))) T ok⟩
end Z
open PySem PySem.W PyProof.Rows
set_option maxHeartbeats 0 in
theorem PySem.Challenge.cw_ferrybook_k21_minutes_moved_to_and_fro_holds : PySem.Challenge.rw_ferrybook_k21_minutes_moved_to_and_fro.Holds := by
  w_on; o_law; k_head; (case hw => w_witness2)
  k_fill
  refine Y.walk_law (l := PySem.Challenge.rw_ferrybook_k21_minutes_moved_to_and_fro) (k := 8) (x := "script") rfl rfl ⟨rfl, by decide, by decide⟩ (fun w h Y => PySem.W.kIn_of Y) ?F
  case F =>
    intro w mg fa h KX G hmg
    refine' Z.all_mk KX G hmg ?a5 ?l5 ?c5 ?k5 ?a10 ?l10 ?c10 ?k10 ?a11 ?l11 ?c11 ?k11 ?a12 ?l12 ?c12 ?k12 ?a13 ?l13 ?c13 ?k13 ?a14 ?l14 ?c14 ?k14 ?a15 ?l15 ?c15 ?k15 ?a17 ?l17 ?c17 ?k17 ?a18 ?l18 ?c18 ?k18 ?a19 ?l19 ?c19 ?k19 ?a20 ?l20 ?c20 ?k20 ?a21 ?l21 ?c21 ?k21 ?a22 ?l22 ?c22 ?k22 ?a23 ?l23 ?c23 ?k23 ?a24 ?l24 ?c24 ?k24 ?a25 ?l25 ?c25 ?k25 ?a26 ?l26 ?c26 ?k26 ?a27 ?l27 ?c27 ?k27 ?a29 ?l29 ?c29 ?k29 ?a30 ?l30 ?c30 ?k30 ?a31 ?l31 ?c31 ?k31 ?a32 ?l32 ?c32 ?k32 ?a33 ?l33 ?c33 ?k33 ?a34 ?l34 ?c34 ?k34 ?a35 ?l35 ?c35 ?k35 ?a36 ?l36 ?c36 ?k36 ?a37 ?l37 ?c37 ?k37 ?a38 ?l38 ?c38 ?k38 ?a39 ?l39 ?c39 ?k39 ?a40 ?l40 ?c40 ?k40 ?z_abs ?z_all ?z_bool ?z_enumerate ?z_int ?z_isinstance ?z_len ?z_list ?z_range ?z_repr ?z_sorted ?z_sum ?z_tuple ?z_zip ?c_MAX_LEGS ?c_MAX_LENGTH ?c_MAX_MINUTES Z.law_ok
    (case a5 => k_is); (case l5 => k_is); (case c5 => k_is); (case k5 => k_is); (case a10 => k_is); (case l10 => k_is); (case c10 => k_is); (case k10 => k_is); (case a11 => k_is); (case l11 => k_is); (case c11 => k_is); (case k11 => k_is); (case a12 => k_is); (case l12 => k_is); (case c12 => k_is); (case k12 => k_is); (case a13 => k_is); (case l13 => k_is); (case c13 => k_is); (case k13 => k_is); (case a14 => k_is); (case l14 => k_is); (case c14 => k_is); (case k14 => k_is); (case a15 => k_is); (case l15 => k_is); (case c15 => k_is); (case k15 => k_is); (case a17 => k_is); (case l17 => k_is); (case c17 => k_is); (case k17 => k_is); (case a18 => k_is); (case l18 => k_is); (case c18 => k_is); (case k18 => k_is); (case a19 => k_is); (case l19 => k_is); (case c19 => k_is); (case k19 => k_is); (case a20 => k_is); (case l20 => k_is); (case c20 => k_is); (case k20 => k_is); (case a21 => k_is); (case l21 => k_is); (case c21 => k_is); (case k21 => k_is); (case a22 => k_is); (case l22 => k_is); (case c22 => k_is); (case k22 => k_is); (case a23 => k_is); (case l23 => k_is); (case c23 => k_is); (case k23 => k_is); (case a24 => k_is); (case l24 => k_is); (case c24 => k_is); (case k24 => k_is); (case a25 => k_is); (case l25 => k_is); (case c25 => k_is); (case k25 => k_is); (case a26 => k_is); (case l26 => k_is); (case c26 => k_is); (case k26 => k_is); (case a27 => k_is); (case l27 => k_is); (case c27 => k_is); (case k27 => k_is); (case a29 => k_is); (case l29 => k_is); (case c29 => k_is); (case k29 => k_is); (case a30 => k_is); (case l30 => k_is); (case c30 => k_is); (case k30 => k_is); (case a31 => k_is); (case l31 => k_is); (case c31 => k_is); (case k31 => k_is); (case a32 => k_is); (case l32 => k_is); (case c32 => k_is); (case k32 => k_is); (case a33 => k_is); (case l33 => k_is); (case c33 => k_is); (case k33 => k_is); (case a34 => k_is); (case l34 => k_is); (case c34 => k_is); (case k34 => k_is); (case a35 => k_is); (case l35 => k_is); (case c35 => k_is); (case k35 => k_is); (case a36 => k_is); (case l36 => k_is); (case c36 => k_is); (case k36 => k_is); (case a37 => k_is); (case l37 => k_is); (case c37 => k_is); (case k37 => k_is); (case a38 => k_is); (case l38 => k_is); (case c38 => k_is); (case k38 => k_is); (case a39 => k_is); (case l39 => k_is); (case c39 => k_is); (case k39 => k_is); (case a40 => k_is); (case l40 => k_is); (case c40 => k_is); (case k40 => k_is); (case z_abs => k_is); (case z_all => k_is); (case z_bool => k_is); (case z_enumerate => k_is); (case z_int => k_is); (case z_isinstance => k_is); (case z_len => k_is); (case z_list => k_is); (case z_range => k_is); (case z_repr => k_is); (case z_sorted => k_is); (case z_sum => k_is); (case z_tuple => k_is); (case z_zip => k_is); (case c_MAX_LEGS => k_is); (case c_MAX_LENGTH => k_is); (case c_MAX_MINUTES => k_is)
