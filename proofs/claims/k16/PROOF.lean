import PyProof.Rows.All
import Wide.All
import OpenK.AllK
import Wide.FinOn
import HandS.ForMost
import HandS.Walk
import HandS.TupAny
import HandS.TupMul
import HandS.Conv
import HandS.Zip
import HandS.Wide
import HandS.Flow
import HandS.Style
import HandS.RaiseMore
import KE.SortData
import KE.DatumOrd
import KE.DataAny
import PyProof.ReprReads
import KE.GoesEnum
import HandS.IsInst
import HandS.Ends
import PyProof.ReprRoads
import PyProof.ReprLen
import PySem.Challenge.RW_ferrybook_k16_rivers_told_otherwise
set_option Elab.async false
set_option linter.all false
set_option maxRecDepth 100000
set_option maxHeartbeats 4000000
namespace Y
open PySem PySem.Spec L2

abbrev D := PyData
abbrev Frag := PySem.W.Frag

/-! ### frozen data: it does not lean on the addresses in A -/
def WrT (K : Frag) (a : Addr) (xs : List V) : Prop :=
  ∃ (o : Obj) (its : Array Value) (n : Nat), K.lookup a = some o ∧ o.cls = .type "tuple" ∧ o.data = .seq its n ∧ its.size ≤ sizeLine ∧ Vals xs its.toList
abbrev szN : Nat := 16777216
def NdL (A : List Addr) (H : Hp) (a : Addr) (xs : List V) : Prop := (a ∉ A ∧ H a = some (.lst xs)) ∧ xs.length ≤ szN
def NdT (K : Frag) (A : List Addr) (H : Hp) (a : Addr) (xs : List V) : Prop := (a ∉ A ∧ H a = some (.tup xs) ∧ xs.length ≤ szN) ∨ WrT K a xs
mutual
inductive Fz (K : Frag) (A : List Addr) (H : Hp) : V → D → Prop
  | non : Fz K A H .non .none
  | bl (b : Bool) : Fz K A H (.bl b) (.bool b)
  | int (i : Int) : Fz K A H (.int i) (.int i)
  | str (x : Str) : Fz K A H (.str x) (.str x)
  | lst {a : Addr} {xs : List V} {ds : List D} : NdL A H a xs → FzL K A H xs ds → Fz K A H (.ref a) (.list ds)
  | tup {a : Addr} {xs : List V} {ds : List D} : NdT K A H a xs → FzL K A H xs ds → Fz K A H (.ref a) (.tuple ds)
inductive FzL (K : Frag) (A : List Addr) (H : Hp) : List V → List D → Prop
  | nil : FzL K A H [] []
  | cons {v : V} {vs : List V} {d : D} {ds : List D} : Fz K A H v d → FzL K A H vs ds → FzL K A H (v :: vs) (d :: ds)
end

/-- what is tracked outside A is as it was -/
def Fr (A : List Addr) (H H' : Hp) : Prop := ∀ b o, H b = some o → b ∉ A → H' b = some o
theorem Fr.refl (A : List Addr) (H : Hp) : Fr A H H := fun _ _ h _ => h
theorem Fr.trans {A : List Addr} {H H1 H2 : Hp} (a : Fr A H H1) (b : Fr A H1 H2) : Fr A H H2 := fun x o h n => b x o (a x o h n) n
theorem Fr.mono {A A' : List Addr} {H H' : Hp} (a : Fr A H H') (s : ∀ x ∈ A, x ∈ A') : Fr A' H H' := fun x o h n => a x o h fun z => n (s x z)
theorem Fr.new {A : List Addr} {H : Hp} {p : Addr} {o : HO} (h : H p = none) : Fr A H (upd H p o) := fun a u e _ => by
  rw [upd_ne (ne_of_none e h)]
  exact e
theorem Fr.at {A : List Addr} {H : Hp} {p : Addr} {o : HO} (h : p ∈ A) : Fr A H (upd H p o) := fun a u e n => by
  rw [upd_ne (fun z => n (by rw [z]; exact h))]
  exact e
theorem Fr.nil {A : List Addr} {H H' : Hp} (h : Fr [] H H') : Fr A H H' := h.mono fun _ z => by cases z
theorem Fr.some {H H' : Hp} {p : Addr} (e : Fr [] H H') (h : H p ≠ none) : H' p ≠ none := fun q => by
  cases h1 : H p with
  | none => exact h h1
  | some o => rw [e p o h1 (by simp)] at q; cases q
theorem Fr.back {H H' : Hp} {p : Addr} (e : Fr [] H H') (h : H' p = none) : H p = none := by
  cases h1 : H p with
  | none => rfl
  | some o =>
    have := e p o h1 (by simp)
    rw [h] at this; cases this

section
variable {K : Frag} {A A' : List Addr} {H H' : Hp} {a p : Addr} {xs : List V}
theorem rd_fr {u : HO} (f : Fr A H H') (n : a ∉ A) (h : Rd H a u) : Rd H' a u := by
  rcases h with h | ⟨o, h⟩
  · exact .inl (f _ _ h n)
  · exact .inr ⟨o, f _ _ h n⟩
theorem rd_some {u : HO} (h : Rd H a u) : H a ≠ none := by
  rcases h with h | ⟨o, h⟩ <;> (rw [h]; simp)
theorem NdL.sq (h : NdL A H a xs) : SqL K H a xs := .inl (.inl h.1.2)
theorem NdT.sq (h : NdT K A H a xs) : SqT K H a xs := h.elim (fun z => .inl (.inl z.2.1)) .inr
theorem NdT.sz (h : NdT K A H a xs) : xs.length ≤ szN := by
  rcases h with z | ⟨o, its, n, _, _, _, hz, v⟩
  · exact z.2.2
  · have := v.length
    rw [sizeLine_eq] at hz
    simp only [Array.length_toList] at this
    show xs.length ≤ 16777216
    omega
theorem NdL.fr (f : Fr A H H') (h : NdL A H a xs) : NdL A H' a xs := ⟨⟨h.1.1, f _ _ h.1.2 h.1.1⟩, h.2⟩
theorem NdT.fr (f : Fr A H H') (h : NdT K A H a xs) : NdT K A H' a xs := h.imp (fun z => ⟨z.1, f _ _ z.2.1 z.1, z.2.2⟩) id
theorem NdL.sub (s : ∀ x ∈ A', x ∈ A) (h : NdL A H a xs) : NdL A' H a xs := ⟨⟨fun q => h.1.1 (s _ q), h.1.2⟩, h.2⟩
theorem NdT.sub (s : ∀ x ∈ A', x ∈ A) (h : NdT K A H a xs) : NdT K A' H a xs := h.imp (fun z => ⟨fun q => z.1 (s _ q), z.2⟩) id
theorem NdL.any (s : ∀ x ∈ A', x ∈ A ∨ H x = none) (h : NdL A H a xs) : NdL A' H a xs := by
  refine ⟨⟨fun q => ?_, h.1.2⟩, h.2⟩
  rcases s a q with z | z
  · exact h.1.1 z
  · rw [h.1.2] at z; cases z
theorem NdT.any (s : ∀ x ∈ A', x ∈ A ∨ H x = none) (h : NdT K A H a xs) : NdT K A' H a xs := by
  refine h.imp (fun h => ⟨fun q => ?_, h.2⟩) id
  rcases s a q with z | z
  · exact h.1 z
  · rw [h.2.1] at z; cases z
end

section
variable {K : Frag} {A A' : List Addr} {H H' : Hp}
mutual
theorem Fz.fr (f : Fr A H H') : ∀ {v : V} {d : D}, Fz K A H v d → Fz K A H' v d
  | _, _, .non => .non
  | _, _, .bl b => .bl b
  | _, _, .int i => .int i
  | _, _, .str x => .str x
  | _, _, .lst n h => .lst (n.fr f) (FzL.fr f h)
  | _, _, .tup n h => .tup (n.fr f) (FzL.fr f h)
theorem FzL.fr (f : Fr A H H') : ∀ {vs : List V} {ds : List D}, FzL K A H vs ds → FzL K A H' vs ds
  | _, _, .nil => .nil
  | _, _, .cons a b => .cons (Fz.fr f a) (FzL.fr f b)
end
mutual
theorem Fz.sub (s : ∀ x ∈ A', x ∈ A) : ∀ {v : V} {d : D}, Fz K A H v d → Fz K A' H v d
  | _, _, .non => .non
  | _, _, .bl b => .bl b
  | _, _, .int i => .int i
  | _, _, .str x => .str x
  | _, _, .lst n h => .lst (n.sub s) (FzL.sub s h)
  | _, _, .tup n h => .tup (n.sub s) (FzL.sub s h)
theorem FzL.sub (s : ∀ x ∈ A', x ∈ A) : ∀ {vs : List V} {ds : List D}, FzL K A H vs ds → FzL K A' H vs ds
  | _, _, .nil => .nil
  | _, _, .cons a b => .cons (Fz.sub s a) (FzL.sub s b)
end
mutual
theorem Fz.any (s : ∀ x ∈ A', x ∈ A ∨ H x = none) : ∀ {v : V} {d : D}, Fz K A H v d → Fz K A' H v d
  | _, _, .non => .non
  | _, _, .bl b => .bl b
  | _, _, .int i => .int i
  | _, _, .str x => .str x
  | _, _, .lst n h => .lst (n.any s) (FzL.any s h)
  | _, _, .tup n h => .tup (n.any s) (FzL.any s h)
theorem FzL.any (s : ∀ x ∈ A', x ∈ A ∨ H x = none) : ∀ {vs : List V} {ds : List D}, FzL K A H vs ds → FzL K A' H vs ds
  | _, _, .nil => .nil
  | _, _, .cons a b => .cons (Fz.any s a) (FzL.any s b)
end
theorem more_any {p : Addr} (hp : H p = none) : ∀ x ∈ p :: A, x ∈ A ∨ H x = none := fun x hx => by
  rcases List.mem_cons.mp hx with e | hx
  · rw [e]; exact .inr hp
  · exact .inl hx
theorem Fz.more {p : Addr} (hp : H p = none) {v : V} {d : D} (h : Fz K A H v d) : Fz K (p :: A) H v d := h.any (more_any hp)
theorem FzL.more {p : Addr} (hp : H p = none) {vs : List V} {ds : List D} (h : FzL K A H vs ds) : FzL K (p :: A) H vs ds := h.any (more_any hp)
mutual
theorem Fz.dp : ∀ {v : V} {d : D}, Fz K A H v d → Dp K H v d
  | _, _, .non => .non
  | _, _, .bl b => .bl b
  | _, _, .int i => .int i
  | _, _, .str x => .str x
  | _, _, .lst n h => .lst n.sq (FzL.dp h)
  | _, _, .tup n h => .tup n.sq (FzL.dp h)
theorem FzL.dp : ∀ {vs : List V} {ds : List D}, FzL K A H vs ds → DpAll K H vs ds
  | _, _, .nil => .nil
  | _, _, .cons a b => .cons (Fz.dp a) (FzL.dp b)
end
/-- without lists -/
def lf : D → Bool
  | .list _ => false
  | .dict _ => false
  | .tuple ds => lfs ds
  | _ => true
where lfs : List D → Bool
  | [] => true
  | d :: ds => lf d && lfs ds
mutual
theorem Fz.up (hA : ∀ a ∈ A', ∃ xs, H a = some (.lst xs)) : ∀ {v : V} {d : D}, Fz K A H v d → lf d = true → Fz K (A ++ A') H v d
  | _, _, .non, _ => .non
  | _, _, .bl b, _ => .bl b
  | _, _, .int i, _ => .int i
  | _, _, .str x, _ => .str x
  | _, _, .lst n h, e => by simp [lf] at e
  | _, _, .tup (ds := ds) n h, e => by
    have e' : lf.lfs ds = true := by simpa [lf] using e
    refine .tup (n.imp (fun z => ⟨fun q => ?_, z.2⟩) id) (FzL.up hA h e')
    rcases List.mem_append.mp q with q | q
    · exact z.1 q
    · obtain ⟨ys, hy⟩ := hA _ q
      have r := z.2.1
      rw [hy] at r; cases r
theorem FzL.up (hA : ∀ a ∈ A', ∃ xs, H a = some (.lst xs)) : ∀ {vs : List V} {ds : List D}, FzL K A H vs ds → lf.lfs ds = true → FzL K (A ++ A') H vs ds
  | _, _, .nil, _ => .nil
  | _, _, .cons (d := d) (ds := ds) a b, e => by
    have e' : lf d = true ∧ lf.lfs ds = true := by simpa [lf.lfs] using e
    exact .cons (Fz.up hA a e'.1) (FzL.up hA b e'.2)
end
theorem FzL.length : ∀ {vs : List V} {ds : List D}, FzL K A H vs ds → vs.length = ds.length
  | _, _, .nil => rfl
  | _, _, .cons _ h => by simp [FzL.length h]
theorem FzL.get : ∀ {vs : List V} {ds : List D} {i : Nat} {v : V}, FzL K A H vs ds → vs[i]? = some v → ∃ d, ds[i]? = some d ∧ Fz K A H v d
  | _, _, _, _, .nil, e => by simp at e
  | _, _, 0, _, .cons a _, e => by simp at e; subst e; exact ⟨_, rfl, a⟩
  | _, _, i + 1, _, .cons _ h, e => by
    obtain ⟨d, h1, h2⟩ := FzL.get (i := i) h (by simpa using e)
    exact ⟨d, by simpa using h1, h2⟩
theorem FzL.get' : ∀ {vs : List V} {ds : List D} {i : Nat} {d : D}, FzL K A H vs ds → ds[i]? = some d → ∃ v, vs[i]? = some v ∧ Fz K A H v d
  | _, _, _, _, .nil, e => by simp at e
  | _, _, 0, _, .cons a _, e => by simp at e; subst e; exact ⟨_, rfl, a⟩
  | _, _, i + 1, _, .cons _ h, e => by
    obtain ⟨d, h1, h2⟩ := FzL.get' (i := i) h (by simpa using e)
    exact ⟨d, by simpa using h1, h2⟩
theorem FzL.append : ∀ {vs : List V} {ds : List D} {ws : List V} {es : List D}, FzL K A H vs ds → FzL K A H ws es → FzL K A H (vs ++ ws) (ds ++ es)
  | _, _, _, _, .nil, h => h
  | _, _, _, _, .cons a b, h => .cons a (FzL.append b h)
theorem FzL.set : ∀ {vs : List V} {ds : List D} {v : V} {d : D} (i : Nat), FzL K A H vs ds → Fz K A H v d → FzL K A H (vs.set i v) (ds.set i d)
  | _, _, _, _, _, .nil, _ => .nil
  | _, _, _, _, 0, .cons _ b, h => .cons h b
  | _, _, _, _, i + 1, .cons a b, h => .cons a (FzL.set i b h)
theorem FzL.take : ∀ {vs : List V} {ds : List D} (i : Nat), FzL K A H vs ds → FzL K A H (vs.take i) (ds.take i)
  | _, _, 0, _ => by simpa using FzL.nil
  | _, _, _ + 1, .nil => .nil
  | _, _, i + 1, .cons a b => .cons a (FzL.take i b)
theorem FzL.drop : ∀ {vs : List V} {ds : List D} (i : Nat), FzL K A H vs ds → FzL K A H (vs.drop i) (ds.drop i)
  | _, _, 0, h => h
  | _, _, _ + 1, .nil => .nil
  | _, _, i + 1, .cons _ b => FzL.drop i b
theorem FzL.rep {vs : List V} {ds : List D} (h : FzL K A H vs ds) : ∀ k : Nat, FzL K A H (List.replicate k vs).flatten (List.replicate k ds).flatten
  | 0 => .nil
  | k + 1 => by
    rw [List.replicate_succ, List.replicate_succ, List.flatten_cons, List.flatten_cons]
    exact h.append (h.rep k)
theorem FzL.rev {vs : List V} {ds : List D} (h : FzL K A H vs ds) : FzL K A H vs.reverse ds.reverse := by
  induction vs generalizing ds with
  | nil => cases h; exact .nil
  | cons v vs ih =>
    cases h with
    | cons a b =>
      rw [List.reverse_cons, List.reverse_cons]
      exact (ih b).append (.cons a .nil)
end
section
variable {K : Frag} {A : List Addr} {H : Hp} {v : V}
theorem Fz.int_inv {i : Int} (h : Fz K A H v (.int i)) : v = .int i := by cases h; rfl
theorem Fz.bl_inv {i : Bool} (h : Fz K A H v (.bool i)) : v = .bl i := by cases h; rfl
theorem Fz.str_inv {i : Str} (h : Fz K A H v (.str i)) : v = .str i := by cases h; rfl
theorem Fz.non_inv (h : Fz K A H v .none) : v = .non := by cases h; rfl
theorem Fz.lst_inv {ds : List D} (h : Fz K A H v (.list ds)) : ∃ a xs, v = .ref a ∧ NdL A H a xs ∧ FzL K A H xs ds := by cases h; exact ⟨_, _, rfl, by assumption, by assumption⟩
theorem Fz.tup_inv {ds : List D} (h : Fz K A H v (.tuple ds)) : ∃ a xs, v = .ref a ∧ NdT K A H a xs ∧ FzL K A H xs ds := by cases h; exact ⟨_, _, rfl, by assumption, by assumption⟩
end

/-! ### the slots and what they hold -/
def oa (σ : L2.St) (ow : List Nat) : List Addr := ow.filterMap fun (i : Nat) => match (σ[i]? : Option (Option V)) with
  | some (some (.ref a)) => some a
  | _ => none
theorem mem_oa {σ : L2.St} {ow : List Nat} {a : Addr} : a ∈ oa σ ow ↔ ∃ i ∈ ow, σ[i]? = some (some (.ref a)) := by
  unfold oa
  rw [List.mem_filterMap]
  constructor
  · rintro ⟨i, hi, h⟩
    refine ⟨i, hi, ?_⟩
    split at h
    · rename_i b e; rw [e]; cases h; rfl
    · cases h
  · rintro ⟨i, hi, h⟩
    exact ⟨i, hi, by rw [h]⟩

/-- A0: the callers' own lists; ex: lists being made; io: a list handed in that may be changed (slot 0) -/
structure Bd where
  A0 : List Addr
  ex : List Addr
  io : Option Addr
def Bd.base (B : Bd) : List Addr := B.A0 ++ B.ex
def Bd.full (B : Bd) (σ : L2.St) (ow : List Nat) : List Addr := B.base ++ oa σ ow
def Bd.plus (B : Bd) (q : Addr) : Bd := { B with ex := q :: B.ex }

structure Rel (K : Frag) (B : Bd) (H0 : Hp) (ow : List Nat) (σ : L2.St) (H : Hp) (γ : List (Option D)) : Prop where
  len : σ.length = γ.length
  one : ∀ (i j : Nat) (a : Addr), i ∈ ow → j ∈ ow → σ[i]? = some (some (V.ref a)) → σ[j]? = some (some (V.ref a)) → i = j
  fz : ∀ (i : Nat) (d : D), i ∉ ow → γ[i]? = some (some d) → ∃ v, σ[i]? = some (some v) ∧ Fz K (B.full σ ow) H v d
  own : ∀ (i : Nat) (d : D), i ∈ ow → γ[i]? = some (some d) → ∃ a vs ds, σ[i]? = some (some (V.ref a)) ∧ d = .list ds ∧ (H a = some (.lst vs) ∧ vs.length ≤ szN) ∧ FzL K (B.full σ ow) H vs ds
  trk : ∀ a ∈ oa σ ow, ∃ xs, H a = some (.lst xs)
  fr : Fr B.io.toList H0 H
  new : ∀ a ∈ oa σ ow, H0 a = none ∨ a ∈ B.io.toList
  a0 : ∀ a ∈ B.A0, H0 a ≠ none ∧ a ∉ B.io.toList
  xt : ∀ a ∈ B.ex, H a ≠ none ∧ a ∉ oa σ ow
  io : ∀ p, B.io = some p → 0 ∈ ow ∧ σ[0]? = some (some (V.ref p))
section
variable {K : Frag} {B : Bd} {H0 H H' : Hp} {ow : List Nat} {σ : L2.St} {γ : List (Option D)}
theorem Rel.base_trk (r : Rel K B H0 ow σ H γ) : ∀ a ∈ B.base, H a ≠ none := fun a h => by
  rcases List.mem_append.mp h with h | h
  · obtain ⟨n, m⟩ := r.a0 a h
    cases e : H0 a with
    | none => exact absurd e n
    | some o => rw [r.fr a o e m]; simp
  · exact (r.xt a h).1
theorem Rel.tracked (r : Rel K B H0 ow σ H γ) : ∀ a ∈ B.full σ ow, H a ≠ none := fun a h => by
  rcases List.mem_append.mp h with h | h
  · exact r.base_trk a h
  · obtain ⟨xs, e⟩ := r.trk a h
    rw [e]; simp
theorem Rel.apart (r : Rel K B H0 ow σ H γ) : ∀ a ∈ oa σ ow, a ∉ B.base := fun a h q => by
  rcases List.mem_append.mp q with q | q
  · obtain ⟨n1, n2⟩ := r.a0 a q
    rcases r.new a h with n | n
    · exact n1 n
    · exact n2 n
  · exact (r.xt a q).2 h
/-- the heap grows -/
theorem Rel.grow (r : Rel K B H0 ow σ H γ) (f : Fr [] H H') : Rel K B H0 ow σ H' γ :=
  ⟨r.len, r.one, fun i d a b => let ⟨v, e, z⟩ := r.fz i d a b; ⟨v, e, z.fr f.nil⟩, fun i d a b => let ⟨x, vs, ds, e1, e2, e3, e4⟩ := r.own i d a b; ⟨x, vs, ds, e1, e2, ⟨f _ _ e3.1 (by simp), e3.2⟩, e4.fr f.nil⟩,
    fun a h => let ⟨xs, e⟩ := r.trk a h; ⟨xs, f _ _ e (by simp)⟩, r.fr.trans f.nil, r.new, r.a0, fun a h => ⟨f.some (r.xt a h).1, (r.xt a h).2⟩, r.io⟩
/-- some slots are forgotten -/
theorem Rel.weak {γ' : List (Option D)} (r : Rel K B H0 ow σ H γ) (hl : γ'.length = γ.length) (h : ∀ (i : Nat) (d : D), γ'[i]? = some (some d) → γ[i]? = some (some d)) : Rel K B H0 ow σ H γ' :=
  ⟨by rw [hl]; exact r.len, r.one, fun i d a b => r.fz i d a (h i d b), fun i d a b => r.own i d a (h i d b), r.trk, r.fr, r.new, r.a0, r.xt, r.io⟩
/-- a list is being made at q -/
theorem Rel.plus {q : Addr} (r : Rel K B H0 ow σ H γ) (hq : H q = none) {o : HO} : Rel K (B.plus q) H0 ow σ (upd H q o) γ := by
  have hs : ∀ x ∈ (B.plus q).full σ ow, x ∈ q :: B.full σ ow := fun x hx => by
    simp only [Bd.full, Bd.base, Bd.plus, List.mem_append, List.mem_cons] at hx ⊢
    rcases hx with (h | h | h) | h
    · exact .inr (.inl (.inl h))
    · exact .inl h
    · exact .inr (.inl (.inr h))
    · exact .inr (.inr h)
  have nq : ∀ a, H a ≠ none → a ≠ q := fun a h e => h (by rw [e]; exact hq)
  refine ⟨r.len, r.one, fun i d a b => ?_, fun i d a b => ?_, fun a h => ?_, r.fr.trans (Fr.new hq), r.new, r.a0, fun a h => ?_, r.io⟩
  · obtain ⟨v, e, z⟩ := r.fz i d a b
    exact ⟨v, e, ((z.more hq).sub hs).fr (Fr.new hq)⟩
  · obtain ⟨x, vs, ds, e1, e2, e3, e4⟩ := r.own i d a b
    exact ⟨x, vs, ds, e1, e2, ⟨by rw [upd_ne (nq x (by rw [e3.1]; simp))]; exact e3.1, e3.2⟩, ((e4.more hq).sub hs).fr (Fr.new hq)⟩
  · obtain ⟨xs, e⟩ := r.trk a h
    exact ⟨xs, by rw [upd_ne (nq a (by rw [e]; simp))]; exact e⟩
  · rcases List.mem_cons.mp h with e | h
    · subst e
      refine ⟨by rw [upd_same]; simp, fun z => ?_⟩
      obtain ⟨xs, e⟩ := r.trk a z
      rw [hq] at e; cases e
    · obtain ⟨n, m⟩ := r.xt a h
      exact ⟨by rw [upd_ne (nq a n)]; exact n, m⟩
theorem full_plus {q : Addr} : ∀ x ∈ B.full σ ow, x ∈ (B.plus q).full σ ow := fun x hx => by
  simp only [Bd.full, Bd.base, Bd.plus, List.mem_append, List.mem_cons] at hx ⊢
  rcases hx with (h | h) | h
  · exact .inl (.inl h)
  · exact .inl (.inr (.inr h))
  · exact .inr h
theorem Rel.unplus {q : Addr} (r : Rel K (B.plus q) H0 ow σ H γ) : Rel K B H0 ow σ H γ :=
  ⟨r.len, r.one, fun i d a b => let ⟨v, e, z⟩ := r.fz i d a b; ⟨v, e, z.sub full_plus⟩, fun i d a b => let ⟨x, vs, ds, e1, e2, e3, e4⟩ := r.own i d a b; ⟨x, vs, ds, e1, e2, e3, e4.sub full_plus⟩,
    r.trk, r.fr, r.new, r.a0, fun a h => r.xt a (List.mem_cons_of_mem _ h), r.io⟩
/-- a list being made is written -/
theorem Rel.writeEx {q : Addr} {o : HO} (r : Rel K B H0 ow σ H γ) (hq : q ∈ B.ex) (hn : q ∉ B.io.toList) (h0 : H0 q = none) : Rel K B H0 ow σ (upd H q o) γ := by
  have nq : ∀ a, a ∈ oa σ ow → a ≠ q := fun a h e => (r.xt q hq).2 (e ▸ h)
  have hf : q ∈ B.full σ ow := List.mem_append_left _ (List.mem_append_right _ hq)
  refine ⟨r.len, r.one, fun i d a b => ?_, fun i d a b => ?_, fun a h => ?_, fun b o' e n => ?_, r.new, r.a0, fun a h => ?_, r.io⟩
  · obtain ⟨v, e, z⟩ := r.fz i d a b
    exact ⟨v, e, z.fr (Fr.at hf)⟩
  · obtain ⟨x, vs, ds, e1, e2, e3, e4⟩ := r.own i d a b
    exact ⟨x, vs, ds, e1, e2, ⟨by rw [upd_ne (nq x (mem_oa.mpr ⟨i, a, e1⟩))]; exact e3.1, e3.2⟩, e4.fr (Fr.at hf)⟩
  · obtain ⟨xs, e⟩ := r.trk a h
    exact ⟨xs, by rw [upd_ne (nq a h)]; exact e⟩
  · rw [upd_ne (fun z => by rw [z, h0] at e; cases e)]
    exact r.fr b o' e n
  · refine ⟨?_, (r.xt a h).2⟩
    by_cases e : a = q
    · rw [e, upd_same]; simp
    · rw [upd_ne e]; exact (r.xt a h).1
end
/-- γ' is γ with some slots forgotten -/
inductive Wk : List (Option D) → List (Option D) → Prop
  | nil : Wk [] []
  | k {d : Option D} {γ' γ : List (Option D)} : Wk γ' γ → Wk (d :: γ') (d :: γ)
  | f {d : Option D} {γ' γ : List (Option D)} : Wk γ' γ → Wk (none :: γ') (d :: γ)
theorem Wk.len : ∀ {γ' γ : List (Option D)}, Wk γ' γ → γ'.length = γ.length
  | _, _, .nil => rfl
  | _, _, .k h => by simp [h.len]
  | _, _, .f h => by simp [h.len]
theorem Wk.at : ∀ {γ' γ : List (Option D)}, Wk γ' γ → ∀ (i : Nat) (d : D), γ'[i]? = some (some d) → γ[i]? = some (some d)
  | _, _, .nil, _, _, h => h
  | _, _, .k h, 0, _, e => e
  | _, _, .k h, i + 1, d, e => by simpa using h.at i d (by simpa using e)
  | _, _, .f h, 0, _, e => by simp at e
  | _, _, .f h, i + 1, d, e => by simpa using h.at i d (by simpa using e)
theorem Rel.wk {K : Frag} {B : Bd} {H0 H : Hp} {ow : List Nat} {σ : L2.St} {γ γ' : List (Option D)} (r : Rel K B H0 ow σ H γ) (h : Wk γ' γ) : Rel K B H0 ow σ H γ' := r.weak h.len h.at
end Y
namespace Y
open PySem PySem.Spec L2

/-! ### codecs -/
@[reducible] def cI : Int → D := .int
@[reducible] def cB : Bool → D := .bool
@[reducible] def cS : Str → D := .str
@[reducible] def cN : Unit → D := fun _ => .none
@[reducible] def cD : D → D := fun d => d
@[reducible] def cT {α : Type} (c : α → D) : List α → D := fun xs => .tuple (xs.map c)
@[reducible] def cL {α : Type} (c : α → D) : List α → D := fun xs => .list (xs.map c)
@[reducible] def c0 : Unit → D := fun _ => .tuple []
@[reducible] def c1 {α : Type} (a : α → D) : α → D := fun p => .tuple [a p]
@[reducible] def c2 {α β : Type} (a : α → D) (b : β → D) : α × β → D := fun p => .tuple [a p.1, b p.2]
@[reducible] def c3 {α β γ : Type} (a : α → D) (b : β → D) (c : γ → D) : α × β × γ → D := fun p => .tuple [a p.1, b p.2.1, c p.2.2]
@[reducible] def c4 {α β γ δ : Type} (a : α → D) (b : β → D) (c : γ → D) (d : δ → D) : α × β × γ × δ → D := fun p => .tuple [a p.1, b p.2.1, c p.2.2.1, d p.2.2.2]
def cO {α : Type} (c : α → D) : Option α → D
  | .none => .none
  | .some x => c x
/-- arguments -/
@[reducible] def an : Unit → List D := fun _ => []
@[reducible] def ac {α β : Type} (a : α → D) (b : β → List D) : α × β → List D := fun p => a p.1 :: b p.2

/-! ### judgements -/
section
variable {E α β γ : Type}
def tS (K : Frag) (B : Bd) (ow : List Nat) (Γ : E → List (Option D)) (p s : Bool) (c : α → D) (G : E → Prop) (d : E → α) (u : E → E) : TE := fun σ H Q =>
  ∃ H0 ε, Rel K B H0 ow σ H (Γ ε) ∧ G ε ∧ ∀ v H', Fr (cond p [] (oa σ ow)) H H' → Rel K B H0 ow σ H' (Γ (u ε)) → Fz K (cond s (B.full σ ow) B.base) H' v (c (d ε)) → Q v H'
def tAs (K : Frag) (B : Bd) (ow : List Nat) (Γ : E → List (Option D)) (p s : Bool) (c : α → List D) (G : E → Prop) (d : E → α) (u : E → E) : TA := fun σ H Q =>
  ∃ H0 ε, Rel K B H0 ow σ H (Γ ε) ∧ G ε ∧ ∀ v H', Fr (cond p [] (oa σ ow)) H H' → Rel K B H0 ow σ H' (Γ (u ε)) → FzL K (cond s (B.full σ ow) B.base) H' v (c (d ε)) → Q v H'
def tTs (K : Frag) (B : Bd) (ow : List Nat) (Γ : E → List (Option D)) (p : Bool) (G : E → Prop) (d : E → Bool) (u : E → E) : TT := fun σ H Q =>
  ∃ H0 ε, Rel K B H0 ow σ H (Γ ε) ∧ G ε ∧ ∀ H', Fr (cond p [] (oa σ ow)) H H' → Rel K B H0 ow σ H' (Γ (u ε)) → Q (d ε) H'
structure De (X : Cx) (B : Bd) (ow : List Nat) (Γ : E → List (Option D)) (p s : Bool) (e : Expr) (c : α → D) (G : E → Prop) (d : E → α) (u : E → E) : Prop where
  pe : PE X e (tS X.K B ow Γ p s c G d u)
structure DA (X : Cx) (B : Bd) (ow : List Nat) (Γ : E → List (Option D)) (p s : Bool) (es : List Expr) (c : α → List D) (G : E → Prop) (d : E → α) (u : E → E) : Prop where
  pa : PA X es (tAs X.K B ow Γ p s c G d u)
structure Dt (X : Cx) (B : Bd) (ow : List Nat) (Γ : E → List (Option D)) (p : Bool) (e : Expr) (G : E → Prop) (d : E → Bool) (u : E → E) : Prop where
  pt : PT X e (tTs X.K B ow Γ p G d u)
structure Dw (X : Cx) (B : Bd) (ow : List Nat) (Γ : E → List (Option D)) (p : Bool) (e : Expr) (G : E → Prop) (d : E → Bool) (u : E → E) : Prop where
  pw : PW X e (tTs X.K B ow Γ p G d u)
end
theorem _root_.L2.PE.weaken {X : Cx} {e : Expr} {t t' : TE} (h : PE X e t) (w : ∀ σ H Q, t' σ H Q → t σ H Q) : PE X e t' := ⟨fun pins s σ H Q I q => h.run pins s σ H Q I (w σ H Q q)⟩
theorem _root_.L2.PT.weaken {X : Cx} {e : Expr} {t t' : TT} (h : PT X e t) (w : ∀ σ H Q, t' σ H Q → t σ H Q) : PT X e t' := ⟨fun pins s σ H Q I q => h.run pins s σ H Q I (w σ H Q q)⟩
theorem _root_.L2.PW.weaken {X : Cx} {e : Expr} {t t' : TT} (h : PW X e t) (w : ∀ σ H Q, t' σ H Q → t σ H Q) : PW X e t' := ⟨fun wh pins s σ H Q I q => h.run wh pins s σ H Q I (w σ H Q q)⟩
theorem _root_.L2.PA.weaken {X : Cx} {e : List Expr} {t t' : TA} (h : PA X e t) (w : ∀ σ H Q, t' σ H Q → t σ H Q) : PA X e t' := ⟨fun po pins s σ H Q I q => h.run po pins s σ H Q I (w σ H Q q)⟩
theorem _root_.L2.PS.weaken {X : Cx} {e : Stmt} {t t' : TS} (h : PS X e t) (w : ∀ D σ H, t' D σ H → t D σ H) : PS X e t' := ⟨fun pins s σ H D I q => h.run pins s σ H D I (w D σ H q)⟩
theorem _root_.L2.PSs.weaken {X : Cx} {e : List Stmt} {t t' : TS} (h : PSs X e t) (w : ∀ D σ H, t' D σ H → t D σ H) : PSs X e t' := ⟨fun pins s σ H D I q => h.run pins s σ H D I (w D σ H q)⟩

/-! ### operations on values -/
def Tr (A : List Addr) (H : Hp) : Prop := ∀ a ∈ A, H a ≠ none
theorem Tr.fr {A : List Addr} {H H' : Hp} (t : Tr A H) (f : Fr [] H H') : Tr A H' := fun a h => by
  cases e : H a with
  | none => exact absurd e (t a h)
  | some o => rw [f a o e (by simp)]; simp
theorem Tr.new {A : List Addr} {H : Hp} {p : Addr} (t : Tr A H) (h : H p = none) : p ∉ A := fun q => t p q h
section
variable {α β γ : Type}
def Op2 (K : Frag) (r : R2) (ca : α → D) (cb : β → D) (c : γ → D) (C : α → β → Prop) (f : α → β → γ) : Prop :=
  ∀ (A : List Addr) (H : Hp) (x : α) (y : β) (v w : V) (Q : VK), Tr A H → Fz K A H v (ca x) → Fz K A H w (cb y) → C x y → (∀ z H', Fr [] H H' → Fz K A H' z (c (f x y)) → Q z H') → r v w H Q
def Op1 (K : Frag) (r : V → Hp → VK → Prop) (ca : α → D) (c : γ → D) (C : α → Prop) (f : α → γ) : Prop :=
  ∀ (A : List Addr) (H : Hp) (x : α) (v : V) (Q : VK), Tr A H → Fz K A H v (ca x) → C x → (∀ z H', Fr [] H H' → Fz K A H' z (c (f x)) → Q z H') → r v H Q
def OpL (K : Frag) (r : List V → Hp → VK → Prop) (ca : α → List D) (c : γ → D) (C : α → Prop) (f : α → γ) : Prop :=
  ∀ (A : List Addr) (H : Hp) (x : α) (v : List V) (Q : VK), Tr A H → FzL K A H v (ca x) → C x → (∀ z H', Fr [] H H' → Fz K A H' z (c (f x)) → Q z H') → r v H Q
end

section
variable {X : Cx} {B : Bd} {ow : List Nat} {E α β γ : Type} {Γ : E → List (Option D)} {p p1 p2 s : Bool} {e e1 e2 e3 : Expr} {pos : Pos} {c : α → D} {ca : α → D} {cb : β → D} {cc : γ → D} {G G1 G2 : E → Prop} {d : E → α} {d1 : E → α} {d2 : E → β} {u u1 u2 : E → E}

theorem cond_fr {A : List Addr} {H H' : Hp} (h : Fr (cond p1 [] A) H H') (b : Bool) : Fr (cond (p1 && b) [] A) H H' := by
  cases p1 with
  | true => cases b with
    | true => exact h
    | false => exact Fr.nil h
  | false => exact h
theorem cond_fr2 {A : List Addr} {H H' : Hp} (h : Fr (cond p2 [] A) H H') (b : Bool) : Fr (cond (b && p2) [] A) H H' := by
  rw [Bool.and_comm]; exact cond_fr h b
theorem cond_fz {K : Frag} {A A0 O : List Addr} {H H' : Hp} {v : V} {x : D} (hO : ∀ a ∈ O, a ∈ A) (hs : (s || p2) = true) (f : Fr (cond p2 [] O) H H') (h : Fz K (cond s A A0) H v x) : Fz K (cond s A A0) H' v x := by
  cases p2 with
  | true => exact h.fr (Fr.nil f)
  | false => cases s with
    | true => exact h.fr (f.mono hO)
    | false => cases hs
theorem cond_fzl {K : Frag} {A A0 O : List Addr} {H H' : Hp} {v : List V} {x : List D} (hO : ∀ a ∈ O, a ∈ A) (hs : (s || p2) = true) (f : Fr (cond p2 [] O) H H') (h : FzL K (cond s A A0) H v x) : FzL K (cond s A A0) H' v x := by
  cases p2 with
  | true => exact h.fr (Fr.nil f)
  | false => cases s with
    | true => exact h.fr (f.mono hO)
    | false => cases hs
theorem Rel.tr {K : Frag} {H0 H : Hp} {σ : L2.St} {γ : List (Option D)} (r : Rel K B H0 ow σ H γ) (s : Bool) : Tr (cond s (B.full σ ow) B.base) H := fun a h => by
  cases s with
  | true => exact r.tracked a h
  | false => exact r.base_trk a h

/-- a value is known for less -/
theorem De.wk (h : De X B ow Γ p true e c G d u) : De X B ow Γ p false e c G d u := ⟨h.pe.weaken fun σ H Q ⟨H0, ε, r, g, k⟩ => ⟨H0, ε, r, g, fun v H' f r' z => k v H' f r' (z.sub fun a h => List.mem_append_left _ h)⟩⟩
theorem DA.wk {ca : α → List D} {es : List Expr} (h : DA X B ow Γ p true es ca G d u) : DA X B ow Γ p false es ca G d u := ⟨h.pa.weaken fun σ H Q ⟨H0, ε, r, g, k⟩ => ⟨H0, ε, r, g, fun v H' f r' z => k v H' f r' (z.sub fun a h => List.mem_append_left _ h)⟩⟩
/-- data without lists are known for all -/
theorem De.up (hl : ∀ x, lf (c x) = true) (h : De X B ow Γ p false e c G d u) : De X B ow Γ p true e c G d u := ⟨h.pe.weaken fun σ H Q ⟨H0, ε, r, g, k⟩ => ⟨H0, ε, r, g, fun v H' f r' z => k v H' f r' (z.up r'.trk (hl _))⟩⟩
/-- the guard is strengthened, the value told otherwise -/
theorem De.is {d' : E → α} {G' : E → Prop} (h : De X B ow Γ p s e c G d u) (hg : ∀ ε, G' ε → G ε) (hd : ∀ ε, G' ε → d ε = d' ε) : De X B ow Γ p s e c G' d' u :=
  ⟨h.pe.weaken fun σ H Q ⟨H0, ε, r, g, k⟩ => ⟨H0, ε, r, hg ε g, fun v H' f r' z => k v H' f r' (by rw [← hd ε g]; exact z)⟩⟩
/-- another codec -/
theorem De.as {α' : Type} {c' : α' → D} {g : α → α'} (hc : ∀ x, c x = c' (g x)) (h : De X B ow Γ p s e c G d u) : De X B ow Γ p s e c' G (fun ε => g (d ε)) u :=
  ⟨h.pe.weaken fun σ H Q ⟨H0, ε, r, gg, k⟩ => ⟨H0, ε, r, gg, fun v H' f r' z => k v H' f r' (by show Fz _ _ _ _ (c' (g (d ε))); rw [← hc]; exact z)⟩⟩

/-! ### names and constants -/
theorem d_var (i : Nat) {x : Str} (g : E → α) (c : α → D) (h : ∀ ε, (Γ ε)[i]? = some (some (c (g ε)))) (ho : i ∉ ow := by decide) (hN : X.N[i]? = some x := by rfl)
    (hv : Vis X.env.scope x := by first | exact Or.inl rfl | exact Or.inr (Or.inl rfl) | exact Or.inr (Or.inr rfl)) (hd : (x == ("__debug__" : Str)) = false := by decide)
    (hcd : (x == ("__classdict__" : Str)) = false := by decide) : De X B ow Γ true true (.Name x pos) c (fun _ => True) g (fun ε => ε) :=
  ⟨(pe_var hN hv hd hcd).weaken fun σ H Q ⟨H0, ε, r, _, k⟩ => by
    obtain ⟨v, e, z⟩ := r.fz i _ ho (h ε)
    exact ⟨v, e, k v H (Fr.refl _ _) r z⟩⟩
/-- a list of one's own, read -/
theorem d_own (i : Nat) {x : Str} (g : E → α) (c : α → D) (h : ∀ ε, (Γ ε)[i]? = some (some (c (g ε)))) (ho : i ∈ ow := by decide) (hN : X.N[i]? = some x := by rfl)
    (hv : Vis X.env.scope x := by first | exact Or.inl rfl | exact Or.inr (Or.inl rfl) | exact Or.inr (Or.inr rfl)) (hd : (x == ("__debug__" : Str)) = false := by decide)
    (hcd : (x == ("__classdict__" : Str)) = false := by decide) : De X B ow Γ true false (.Name x pos) c (fun _ => True) g (fun ε => ε) :=
  ⟨(pe_var hN hv hd hcd).weaken fun σ H Q ⟨H0, ε, r, _, k⟩ => by
    obtain ⟨a, vs, ds, e, ed, hl, z⟩ := r.own i _ ho (h ε)
    refine ⟨_, e, k _ H (Fr.refl _ _) r ?_⟩
    rw [ed]
    exact .lst ⟨⟨r.apart a (mem_oa.mpr ⟨i, ho, e⟩), hl.1⟩, hl.2⟩ (z.sub fun b q => List.mem_append_left _ q)⟩
theorem d_int {i j} : De X B ow Γ true true (.Constant (.int i) j pos) cI (fun _ => True) (fun _ => i) (fun ε => ε) := ⟨pe_int.weaken fun σ H Q ⟨_, ε, r, _, k⟩ => k _ H (Fr.refl _ _) r (.int i)⟩
theorem d_bl {b j} : De X B ow Γ true true (.Constant (.bool b) j pos) cB (fun _ => True) (fun _ => b) (fun ε => ε) := ⟨pe_bl.weaken fun σ H Q ⟨_, ε, r, _, k⟩ => k _ H (Fr.refl _ _) r (.bl b)⟩
theorem d_str {x j} : De X B ow Γ true true (.Constant (.str x) j pos) cS (fun _ => True) (fun _ => x) (fun ε => ε) := ⟨pe_str.weaken fun σ H Q ⟨_, ε, r, _, k⟩ => k _ H (Fr.refl _ _) r (.str x)⟩
theorem d_non {j} : De X B ow Γ true true (.Constant .none j pos) cN (fun _ => True) (fun _ => ()) (fun ε => ε) := ⟨pe_non.weaken fun σ H Q ⟨_, ε, r, _, k⟩ => k _ H (Fr.refl _ _) r .non⟩
/-- a constant of the module: k says what it is -/
theorem d_glob {x : Str} {v : V} {w : Value} {c : α → D} {a : α} (hm : X.mg x = some w) (r : RelV v w) (k : ∀ A H, Fz X.K A H v (c a)) (hg : Gl X x := by rfl) (hd : (x == ("__debug__" : Str)) = false := by decide) :
    De X B ow Γ true true (.Name x pos) c (fun _ => True) (fun _ => a) (fun ε => ε) := ⟨(pe_glob hg hm r hd).weaken fun σ H Q ⟨_, ε, r, _, q⟩ => q _ H (Fr.refl _ _) r (k _ _)⟩

/-! ### two operands -/
theorem tOp_of {K : Frag} {r : R2} {C : α → β → Prop} {f : α → β → γ} (hv : Op2 K r ca cb cc C f) (hs : (s || p2) = true) {σ : L2.St} {H : Hp} {Q : VK}
    (h : tS K B ow Γ (p1 && p2) s cc (fun ε => G1 ε ∧ G2 (u1 ε) ∧ C (d1 ε) (d2 (u1 ε))) (fun ε => f (d1 ε) (d2 (u1 ε))) (fun ε => u2 (u1 ε)) σ H Q) :
    tOp r (tS K B ow Γ p1 s ca G1 d1 u1) (tS K B ow Γ p2 s cb G2 d2 u2) σ H Q := by
  obtain ⟨H0, ε, rl, ⟨g1, g2, g3⟩, k⟩ := h
  refine ⟨H0, ε, rl, g1, fun v H1 f1 r1 z1 => ⟨H0, u1 ε, r1, g2, fun w H2 f2 r2 z2 => ?_⟩⟩
  exact hv _ H2 _ _ v w Q (r2.tr s) (cond_fz (fun a h => List.mem_append_right _ h) hs f2 z1) z2 g3 fun z H3 f3 z3 => k z H3 (((cond_fr f1 p2).trans (cond_fr2 f2 p1)).trans f3.nil) (r2.grow f3) z3
theorem d_op {op : Operator} {r : R2} {C : α → β → Prop} {f : α → β → γ} (ho : OpR X (binaryOp op) r) (hv : Op2 X.K r ca cb cc C f) (h1 : De X B ow Γ p1 s e1 ca G1 d1 u1) (h2 : De X B ow Γ p2 s e2 cb G2 d2 u2) (hs : (s || p2) = true := by rfl) :
    De X B ow Γ (p1 && p2) s (.BinOp e1 op e2 pos) cc (fun ε => G1 ε ∧ G2 (u1 ε) ∧ C (d1 ε) (d2 (u1 ε))) (fun ε => f (d1 ε) (d2 (u1 ε))) (fun ε => u2 (u1 ε)) :=
  ⟨(pe_op ho h1.pe h2.pe).weaken fun _ _ _ h => tOp_of hv hs h⟩
theorem d_cmp {op : CmpOp} {r : R2} {C : α → β → Prop} {f : α → β → γ} (ho : OpR X (compareOp op) r) (hv : Op2 X.K r ca cb cc C f) (h1 : De X B ow Γ p1 s e1 ca G1 d1 u1) (h2 : De X B ow Γ p2 s e2 cb G2 d2 u2) (hm : behindInMarks op e2 = false) (hs : (s || p2) = true := by rfl) :
    De X B ow Γ (p1 && p2) s (.Compare e1 [op] [e2] pos) cc (fun ε => G1 ε ∧ G2 (u1 ε) ∧ C (d1 ε) (d2 (u1 ε))) (fun ε => f (d1 ε) (d2 (u1 ε))) (fun ε => u2 (u1 ε)) :=
  ⟨(pe_cmpR ho h1.pe h2.pe hm).weaken fun _ _ _ h => tOp_of hv hs h⟩
theorem t_cmp {op : CmpOp} {r : R2} {C : α → β → Prop} {f : α → β → Bool} (ho : OpR X (compareOp op) r) (hv : Op2 X.K r ca cb cB C f) (h1 : De X B ow Γ p1 s e1 ca G1 d1 u1) (h2 : De X B ow Γ p2 s e2 cb G2 d2 u2) (hm : behindInMarks op e2 = false) (hs : (s || p2) = true := by rfl) :
    Dt X B ow Γ (p1 && p2) (.Compare e1 [op] [e2] pos) (fun ε => G1 ε ∧ G2 (u1 ε) ∧ C (d1 ε) (d2 (u1 ε))) (fun ε => f (d1 ε) (d2 (u1 ε))) (fun ε => u2 (u1 ε)) :=
  ⟨(pt_cmpR ho h1.pe h2.pe hm).weaken fun σ H Q ⟨H0, ε, rl, g, k⟩ => tOp_of (cc := cB) hv hs ⟨H0, ε, rl, g, fun v H' f r' z => ⟨_, z.bl_inv, k H' f r'⟩⟩⟩
theorem d_ix {r : R2} {C : α → β → Prop} {f : α → β → γ} (ho : IxR X r) (hv : Op2 X.K r ca cb cc C f) (h1 : De X B ow Γ p1 s e1 ca G1 d1 u1) (h2 : De X B ow Γ p2 s e2 cb G2 d2 u2) (hx : PlainIx e2 := by exact fun _ _ => rfl) (hs : (s || p2) = true := by rfl) :
    De X B ow Γ (p1 && p2) s (.Subscript e1 e2 pos) cc (fun ε => G1 ε ∧ G2 (u1 ε) ∧ C (d1 ε) (d2 (u1 ε))) (fun ε => f (d1 ε) (d2 (u1 ε))) (fun ε => u2 (u1 ε)) :=
  ⟨(pe_ix ho h1.pe h2.pe hx).weaken fun _ _ _ h => tOp_of hv hs h⟩
theorem d_un {op : UnaryOp} {r : V → Hp → VK → Prop} {C : α → Prop} {f : α → γ} (ho : UnR X (unaryOp op) r) (hv : Op1 X.K r ca cc C f) (h1 : De X B ow Γ p1 s e1 ca G1 d1 u1) :
    De X B ow Γ p1 s (.UnaryOp op e1 pos) cc (fun ε => G1 ε ∧ C (d1 ε)) (fun ε => f (d1 ε)) u1 :=
  ⟨(pe_un ho h1.pe).weaken fun σ H Q ⟨H0, ε, rl, ⟨g1, g2⟩, k⟩ => ⟨H0, ε, rl, g1, fun v H1 f1 r1 z1 => hv _ H1 _ v Q (r1.tr s) z1 g2 fun z H3 f3 z3 => k z H3 (f1.trans f3.nil) (r1.grow f3) z3⟩⟩

/-! ### argument lists -/
theorem a_nil : DA X B ow Γ true s [] an (fun _ => True) (fun _ => ()) (fun ε => ε) := ⟨pa_nil.weaken fun σ H Q ⟨_, ε, r, _, k⟩ => k _ H (Fr.refl _ _) r .nil⟩
theorem a_cons {es : List Expr} {cb : β → List D} (h1 : De X B ow Γ p1 s e1 ca G1 d1 u1) (h2 : DA X B ow Γ p2 s es cb G2 d2 u2) (hs : (s || p2) = true := by rfl) (hst : starEach (e1 :: es) X.env = (false, eval e1 X.env) :: starEach es X.env := by rfl) :
    DA X B ow Γ (p1 && p2) s (e1 :: es) (ac ca cb) (fun ε => G1 ε ∧ G2 (u1 ε)) (fun ε => (d1 ε, d2 (u1 ε))) (fun ε => u2 (u1 ε)) :=
  ⟨(pa_cons h1.pe h2.pa hst).weaken fun σ H Q ⟨H0, ε, rl, ⟨g1, g2⟩, k⟩ => ⟨H0, ε, rl, g1, fun v H1 f1 r1 z1 => ⟨H0, u1 ε, r1, g2, fun w H2 f2 r2 z2 => k _ H2 ((cond_fr f1 p2).trans (cond_fr2 f2 p1)) r2 (.cons (cond_fz (fun a h => List.mem_append_right _ h) hs f2 z1) z2)⟩⟩⟩
/-- a tuple, a list of written items -/
theorem d_tup {es : List Expr} {cs : α → List D} {x1} {ct : α → D} (hc : ∀ x, ct x = .tuple (cs x)) (hl : ∀ x, (cs x).length ≤ 1000) (h : DA X B ow Γ p s es cs G d u) : De X B ow Γ p s (.Tuple es x1 pos) ct G d u :=
  ⟨(pe_tup h.pa).weaken fun σ H Q ⟨H0, ε, rl, g, k⟩ => ⟨H0, ε, rl, g, fun vs H1 f1 r1 z1 => ⟨by rw [z1.length]; exact Nat.le_trans (hl _) (by decide), fun q hq => k _ _ (f1.trans (Fr.new hq)) (r1.grow (Fr.new hq)) (by
    rw [hc]
    exact .tup (.inl ⟨(r1.tr s).new hq, upd_same, by rw [z1.length]; exact Nat.le_trans (hl _) (by decide)⟩) (z1.fr (Fr.new hq)))⟩⟩⟩
theorem d_lst {es : List Expr} {cs : α → List D} {ct : α → D} (hc : ∀ x, ct x = .list (cs x)) (hl : ∀ x, (cs x).length ≤ 1000) (h : DA X B ow Γ p s es cs G d u) : De X B ow Γ p s (.List es pos) ct G d u :=
  ⟨(pe_lst h.pa).weaken fun σ H Q ⟨H0, ε, rl, g, k⟩ => ⟨H0, ε, rl, g, fun vs H1 f1 r1 z1 => ⟨by rw [z1.length]; exact Nat.le_trans (hl _) (by decide), fun q hq => k _ _ (f1.trans (Fr.new hq)) (r1.grow (Fr.new hq)) (by
    rw [hc]
    exact .lst ⟨⟨(r1.tr s).new hq, upd_same⟩, by rw [z1.length]; exact Nat.le_trans (hl _) (by decide)⟩ (z1.fr (Fr.new hq)))⟩⟩⟩
/-- a built-in called -/
theorem d_blt {x : Str} {id : String} {es : List Expr} {ca : α → List D} {r : List V → Hp → VK → Prop} {C : α → Prop} {f : α → γ} {px : Pos} (ho : CallR X (.builtin id) r) (hv : OpL X.K r ca cc C f) (hm : X.mg x = none) (hb : bootBuiltins x = some (.builtin id)) (h : DA X B ow Γ p s (e1 :: es) ca G d u)
    (hg : Gl X x := by rfl) (hn : x ≠ "__name__" := by decide) (hdb : (x == ("__debug__" : Str)) = false := by decide) (he : starEach (e1 :: es) X.env = (false, eval e1 X.env) :: starEach es X.env := by rfl) (hpl : (backTo pos (starEach es X.env)).any (·.1) = false := by rfl) :
    De X B ow Γ p s (.Call (.Name x px) (e1 :: es) [] pos) cc (fun ε => G ε ∧ C (d ε)) (fun ε => f (d ε)) u :=
  ⟨(pe_callB ho hg hm hb h.pa hn hdb he hpl).weaken fun σ H Q ⟨H0, ε, rl, ⟨g1, g2⟩, k⟩ => ⟨H0, ε, rl, g1, fun v H1 f1 r1 z1 => hv _ H1 _ v Q (r1.tr s) z1 g2 fun z H3 f3 z3 => k z H3 (f1.trans f3.nil) (r1.grow f3) z3⟩⟩
theorem d_ty {x : Str} {T : String} {es : List Expr} {ca : α → List D} {r : List V → Hp → VK → Prop} {C : α → Prop} {f : α → γ} {px : Pos} (ho : CallR X (.type T) r) (hv : OpL X.K r ca cc C f) (hm : X.mg x = none) (hb : bootBuiltins x = some (.type T)) (h : DA X B ow Γ p s (e1 :: es) ca G d u)
    (hg : Gl X x := by rfl) (hn : x ≠ "__name__" := by decide) (hdb : (x == ("__debug__" : Str)) = false := by decide) (he : starEach (e1 :: es) X.env = (false, eval e1 X.env) :: starEach es X.env := by rfl) (hpl : (backTo pos (starEach es X.env)).any (·.1) = false := by rfl) :
    De X B ow Γ p s (.Call (.Name x px) (e1 :: es) [] pos) cc (fun ε => G ε ∧ C (d ε)) (fun ε => f (d ε)) u :=
  ⟨(pe_callTy ho hg hm hb h.pa hn hdb he hpl).weaken fun σ H Q ⟨H0, ε, rl, ⟨g1, g2⟩, k⟩ => ⟨H0, ε, rl, g1, fun v H1 f1 r1 z1 => hv _ H1 _ v Q (r1.tr s) z1 g2 fun z H3 f3 z3 => k z H3 (f1.trans f3.nil) (r1.grow f3) z3⟩⟩

/-! ### tests -/
variable {t t1 t2 : E → Bool}
theorem t_val (h : De X B ow Γ p s e cB G t u) (he : ∀ whole, isTrue e X.env whole = (do let v ← whole; standAt e.pos; holding [v] (truthy v)) := by intro _; rfl) : Dt X B ow Γ p e G t u :=
  ⟨(pt_val h.pe he).weaken fun σ H Q ⟨H0, ε, rl, g, k⟩ => ⟨H0, ε, rl, g, fun v H1 f1 r1 z1 => ⟨_, z1.bl_inv, k H1 f1 r1⟩⟩⟩
theorem t_not (h : Dt X B ow Γ p e G t u) : Dt X B ow Γ p (.UnaryOp .Not e pos) G (fun ε => !t ε) u :=
  ⟨(pt_not h.pt).weaken fun σ H Q ⟨H0, ε, rl, g, k⟩ => ⟨H0, ε, rl, g, fun H1 f1 r1 => k H1 f1 r1⟩⟩
theorem w_and1 (h : Dt X B ow Γ p e G t u) : Dw X B ow Γ p (.BoolOp .And [e] pos) G t u := ⟨pw_and1 h.pt⟩
theorem w_or1 (h : Dt X B ow Γ p e G t u) : Dw X B ow Γ p (.BoolOp .Or [e] pos) G t u := ⟨pw_or1 h.pt⟩
theorem w_and {es : List Expr} (h1 : Dt X B ow Γ p1 e1 G1 t1 u1) (h2 : Dw X B ow Γ p2 (.BoolOp .And (e2 :: es) pos) G2 t2 u2) :
    Dw X B ow Γ (p1 && p2) (.BoolOp .And (e1 :: e2 :: es) pos) (fun ε => G1 ε ∧ (t1 ε = true → G2 (u1 ε))) (fun ε => t1 ε && t2 (u1 ε)) (fun ε => if t1 ε then u2 (u1 ε) else u1 ε) :=
  ⟨(pw_and h1.pt h2.pw).weaken fun σ H Q ⟨H0, ε, rl, ⟨g1, g2⟩, k⟩ => ⟨H0, ε, rl, g1, fun H1 f1 r1 => by
    cases h : t1 ε with
    | true =>
      refine ⟨H0, u1 ε, r1, g2 h, fun H2 f2 r2 => ?_⟩
      have := k H2 ((cond_fr f1 p2).trans (cond_fr2 f2 p1)) (by simpa [h] using r2)
      simpa [h] using this
    | false =>
      have := k H1 (cond_fr f1 p2) (by simpa [h] using r1)
      simpa [h] using this⟩⟩
theorem w_or {es : List Expr} (h1 : Dt X B ow Γ p1 e1 G1 t1 u1) (h2 : Dw X B ow Γ p2 (.BoolOp .Or (e2 :: es) pos) G2 t2 u2) :
    Dw X B ow Γ (p1 && p2) (.BoolOp .Or (e1 :: e2 :: es) pos) (fun ε => G1 ε ∧ (t1 ε = false → G2 (u1 ε))) (fun ε => t1 ε || t2 (u1 ε)) (fun ε => if t1 ε then u1 ε else u2 (u1 ε)) :=
  ⟨(pw_or h1.pt h2.pw).weaken fun σ H Q ⟨H0, ε, rl, ⟨g1, g2⟩, k⟩ => ⟨H0, ε, rl, g1, fun H1 f1 r1 => by
    cases h : t1 ε with
    | true =>
      have := k H1 (cond_fr f1 p2) (by simpa [h] using r1)
      simpa [h] using this
    | false =>
      refine ⟨H0, u1 ε, r1, g2 h, fun H2 f2 r2 => ?_⟩
      have := k H2 ((cond_fr f1 p2).trans (cond_fr2 f2 p1)) (by simpa [h] using r2)
      simpa [h] using this⟩⟩
theorem Dw.dt (h : Dw X B ow Γ p e G t u) : Dt X B ow Γ p e G t u := ⟨h.pw.pt⟩
/-- the environment behind a pure test is the one ahead -/
theorem Dt.pure (h : Dt X B ow Γ p e G t u) (hu : ∀ ε, u ε = ε) : Dt X B ow Γ p e G t (fun ε => ε) := by
  have : u = fun ε => ε := funext hu
  rw [← this]; exact h
theorem Dw.pure (h : Dw X B ow Γ p e G t u) (hu : ∀ ε, u ε = ε) : Dw X B ow Γ p e G t (fun ε => ε) := by
  have : u = fun ε => ε := funext hu
  rw [← this]; exact h
theorem Dt.is {t' : E → Bool} {G' : E → Prop} (h : Dt X B ow Γ p e G t u) (hg : ∀ ε, G' ε → G ε) (hd : ∀ ε, G' ε → t ε = t' ε) : Dt X B ow Γ p e G' t' u :=
  ⟨h.pt.weaken fun σ H Q ⟨H0, ε, r, g, k⟩ => ⟨H0, ε, r, hg ε g, fun H' f r' => by rw [hd ε g]; exact k H' f r'⟩⟩
end
theorem ite_same {E : Type} {b : Bool} (ε : E) : (if b = true then ε else ε) = ε := by cases b <;> rfl
end Y
namespace Y
open PySem PySem.Spec L2

/-! ### ints -/
section
variable {K : Frag} {γ : Type}
theorem v_I0 {c : γ → D} {g : Int → Int → V} {f : Int → Int → γ} (h : ∀ A H i j, Fz K A H (g i j) (c (f i j))) : Op2 K (rI0 g) cI cI c (fun _ _ => True) f := fun A H x y v w Q _ z1 z2 _ k => by
  cases z1.int_inv
  cases z2.int_inv
  exact ⟨x, y, rfl, rfl, k _ H (Fr.refl _ _) (h A H x y)⟩
theorem v_I {c : γ → D} {C : Int → Int → Prop} {g : Int → Int → V} {f : Int → Int → γ} (h : ∀ A H i j, Fz K A H (g i j) (c (f i j))) : Op2 K (rI C g) cI cI c C f := fun A H x y v w Q _ z1 z2 hc k => by
  cases z1.int_inv
  cases z2.int_inv
  exact ⟨x, y, rfl, rfl, hc, k _ H (Fr.refl _ _) (h A H x y)⟩
theorem v_add : Op2 K (rI0 fun i j => .int (i + j)) cI cI cI (fun _ _ => True) (fun i j => i + j) := v_I0 fun _ _ _ _ => .int _
theorem v_sub : Op2 K (rI0 fun i j => .int (i - j)) cI cI cI (fun _ _ => True) (fun i j => i - j) := v_I0 fun _ _ _ _ => .int _
theorem v_mul : Op2 K (rI CMul fun i j => .int (i * j)) cI cI cI CMul (fun i j => i * j) := v_I fun _ _ _ _ => .int _
theorem v_fdiv : Op2 K (rI CDivW fun i j => .int (i / j)) cI cI cI CDivW (fun i j => i / j) := v_I fun _ _ _ _ => .int _
theorem v_mod : Op2 K (rI (fun _ j => 0 < j) fun i j => .int (i % j)) cI cI cI (fun _ j => 0 < j) (fun i j => i % j) := v_I fun _ _ _ _ => .int _
theorem v_pow : Op2 K (rI CPow fun i j => .int (i ^ j.toNat)) cI cI cI CPow (fun i j => i ^ j.toNat) := v_I fun _ _ _ _ => .int _
theorem v_lt : Op2 K (rI0 fun i j => .bl (decide (i < j))) cI cI cB (fun _ _ => True) (fun i j => decide (i < j)) := v_I0 fun _ _ _ _ => .bl _
theorem v_le : Op2 K (rI0 fun i j => .bl (decide (i ≤ j))) cI cI cB (fun _ _ => True) (fun i j => decide (i ≤ j)) := v_I0 fun _ _ _ _ => .bl _
theorem v_gt : Op2 K (rI0 fun i j => .bl (decide (j < i))) cI cI cB (fun _ _ => True) (fun i j => decide (j < i)) := v_I0 fun _ _ _ _ => .bl _
theorem v_ge : Op2 K (rI0 fun i j => .bl (decide (j ≤ i))) cI cI cB (fun _ _ => True) (fun i j => decide (j ≤ i)) := v_I0 fun _ _ _ _ => .bl _
theorem v_eqI : Op2 K rEq cI cI cB (fun _ _ => True) (fun i j => decide (i = j)) := fun A H x y v w Q _ z1 z2 _ k => by
  cases z1.int_inv
  cases z2.int_inv
  refine ⟨rfl, k _ H (Fr.refl _ _) ?_⟩
  have e : decide (V.int x = V.int y) = decide (x = y) := decide_eq_decide.mpr ⟨fun h => V.int.inj h, fun h => by rw [h]⟩
  rw [e]
  exact .bl _
theorem v_neI : Op2 K rNe cI cI cB (fun _ _ => True) (fun i j => !decide (i = j)) := fun A H x y v w Q _ z1 z2 _ k => by
  cases z1.int_inv
  cases z2.int_inv
  refine ⟨rfl, k _ H (Fr.refl _ _) ?_⟩
  have e : decide (V.int x = V.int y) = decide (x = y) := decide_eq_decide.mpr ⟨fun h => V.int.inj h, fun h => by rw [h]⟩
  rw [e]
  exact .bl _
theorem v_eqB : Op2 K rEq cB cB cB (fun _ _ => True) (fun i j => decide (i = j)) := fun A H x y v w Q _ z1 z2 _ k => by
  cases z1.bl_inv
  cases z2.bl_inv
  refine ⟨rfl, k _ H (Fr.refl _ _) ?_⟩
  have e : decide (V.bl x = V.bl y) = decide (x = y) := decide_eq_decide.mpr ⟨fun h => V.bl.inj h, fun h => by rw [h]⟩
  rw [e]
  exact .bl _
theorem v_neB : Op2 K rNe cB cB cB (fun _ _ => True) (fun i j => !decide (i = j)) := fun A H x y v w Q _ z1 z2 _ k => by
  cases z1.bl_inv
  cases z2.bl_inv
  refine ⟨rfl, k _ H (Fr.refl _ _) ?_⟩
  have e : decide (V.bl x = V.bl y) = decide (x = y) := decide_eq_decide.mpr ⟨fun h => V.bl.inj h, fun h => by rw [h]⟩
  rw [e]
  exact .bl _
theorem v_eqS : Op2 K rEq cS cS cB (fun _ _ => True) (fun i j => decide (i = j)) := fun A H x y v w Q _ z1 z2 _ k => by
  cases z1.str_inv
  cases z2.str_inv
  refine ⟨rfl, k _ H (Fr.refl _ _) ?_⟩
  have e : decide (V.str x = V.str y) = decide (x = y) := decide_eq_decide.mpr ⟨fun h => V.str.inj h, fun h => by rw [h]⟩
  rw [e]
  exact .bl _
theorem v_neS : Op2 K rNe cS cS cB (fun _ _ => True) (fun i j => !decide (i = j)) := fun A H x y v w Q _ z1 z2 _ k => by
  cases z1.str_inv
  cases z2.str_inv
  refine ⟨rfl, k _ H (Fr.refl _ _) ?_⟩
  have e : decide (V.str x = V.str y) = decide (x = y) := decide_eq_decide.mpr ⟨fun h => V.str.inj h, fun h => by rw [h]⟩
  rw [e]
  exact .bl _
theorem v_neg : Op1 K (rU fun i => .int (-i)) cI cI (fun _ => True) (fun i => -i) := fun A H x v Q _ z1 _ k => by
  cases z1.int_inv
  exact ⟨x, rfl, k _ H (Fr.refl _ _) (.int _)⟩
end

/-! ### sequences: lists and tuples -/
/-- c is a list's or a tuple's codec, its items' one ce -/
def IsSq {α : Type} (c : List α → D) (ce : α → D) : Prop := (∀ xs, c xs = .list (xs.map ce)) ∨ ∀ xs, c xs = .tuple (xs.map ce)
theorem sq_L {α : Type} {ce : α → D} : IsSq (cL ce) ce := .inl fun _ => rfl
theorem sq_T {α : Type} {ce : α → D} : IsSq (cT ce) ce := .inr fun _ => rfl
section
variable {K : Frag} {A : List Addr} {H : Hp} {v : V} {α β γ : Type}
theorem IsSq.inv {c : List α → D} {ce : α → D} (h : IsSq c ce) {xs : List α} (z : Fz K A H v (c xs)) : ∃ a vs, v = .ref a ∧ (SqL K H a vs ∨ SqT K H a vs) ∧ FzL K A H vs (xs.map ce) ∧ vs.length = xs.length ∧ vs.length ≤ szN := by
  rcases h with h | h
  · rw [h] at z
    obtain ⟨a, vs, e, n, l⟩ := z.lst_inv
    exact ⟨a, vs, e, .inl n.sq, l, by simpa using l.length, n.2⟩
  · rw [h] at z
    obtain ⟨a, vs, e, n, l⟩ := z.tup_inv
    exact ⟨a, vs, e, .inr n.sq, l, by simpa using l.length, n.sz⟩
theorem fzl1 {ds : List D} {vs : List V} {d : D} (h : FzL K A H vs [d]) : ∃ v, vs = [v] ∧ Fz K A H v d := by
  cases h with | cons a b => cases b; exact ⟨_, rfl, a⟩
theorem fzl2 {ds : List D} {vs : List V} {d d' : D} (h : FzL K A H vs [d, d']) : ∃ v w, vs = [v, w] ∧ Fz K A H v d ∧ Fz K A H w d' := by
  cases h with | cons a b => cases b with | cons a' b' => cases b'; exact ⟨_, _, rfl, a, a'⟩
theorem fzl_ints : ∀ {vs : List V} {xs : List Int}, FzL K A H vs (xs.map cI) → vs = xs.map V.int
  | _, [], .nil => rfl
  | _, x :: xs, .cons a b => by rw [a.int_inv, fzl_ints b]; rfl
theorem fzl_bls : ∀ {vs : List V} {xs : List Bool}, FzL K A H vs (xs.map cB) → vs = xs.map V.bl
  | _, [], .nil => rfl
  | _, x :: xs, .cons a b => by rw [a.bl_inv, fzl_bls b]; rfl
theorem fzl_strs : ∀ {vs : List V} {xs : List Str}, FzL K A H vs (xs.map cS) → vs = xs.map V.str
  | _, [], .nil => rfl
  | _, x :: xs, .cons a b => by rw [a.str_inv, fzl_strs b]; rfl
theorem ints_fzl : ∀ (xs : List Int), FzL K A H (xs.map V.int) (xs.map cI)
  | [] => .nil
  | x :: xs => .cons (.int x) (ints_fzl xs)

/-- len -/
def rLenQ (K : Frag) : List V → Hp → VK → Prop := fun xs H Q => ∃ p ys, xs = [.ref p] ∧ (SqL K H p ys ∨ SqT K H p ys) ∧ Q (.int ys.length) H
theorem v_len {c : List α → D} {ce : α → D} (hc : IsSq c ce) : OpL K (rLenQ K) (ac c an) cI (fun _ => True) (fun q => (q.1.length : Int)) := fun A H q vs Q _ z _ k => by
  obtain ⟨v, rfl, z1⟩ := fzl1 (ds := []) z
  obtain ⟨a, ws, rfl, hs, l, e, sz⟩ := hc.inv z1
  refine ⟨a, ws, rfl, hs, k _ H (Fr.refl _ _) ?_⟩
  rw [e]
  exact .int _
theorem v_lenS : OpL K (fun xs H Q => ∃ z, xs = [.str z] ∧ z.length ≤ sizeLine ∧ Q (.int z.length) H) (ac cS an) cI (fun q => q.1.length ≤ 16777216) (fun q => (q.1.length : Int)) := fun A H q vs Q _ z hc k => by
  obtain ⟨v, rfl, z1⟩ := fzl1 (ds := []) z
  cases z1.str_inv
  exact ⟨_, rfl, by rw [sizeLine_eq]; exact hc, k _ H (Fr.refl _ _) (.int _)⟩
/-- abs, int, max, min of two -/
theorem v_abs : OpL K (fun xs H Q => ∃ i, xs = [.int i] ∧ Q (.int (if i < 0 then -i else i)) H) (ac cI an) cI (fun _ => True) (fun q => (q.1.natAbs : Int)) := fun A H q vs Q _ z _ k => by
  obtain ⟨v, rfl, z1⟩ := fzl1 (ds := []) z
  cases z1.int_inv
  refine ⟨_, rfl, k _ H (Fr.refl _ _) ?_⟩
  have e : (if q.1 < 0 then -q.1 else q.1) = (q.1.natAbs : Int) := by split <;> omega
  rw [e]
  exact .int _
theorem v_int : OpL K (fun xs H Q => (∃ i, xs = [.int i] ∧ Q (.int i) H) ∨ ∃ k, xs = [.bl k] ∧ Q (.int (if k then 1 else 0)) H) (ac cI an) cI (fun _ => True) (fun q => q.1) := fun A H q vs Q _ z _ k => by
  obtain ⟨v, rfl, z1⟩ := fzl1 (ds := []) z
  cases z1.int_inv
  exact .inl ⟨_, rfl, k _ H (Fr.refl _ _) (.int _)⟩
theorem v_max2 : OpL K (fun xs H Q => ∃ i j, xs = [.int i, .int j] ∧ Q (.int (if j > i then j else i)) H) (ac cI (ac cI an)) cI (fun _ => True) (fun q => max q.1 q.2.1) := fun A H q vs Q _ z _ k => by
  obtain ⟨v, w, rfl, z1, z2⟩ := fzl2 (ds := []) z
  cases z1.int_inv
  cases z2.int_inv
  refine ⟨_, _, rfl, k _ H (Fr.refl _ _) ?_⟩
  have e : (if q.2.1 > q.1 then q.2.1 else q.1) = max q.1 q.2.1 := by split <;> omega
  rw [e]
  exact .int _
theorem v_min2 : OpL K (fun xs H Q => ∃ i j, xs = [.int i, .int j] ∧ Q (.int (if j < i then j else i)) H) (ac cI (ac cI an)) cI (fun _ => True) (fun q => min q.1 q.2.1) := fun A H q vs Q _ z _ k => by
  obtain ⟨v, w, rfl, z1, z2⟩ := fzl2 (ds := []) z
  cases z1.int_inv
  cases z2.int_inv
  refine ⟨_, _, rfl, k _ H (Fr.refl _ _) ?_⟩
  have e : (if q.2.1 < q.1 then q.2.1 else q.1) = min q.1 q.2.1 := by split <;> omega
  rw [e]
  exact .int _
/-- min, max of a list of ints -/
def minI : List Int → Int
  | [] => 0
  | x :: xs => xs.foldl min x
def maxI : List Int → Int
  | [] => 0
  | x :: xs => xs.foldl max x
theorem foldl_min_spec : ∀ (xs : List Int) (x : Int), (xs.foldl min x = x ∨ xs.foldl min x ∈ xs) ∧ xs.foldl min x ≤ x ∧ ∀ y ∈ xs, xs.foldl min x ≤ y
  | [], x => ⟨.inl rfl, Int.le_refl _, fun _ h => by cases h⟩
  | y :: xs, x => by
    obtain ⟨h1, h2, h3⟩ := foldl_min_spec xs (min x y)
    simp only [List.foldl_cons, List.mem_cons]
    refine ⟨?_, by omega, ?_⟩
    · rcases h1 with h | h
      · by_cases hxy : x ≤ y
        · left; omega
        · right; left; omega
      · right; right; exact h
    · rintro z (rfl | hz)
      · omega
      · exact h3 z hz
theorem foldl_max_spec : ∀ (xs : List Int) (x : Int), (xs.foldl max x = x ∨ xs.foldl max x ∈ xs) ∧ x ≤ xs.foldl max x ∧ ∀ y ∈ xs, y ≤ xs.foldl max x
  | [], x => ⟨.inl rfl, Int.le_refl _, fun _ h => by cases h⟩
  | y :: xs, x => by
    obtain ⟨h1, h2, h3⟩ := foldl_max_spec xs (max x y)
    simp only [List.foldl_cons, List.mem_cons]
    refine ⟨?_, by omega, ?_⟩
    · rcases h1 with h | h
      · by_cases hxy : y ≤ x
        · left; omega
        · right; left; omega
      · right; right; exact h
    · rintro z (rfl | hz)
      · omega
      · exact h3 z hz
theorem minI_mem {xs : List Int} (h : xs ≠ []) : minI xs ∈ xs := by
  cases xs with
  | nil => exact absurd rfl h
  | cons x xs =>
    rcases (foldl_min_spec xs x).1 with e | e
    · show xs.foldl min x ∈ _; rw [e]; exact List.mem_cons_self
    · exact List.mem_cons_of_mem _ e
theorem minI_le {xs : List Int} {y : Int} (h : y ∈ xs) : minI xs ≤ y := by
  cases xs with
  | nil => cases h
  | cons x xs =>
    obtain ⟨_, h2, h3⟩ := foldl_min_spec xs x
    rcases List.mem_cons.mp h with rfl | h
    · exact h2
    · exact h3 y h
theorem maxI_mem {xs : List Int} (h : xs ≠ []) : maxI xs ∈ xs := by
  cases xs with
  | nil => exact absurd rfl h
  | cons x xs =>
    rcases (foldl_max_spec xs x).1 with e | e
    · show xs.foldl max x ∈ _; rw [e]; exact List.mem_cons_self
    · exact List.mem_cons_of_mem _ e
theorem le_maxI {xs : List Int} {y : Int} (h : y ∈ xs) : y ≤ maxI xs := by
  cases xs with
  | nil => cases h
  | cons x xs =>
    obtain ⟨_, h2, h3⟩ := foldl_max_spec xs x
    rcases List.mem_cons.mp h with rfl | h
    · exact h2
    · exact h3 y h
theorem v_minL : OpL K (rMin K) (ac (cL cI) an) cI (fun q => q.1 ≠ []) (fun q => minI q.1) := fun A H q vs Q _ z hc k => by
  obtain ⟨v, rfl, z1⟩ := fzl1 (ds := []) z
  obtain ⟨a, ws, rfl, n, l⟩ := z1.lst_inv
  cases fzl_ints l
  refine ⟨a, q.1, rfl, n.sq, List.length_pos_iff.mpr hc, fun m h1 h2 => k _ H (Fr.refl _ _) ?_⟩
  have e : m = minI q.1 := Int.le_antisymm (h2 _ (minI_mem hc)) (minI_le h1)
  rw [e]
  exact .int _
theorem v_maxL : OpL K (rMax K) (ac (cL cI) an) cI (fun q => q.1 ≠ []) (fun q => maxI q.1) := fun A H q vs Q _ z hc k => by
  obtain ⟨v, rfl, z1⟩ := fzl1 (ds := []) z
  obtain ⟨a, ws, rfl, n, l⟩ := z1.lst_inv
  cases fzl_ints l
  refine ⟨a, q.1, rfl, n.sq, List.length_pos_iff.mpr hc, fun m h1 h2 => k _ H (Fr.refl _ _) ?_⟩
  have e : m = maxI q.1 := Int.le_antisymm (le_maxI h1) (h2 _ (maxI_mem hc))
  rw [e]
  exact .int _
theorem v_sumL : OpL K (rSum K) (ac (cL cI) an) cI (fun _ => True) (fun q => q.1.sum) := fun A H q vs Q _ z hc k => by
  obtain ⟨v, rfl, z1⟩ := fzl1 (ds := []) z
  obtain ⟨a, ws, rfl, n, l⟩ := z1.lst_inv
  cases fzl_ints l
  exact ⟨a, q.1, rfl, n.sq, k _ H (Fr.refl _ _) (.int _)⟩
theorem v_allL : OpL K (rAll K) (ac (cL cB) an) cB (fun _ => True) (fun q => q.1.all id) := fun A H q vs Q _ z hc k => by
  obtain ⟨v, rfl, z1⟩ := fzl1 (ds := []) z
  obtain ⟨a, ws, rfl, n, l⟩ := z1.lst_inv
  cases fzl_bls l
  exact ⟨a, q.1, rfl, n.sq, k _ H (Fr.refl _ _) (.bl _)⟩
theorem v_anyL : OpL K (rAny K) (ac (cL cB) an) cB (fun _ => True) (fun q => q.1.any id) := fun A H q vs Q _ z hc k => by
  obtain ⟨v, rfl, z1⟩ := fzl1 (ds := []) z
  obtain ⟨a, ws, rfl, n, l⟩ := z1.lst_inv
  cases fzl_bls l
  exact ⟨a, q.1, rfl, n.sq, k _ H (Fr.refl _ _) (.bl _)⟩
/-- tuple(..), list(..) -/
def rTupleOf (K : Frag) : List V → Hp → VK → Prop := fun xs H Q => ∃ p ys, xs = [.ref p] ∧ ((SqL K H p ys ∧ ∀ l, H l = none → Q (.ref l) (upd H l (.tup ys))) ∨ (SqT K H p ys ∧ Q (.ref p) H))
def rListOf (K : Frag) : List V → Hp → VK → Prop := fun xs H Q => ∃ p ys, xs = [.ref p] ∧ (SqL K H p ys ∨ SqT K H p ys) ∧ ∀ l, H l = none → Q (.ref l) (upd H l (.lst ys))
theorem v_tuple {c : List α → D} {ce : α → D} (hc : IsSq c ce) : OpL K (rTupleOf K) (ac c an) (cT ce) (fun _ => True) (fun q => q.1) := fun A H q vs Q t z _ k => by
  obtain ⟨v, rfl, z1⟩ := fzl1 (ds := []) z
  rcases hc with h | h
  · have z2 : Fz K A H v (.list (q.1.map ce)) := by rw [← h]; exact z1
    obtain ⟨a, ws, rfl, n, l⟩ := z2.lst_inv
    exact ⟨a, ws, rfl, .inl ⟨n.sq, fun p hp => k _ _ (Fr.new hp) (.tup (.inl ⟨t.new hp, upd_same, n.2⟩) (l.fr (Fr.new hp)))⟩⟩
  · have z2 : Fz K A H v (.tuple (q.1.map ce)) := by rw [← h]; exact z1
    obtain ⟨a, ws, rfl, n, l⟩ := z2.tup_inv
    exact ⟨a, ws, rfl, .inr ⟨n.sq, k _ H (Fr.refl _ _) (.tup n l)⟩⟩
theorem v_list {c : List α → D} {ce : α → D} (hc : IsSq c ce) : OpL K (rListOf K) (ac c an) (cL ce) (fun _ => True) (fun q => q.1) := fun A H q vs Q t z _ k => by
  obtain ⟨v, rfl, z1⟩ := fzl1 (ds := []) z
  obtain ⟨a, ws, rfl, hs, l, e, sz⟩ := hc.inv z1
  exact ⟨a, ws, rfl, hs, fun p hp => k _ _ (Fr.new hp) (.lst ⟨⟨t.new hp, upd_same⟩, sz⟩ (l.fr (Fr.new hp)))⟩

/-! ### an item by its place -/
def ixD [Inhabited α] (xs : List α) (i : Int) : α := (atI xs i).getD default
theorem atI_map {f : α → β} {xs : List α} {i : Int} : atI (xs.map f) i = (atI xs i).map f := by
  unfold atI
  rw [List.length_map]
  cases ixN xs.length i with
  | none => rfl
  | some j => simp
theorem FzL.atI {vs : List V} {ds : List D} {i : Int} {d : D} (h : FzL K A H vs ds) (e : L2.atI ds i = some d) : ∃ v, L2.atI vs i = some v ∧ Fz K A H v d := by
  unfold L2.atI at e ⊢
  rw [← h.length] at e
  cases q : ixN vs.length i with
  | none => rw [q] at e; simp at e
  | some j =>
    rw [q] at e
    obtain ⟨v, e1, z⟩ := h.get' (i := j) (d := d) (by simpa using e)
    exact ⟨v, by simpa using e1, z⟩
def CIx {α : Type} (xs : List α) (i : Int) : Prop := -(xs.length : Int) ≤ i ∧ i < xs.length
theorem CIx.at [Inhabited α] {xs : List α} {i : Int} (h : CIx xs i) : atI xs i = some (ixD xs i) := by
  obtain ⟨h1, h2⟩ := h
  unfold ixD atI ixN
  by_cases h0 : 0 ≤ i
  · rw [if_pos h0, if_pos h2]
    have : i.toNat < xs.length := by omega
    simp [this]
  · rw [if_neg h0, if_pos h1]
    have : (i + xs.length).toNat < xs.length := by omega
    simp [this]
theorem v_ixL [Inhabited α] {ce : α → D} : Op2 K (rIxL K) (cL ce) cI ce CIx ixD := fun A H x y v w Q t z1 z2 hc k => by
  obtain ⟨a, vs, rfl, n, l⟩ := z1.lst_inv
  cases z2.int_inv
  obtain ⟨u, e, z⟩ := l.atI (i := y) (d := ce (ixD x y)) (by rw [atI_map, hc.at]; rfl)
  exact ⟨a, vs, y, u, rfl, rfl, n.sq, e, k _ H (Fr.refl _ _) z⟩
theorem v_ixT [Inhabited α] {ce : α → D} : Op2 K (rIxT K) (cT ce) cI ce CIx ixD := fun A H x y v w Q t z1 z2 hc k => by
  obtain ⟨a, vs, rfl, n, l⟩ := z1.tup_inv
  cases z2.int_inv
  obtain ⟨u, e, z⟩ := l.atI (i := y) (d := ce (ixD x y)) (by rw [atI_map, hc.at]; rfl)
  exact ⟨a, vs, y, u, rfl, rfl, n.sq, e, k _ H (Fr.refl _ _) z⟩
/-- a sign of a text -/
def ixS (x : Str) (i : Int) : Str := ⟨#[ixD x.cps.toList i]⟩
theorem v_ixS : Op2 K rIxS cS cI cS (fun x i => x.length ≤ 16777216 ∧ CIx x.cps.toList i) ixS := fun A H x y v w Q t z1 z2 hc k => by
  cases z1.str_inv
  cases z2.int_inv
  exact ⟨x, y, _, rfl, rfl, by rw [sizeLine_eq]; exact hc.1, hc.2.at, k _ H (Fr.refl _ _) (.str _)⟩
end
/-- the n-th part of a tuple of a known form -/
def rPrj (K : Frag) (n : Int) : R2 := fun x y H Q => y = .int n ∧ ∃ p xs v, x = .ref p ∧ SqT K H p xs ∧ atI xs n = some v ∧ Q v H
section
variable {X : Cx} {B : Bd} {ow : List Nat} {E α β γ : Type} {Γ : E → List (Option D)} {p s : Bool} {e : Expr} {pos : Pos} {G : E → Prop} {d : E → α} {u : E → E}
theorem d_prj {b : Expr} (n : Int) {c : α → D} {cb : β → D} (g : α → β) (hc : ∀ x, ∃ ds, c x = .tuple ds ∧ atI ds n = some (cb (g x))) (h : De X B ow Γ p s e c G d u)
    (hb : De X B ow Γ true true b cI (fun _ => True) (fun _ => n) (fun ε => ε)) (hx : PlainIx b := by exact fun _ _ => rfl) : De X B ow Γ p s (.Subscript e b pos) cb G (fun ε => g (d ε)) u :=
  ⟨(pe_ix (pos := pos) ix_tup h.pe hb.pe hx).weaken fun σ H Q ⟨H0, ε, rl, g1, k⟩ => ⟨H0, ε, rl, g1, fun v H1 f1 r1 z1 => ⟨H0, u ε, r1, trivial, fun w H2 f2 r2 z2 => by
    obtain ⟨ds, e1, e2⟩ := hc (d ε)
    rw [e1] at z1
    obtain ⟨a, vs, rfl, nd, l⟩ := z1.tup_inv
    cases z2.int_inv
    obtain ⟨v', e3, z⟩ := l.atI e2
    have f2' : Fr [] H1 H2 := f2
    exact ⟨a, vs, n, v', rfl, rfl, (nd.fr f2'.nil).sq, e3, k _ H2 (f1.trans f2'.nil) r2 (z.fr f2'.nil)⟩⟩⟩⟩
theorem d_neg1 {n : Int} {j p1 p2} : De X B ow Γ true true (.UnaryOp .USub (.Constant (.int n) j p1) p2) cI (fun _ => True) (fun _ => -n) (fun ε => ε) := (d_un un_neg v_neg d_int).is (fun _ _ => ⟨trivial, trivial⟩) fun _ _ => rfl
end
end Y
namespace Y
open PySem PySem.Spec PyProof.Rows L2

/-! ### defs, called where nothing is being shown (no repr runs) -/
structure FnG (P : Program) (w : World) (K : Frag) (mg : Str → Option Value) (base : Heap) (k : Nat) (f : Addr) (fd : FuncData) (ps : List Str) (sp : Sp) : Prop where
  len : ∀ vs H Q E, sp vs H Q E → vs.length = ps.length
  run : ∀ (A : Around) (outer : List Env) (s : Shared) (H : Hp) (args : Args) (us : List Value) (vs : List V) (Q : VK) (E : XK), Room k A → A.guards = some [] → Env0 P w K mg base A outer s H →
    BindsTo s fd args (ps.zip us) → Vals vs us → sp vs H Q E → codeAny (model P w) A (.call (.ref f) args) (CR CX0 outer P w H s Q E) s
theorem FnG.mono {P : Program} {w : World} {K : Frag} {mg : Str → Option Value} {base : Heap} {j k : Nat} {f : Addr} {fd : FuncData} {ps : List Str} {sp : Sp} (F : FnG P w K mg base j f fd ps sp) (h : j ≤ k) : FnG P w K mg base k f fd ps sp :=
  ⟨F.len, fun A outer s H args us vs Q E hr => F.run A outer s H args us vs Q E (hr.mono h)⟩
theorem FnG.imp {P : Program} {w : World} {K : Frag} {mg : Str → Option Value} {base : Heap} {k : Nat} {f : Addr} {fd : FuncData} {ps : List Str} {sp sp' : Sp} (F : FnG P w K mg base k f fd ps sp) (h : ∀ vs H Q E, sp' vs H Q E → sp vs H Q E) :
    FnG P w K mg base k f fd ps sp' :=
  ⟨fun vs H Q E q => F.len vs H Q E (h vs H Q E q), fun A outer s H args us vs Q E hr hg he hb hv q => F.run A outer s H args us vs Q E hr hg he hb hv (h vs H Q E q)⟩

section
variable {P : Program} {w : World} {K : Frag} {mg : Str → Option Value} {base : Heap} {k : Nat} {f : Addr} {fd : FuncData} {x qual : Str} {st : Stmt} {N ps : List Str} {sp : Sp}
/-- a def by its body -/
theorem fnG (F : Fun K x qual st f fd) (S : FnScope N ps (defScope st)) (len : ∀ vs H Q E, sp vs H Q E → vs.length = ps.length)
    (hbody : ∀ (cdv : Value) (A : Around) (outer : List Env) (s : Shared) (H : Hp) (vs : List V) (Q : VK) (E : XK), Room k (A.deeper (envOfC qual (defScope st) s.heap.objs.size f cdv)) → A.guards = some [] → sp vs H Q E →
      ∃ t, PSs (cxOf CX0 P w K mg base N qual (defScope st) f cdv A outer s H E).nox (defBody st) t ∧ t { nx := fun _ H' => Q .non H', rt := Q } (start N vs) H) : FnG P w K mg base (k + 1) f fd ps sp := by
  obtain ⟨oc, od, kV, doc, pm, an, cdv, ct, osl, rfl, lk, hcd⟩ := F.ex
  constructor
  · exact len
  intro A outer s H args us vs Q E hr hg e0 hb r hsp
  have hl := len _ _ _ _ hsp
  have KX : K.In s.heap := e0.mod.kin.keeps fun b o e => (e0.bs b o e).1
  have lim : s.heap.NoLimit := e0.mod.nolimit.keeps fun b o e => (e0.bs b o e).1
  have hkd : ∀ y ∈ ps.zip us, (defScope st).names.lookup y.1 = some .local ∨ ((defScope st).names.lookup y.1 = some .cell ∧ ((cellsFrom (s.heap.objs.size + 1) (defScope st).names []).lookup y.1).isSome = true) := by
    rintro ⟨n, v⟩ hy
    rcases S.par n (List.of_mem_zip hy).1 with q | q
    · exact .inl q
    · exact .inr ⟨q, PySem.W.cellsFrom_some _ _ _ (.inl q)⟩
  refine codeAny_call_function hr.depth (KX _ _ lk) rfl S.co S.gen rfl (PySem.W.codeRec_of KX hcd) (hb _ _ _ _ ?_)
  refine wpAny_newFunctionEnv_cells S.kind hkd fun env he s1 y => ?_
  subst he
  refine ⟨lim.keeps y.toInCall.keep, codeAny_func ?_⟩
  obtain ⟨t, ht0, hq⟩ := hbody cdv A outer s H vs Q E (hr.deeper _) hg hsp
  have ht := ht0.nox
  have I := inv_start (CX := CX0) (mg := mg) (base := base) (E := E) S hr.hd e0 hl r y
  refine wpAny_mono (ht.run [] s1 (start N vs) H _ I hq) (fun fl s' hs => ?_) fun e s' hs => hs
  cases fl with
  | ret u =>
    obtain ⟨v, σ', H', J, rv, q⟩ := hs
    exact ⟨v, H', J.os, J.bare, J.base, J.hok, rv, q⟩
  | next =>
    obtain ⟨σ', H', J, q⟩ := hs
    exact ⟨V.non, H', J.os, J.bare, J.base, J.hok, rfl, q⟩
  | brk => obtain ⟨_, _, _, q⟩ := hs; exact False.elim q
  | cont => obtain ⟨_, _, _, q⟩ := hs; exact False.elim q
end
section
variable {X : Cx} {k : Nat} {f : Addr} {fd : FuncData} {ps : List Str} {sp : Sp} {x : Str} {p pos : Pos} {e : Expr} {es : List Expr} {t : TA}
theorem runG {pins : List (Addr × Obj)} {σ : L2.St} {H : Hp} {s : Shared} {Q : VK} {us : List Value} {vs : List V} (F : FnG X.prog X.w X.K X.mg X.base k f fd ps sp) (hr : Room k X.A) (hgd : X.A.guards = some []) (hb : Binds X.K fd ps [])
    (I : Inv X pins σ H s) (r : Vals vs us) (h : sp vs H Q E0) : wpAny (model X.prog X.w) X.A (call (.ref f) us) (EP X pins σ Q) X.xe s := by
  have hl : us.length = ps.length := by rw [← r.length]; exact F.len _ _ _ _ h
  have hb' := hb s us I.kIn (by simpa using hl)
  rw [List.append_nil] at hb'
  refine wpAny_call (codeAny_mono (F.run X.A X.stack s H ⟨us, []⟩ us vs Q E0 hr hgd I.env0 hb' r h) fun r s' hq => ?_)
  cases r with
  | error e => exact (show False from hq).elim
  | ok fl =>
    cases fl with
    | ret u => exact I.after hq
    | next => exact False.elim hq
    | brk => exact False.elim hq
    | cont => exact False.elim hq
def tCallG (sp : Sp) (t : TA) : TE := fun σ H Q => t σ H fun vs H1 => sp vs H1 Q E0
theorem pe_callG (F : FnG X.prog X.w X.K X.mg X.base k f fd ps sp) (hr : Room k X.A) (hgd : X.A.guards = some []) (hm : X.mg x = some (.ref f)) (hk : PySem.W.keepIn X.K (.ref f) = true) (hb : Binds X.K fd ps []) (ha : PA X (e :: es) t)
    (hg : Gl X x := by rfl) (hdb : (x == ("__debug__" : Str)) = false := by decide) (he : starEach (e :: es) X.env = (false, eval e X.env) :: starEach es X.env := by rfl) (hpl : (backTo pos (starEach es X.env)).any (·.1) = false := by rfl) :
    PE X (.Call (.Name x p) (e :: es) [] pos) (tCallG sp t) := by
  constructor
  intro pins s σ H Q I h
  refine wpAny_Call_Name_kw (ld_glob I hg hm ?_ hdb)
  refine PySem.W.callWith_K (h₀ := X.base) I.ok.mod.kin hk (thn (ha.run pos pins s σ H _ I h) fun us s1 ⟨vs, H1, I1, r, q⟩ => ⟨I1.kIn, ?_⟩) he hpl
  exact runG F hr hgd hb I1 r q
end
end Y
namespace Y
open PySem PySem.Spec L2

/-! ### promises -/
section
variable {α β τ : Type}
def spP (K : Frag) (cs : α → List D) (c : β → D) (G : α → Prop) (f : α → β) : Sp := fun vs H Q _ => ∃ (A : List Addr) (a : α), Tr A H ∧ FzL K A H vs (cs a) ∧ G a ∧ ∀ v H', Fr [] H H' → Fz K A H' v (c (f a)) → Q v H'
/-- the first argument a list that may be changed -/
def spS (K : Frag) (cs : α → List D) (ci : τ → List D) (c : β → D) (G : α × τ → Prop) (f : α × τ → β × τ) : Sp := fun vs H Q _ => ∃ (A : List Addr) (p : Addr) (us ws : List V) (a : α) (t : τ), Tr A H ∧ p ∉ A ∧ vs = .ref p :: ws ∧ (H p = some (.lst us) ∧ us.length ≤ szN) ∧
  FzL K (A ++ [p]) H us (ci t) ∧ FzL K (A ++ [p]) H ws (cs a) ∧ G (a, t) ∧ ∀ v H' us', Fr [p] H H' → H' p = some (.lst us') → us'.length ≤ szN → FzL K (A ++ [p]) H' us' (ci (f (a, t)).2) → Fz K (A ++ [p]) H' v (c (f (a, t)).1) → Q v H'
end

/-! ### slots set -/
section
variable {K : Frag} {B : Bd} {H0 H H' : Hp} {ow : List Nat} {σ : L2.St} {γ : List (Option D)}
theorem oa_set {i : Nat} {x : Option V} (h : i ∉ ow) : oa (σ.set i x) ow = oa σ ow := by
  unfold oa
  induction ow with
  | nil => rfl
  | cons j l ih =>
    have hj : i ≠ j := fun e => h (by rw [e]; exact List.mem_cons_self)
    rw [List.filterMap_cons, List.filterMap_cons, List.getElem?_set_ne hj, ih fun z => h (List.mem_cons_of_mem _ z)]
theorem set_inv {α : Type} {l : List (Option α)} {i j : Nat} {x y : Option α} (h : (l.set i x)[j]? = some y) : (i = j ∧ x = y ∧ i < l.length) ∨ (i ≠ j ∧ l[j]? = some y) := by
  by_cases e : i = j
  · subst e
    have hl : i < l.length := by
      have := (List.getElem?_eq_some_iff.mp h).1
      simpa using this
    rw [List.getElem?_set_self hl] at h
    exact .inl ⟨rfl, by injection h, hl⟩
  · rw [List.getElem?_set_ne e] at h
    exact .inr ⟨e, h⟩
/-- a frozen value into a slot -/
theorem Rel.set {i : Nat} {v : V} {d : D} (r : Rel K B H0 ow σ H γ) (hi : i ∉ ow) (z : Fz K (B.full σ ow) H v d) : Rel K B H0 ow (σ.set i (some v)) H (γ.set i (some d)) := by
  have eo : oa (σ.set i (some v)) ow = oa σ ow := oa_set hi
  have ef : B.full (σ.set i (some v)) ow = B.full σ ow := by unfold Bd.full; rw [eo]
  have nj : ∀ {j : Nat}, j ∈ ow → i ≠ j := fun hj e => hi (e ▸ hj)
  refine ⟨by simpa using r.len, fun j k a hj hk e1 e2 => ?_, fun j d' hj e => ?_, fun j d' hj e => ?_, by rw [eo]; exact r.trk, r.fr, by rw [eo]; exact r.new, r.a0, by rw [eo]; exact r.xt, fun p hp => ?_⟩
  · rw [List.getElem?_set_ne (nj hj)] at e1
    rw [List.getElem?_set_ne (nj hk)] at e2
    exact r.one j k a hj hk e1 e2
  · rw [ef]
    rcases set_inv e with ⟨rfl, e', hl⟩ | ⟨ne, e'⟩
    · have hl' : i < σ.length := by rw [r.len]; exact hl
      injection e' with e'
      subst e'
      exact ⟨v, by rw [List.getElem?_set_self hl'], z⟩
    · obtain ⟨w, h1, h2⟩ := r.fz j d' hj e'
      exact ⟨w, by rw [List.getElem?_set_ne ne]; exact h1, h2⟩
  · rw [ef]
    rw [List.getElem?_set_ne (nj hj)] at e
    obtain ⟨a, vs, ds, h1, h2⟩ := r.own j d' hj e
    exact ⟨a, vs, ds, by rw [List.getElem?_set_ne (nj hj)]; exact h1, h2⟩
  · obtain ⟨h1, h2⟩ := r.io p hp
    exact ⟨h1, by rw [List.getElem?_set_ne (nj h1)]; exact h2⟩
theorem mem_full {a : Addr} : a ∈ B.full σ ow ↔ a ∈ B.base ∨ a ∈ oa σ ow := List.mem_append
/-- fewer slots are one's own: those left out are forgotten, or frozen -/
theorem Rel.drop {ow' : List Nat} {γ' : List (Option D)} (r : Rel K B H0 ow σ H γ) (hs : ∀ i ∈ ow', i ∈ ow) (hio : B.io ≠ none → 0 ∈ ow') (w : Wk γ' γ) (hd : ∀ i ∈ ow, i ∉ ow' → γ'[i]? = some none) : Rel K B H0 ow' σ H γ' := by
  have so : ∀ a ∈ oa σ ow', a ∈ oa σ ow := fun a h => by
    obtain ⟨i, h1, h2⟩ := mem_oa.mp h
    exact mem_oa.mpr ⟨i, hs i h1, h2⟩
  have sf : ∀ a ∈ B.full σ ow', a ∈ B.full σ ow := fun a h => mem_full.mpr ((mem_full.mp h).imp id (so a))
  have r := r.wk w
  refine ⟨r.len, fun i j a hi hj => r.one i j a (hs i hi) (hs j hj), fun i d hi e => ?_, fun i d hi e => ?_, fun a h => r.trk a (so a h), r.fr, fun a h => r.new a (so a h), r.a0, fun a h => ⟨(r.xt a h).1, fun z => (r.xt a h).2 (so a z)⟩, fun p hp => ⟨hio (by rw [hp]; simp), (r.io p hp).2⟩⟩
  · by_cases hi' : i ∈ ow
    · rw [hd i hi' hi] at e; cases e
    · obtain ⟨v, e1, z⟩ := r.fz i d hi' e
      exact ⟨v, e1, z.sub sf⟩
  · obtain ⟨a, vs, ds, e1, e2, e3, e4⟩ := r.own i d (hs i hi) e
    exact ⟨a, vs, ds, e1, e2, e3, e4.sub sf⟩
/-- a list of one's own is changed no more -/
theorem Rel.freeze {ow' : List Nat} (r : Rel K B H0 ow σ H γ) (hs : ∀ i ∈ ow', i ∈ ow) (hio : B.io ≠ none → 0 ∈ ow') : Rel K B H0 ow' σ H γ := by
  have so : ∀ a ∈ oa σ ow', a ∈ oa σ ow := fun a h => by
    obtain ⟨i, h1, h2⟩ := mem_oa.mp h
    exact mem_oa.mpr ⟨i, hs i h1, h2⟩
  have sf : ∀ a ∈ B.full σ ow', a ∈ B.full σ ow := fun a h => mem_full.mpr ((mem_full.mp h).imp id (so a))
  refine ⟨r.len, fun i j a hi hj => r.one i j a (hs i hi) (hs j hj), fun i d hi e => ?_, fun i d hi e => ?_, fun a h => r.trk a (so a h), r.fr, fun a h => r.new a (so a h), r.a0, fun a h => ⟨(r.xt a h).1, fun z => (r.xt a h).2 (so a z)⟩, fun p hp => ⟨hio (by rw [hp]; simp), (r.io p hp).2⟩⟩
  · by_cases hi' : i ∈ ow
    · obtain ⟨a, vs, ds, e1, e2, e3, e4⟩ := r.own i d hi' e
      rw [e2]
      refine ⟨_, e1, .lst ⟨⟨fun q => ?_, e3.1⟩, e3.2⟩ (e4.sub sf)⟩
      have ha : a ∈ oa σ ow := mem_oa.mpr ⟨i, hi', e1⟩
      rcases mem_full.mp q with q | q
      · exact r.apart a ha q
      · obtain ⟨j, hj, ej⟩ := mem_oa.mp q
        exact hi (r.one i j a hi' (hs j hj) e1 ej ▸ hj)
    · obtain ⟨v, e1, z⟩ := r.fz i d hi' e
      exact ⟨v, e1, z.sub sf⟩
  · obtain ⟨a, vs, ds, e1, e2, e3, e4⟩ := r.own i d (hs i hi) e
    exact ⟨a, vs, ds, e1, e2, e3, e4.sub sf⟩
/-- a new list, known to nobody, into a slot of one's own -/
theorem Rel.setOwn {i : Nat} {q : Addr} {vs : List V} {ds : List D} {ow' : List Nat} (r : Rel K (B.plus q) H0 ow σ H γ) (hq : H q = some (.lst vs)) (hz : vs.length ≤ szN) (hn : H0 q = none) (hb : q ∉ B.base) (z : FzL K ((B.plus q).full σ ow) H vs ds)
    (hi : i < γ.length) (h' : ∀ j, j ∈ ow' ↔ j ∈ ow ∨ j = i) (h0 : B.io ≠ none → i ≠ 0) : Rel K B H0 ow' (σ.set i (some (.ref q))) H (γ.set i (some (.list ds))) := by
  have hl : i < σ.length := by rw [r.len]; exact hi
  have nq : ∀ a ∈ oa σ ow, a ≠ q := fun a h e => (r.xt q (by simp [Bd.plus])).2 (e ▸ h)
  have so : ∀ a ∈ oa (σ.set i (some (.ref q))) ow', a = q ∨ a ∈ oa σ ow := fun a h => by
    obtain ⟨j, h1, h2⟩ := mem_oa.mp h
    rcases set_inv h2 with ⟨rfl, e, _⟩ | ⟨ne, e⟩
    · left; injection e with e; injection e with e; exact e.symm
    · right
      rcases (h' j).mp h1 with h | h
      · exact mem_oa.mpr ⟨j, h, e⟩
      · exact absurd h.symm ne
  have sf : ∀ a ∈ B.full (σ.set i (some (.ref q))) ow', a ∈ (B.plus q).full σ ow := fun a h => by
    simp only [Bd.full, Bd.base, Bd.plus, List.mem_append, List.mem_cons] at h ⊢
    rcases h with (h | h) | h
    · exact .inl (.inl h)
    · exact .inl (.inr (.inr h))
    · rcases so a h with h | h
      · exact .inl (.inr (.inl h))
      · exact .inr h
  refine ⟨by simpa using r.len, fun j k a hj hk e1 e2 => ?_, fun j d' hj e => ?_, fun j d' hj e => ?_, fun a h => ?_, r.fr, fun a h => ?_, r.a0, fun a h => ?_, fun p hp => ?_⟩
  · rcases set_inv e1 with ⟨rfl, e3, _⟩ | ⟨ne, e3⟩
    · rcases set_inv e2 with ⟨rfl, _, _⟩ | ⟨ne2, e4⟩
      · rfl
      · injection e3 with e3; injection e3 with e3; subst e3
        rcases (h' k).mp hk with h | h
        · exact absurd rfl (nq _ (mem_oa.mpr ⟨k, h, e4⟩))
        · exact h.symm
    · rcases set_inv e2 with ⟨rfl, e4, _⟩ | ⟨ne2, e4⟩
      · injection e4 with e4; injection e4 with e4; subst e4
        rcases (h' j).mp hj with h | h
        · exact absurd rfl (nq _ (mem_oa.mpr ⟨j, h, e3⟩))
        · exact h
      · rcases (h' j).mp hj with h | h
        · rcases (h' k).mp hk with h2 | h2
          · exact r.one j k a h h2 e3 e4
          · exact absurd h2.symm ne2
        · exact absurd h.symm ne
  · have hj2 : j ∉ ow := fun z => hj ((h' j).mpr (.inl z))
    have hji : i ≠ j := fun z => hj ((h' j).mpr (.inr z.symm))
    rw [List.getElem?_set_ne hji] at e
    obtain ⟨w, h1, h2⟩ := r.fz j d' hj2 e
    exact ⟨w, by rw [List.getElem?_set_ne hji]; exact h1, h2.sub sf⟩
  · by_cases hji : i = j
    · subst hji
      rw [List.getElem?_set_self hi] at e
      injection e with e; injection e with e; subst e
      exact ⟨q, vs, ds, by rw [List.getElem?_set_self hl], rfl, ⟨hq, hz⟩, z.sub sf⟩
    · rw [List.getElem?_set_ne hji] at e
      rcases (h' j).mp hj with h | h
      · obtain ⟨a, vs', ds', e1, e2, e3, e4⟩ := r.own j d' h e
        exact ⟨a, vs', ds', by rw [List.getElem?_set_ne hji]; exact e1, e2, e3, e4.sub sf⟩
      · exact absurd h.symm hji
  · rcases so a h with rfl | h
    · exact ⟨vs, hq⟩
    · exact r.trk a h
  · rcases so a h with rfl | h
    · exact .inl hn
    · exact r.new a h
  · refine ⟨(r.xt a (List.mem_cons_of_mem _ h)).1, fun z2 => ?_⟩
    rcases so a z2 with rfl | z2
    · exact hb (List.mem_append_right _ h)
    · exact (r.xt a (List.mem_cons_of_mem _ h)).2 z2
  · obtain ⟨h1, h2⟩ := r.io p hp
    have hi0 : i ≠ 0 := h0 (by rw [hp]; simp)
    exact ⟨(h' 0).mpr (.inl h1), by rw [List.getElem?_set_ne hi0]; exact h2⟩
/-- a list of one's own is written -/
theorem Rel.write {i : Nat} {q : Addr} {vs : List V} {ds : List D} (r : Rel K B H0 ow σ H γ) (hi : i ∈ ow) (hq : σ[i]? = some (some (.ref q))) (hf : Fr [q] H H') (hv : H' q = some (.lst vs)) (hz : vs.length ≤ szN) (z : FzL K (B.full σ ow) H' vs ds) :
    Rel K B H0 ow σ H' (γ.set i (some (.list ds))) := by
  have qo : q ∈ oa σ ow := mem_oa.mpr ⟨i, hi, hq⟩
  have qf : q ∈ B.full σ ow := mem_full.mpr (.inr qo)
  have f' : Fr (B.full σ ow) H H' := hf.mono fun x hx => by rw [List.mem_singleton.mp hx]; exact qf
  have ne1 : ∀ {a : Addr}, a ≠ q → a ∉ [q] := fun h z => h (List.mem_singleton.mp z)
  refine ⟨by simpa using r.len, r.one, fun j d' hj e => ?_, fun j d' hj e => ?_, fun a h => ?_, fun b o e n => ?_, r.new, r.a0, fun a h => ?_, r.io⟩
  · have hji : i ≠ j := fun z => hj (z ▸ hi)
    rw [List.getElem?_set_ne hji] at e
    obtain ⟨w, h1, h2⟩ := r.fz j d' hj e
    exact ⟨w, h1, h2.fr f'⟩
  · by_cases hji : i = j
    · subst hji
      rcases set_inv e with ⟨_, e, _⟩ | ⟨ne, _⟩
      · injection e with e; subst e
        exact ⟨q, vs, ds, hq, rfl, ⟨hv, hz⟩, z⟩
      · exact absurd rfl ne
    · rw [List.getElem?_set_ne hji] at e
      obtain ⟨a, vs', ds', e1, e2, e3, e4⟩ := r.own j d' hj e
      have na : a ≠ q := fun e => hji (r.one i j q hi hj hq (e ▸ e1))
      exact ⟨a, vs', ds', e1, e2, ⟨hf _ _ e3.1 (ne1 na), e3.2⟩, e4.fr f'⟩
  · by_cases e : a = q
    · rw [e]; exact ⟨vs, hv⟩
    · obtain ⟨xs, e2⟩ := r.trk a h
      exact ⟨xs, hf _ _ e2 (ne1 e)⟩
  · have nb : b ≠ q := fun z2 => by
      subst z2
      rcases r.new b qo with h | h
      · rw [h] at e; cases e
      · exact n h
    exact hf b o (r.fr b o e n) (ne1 nb)
  · refine ⟨?_, (r.xt a h).2⟩
    have nb : a ≠ q := fun z2 => (r.xt a h).2 (z2 ▸ qo)
    have := (r.xt a h).1
    cases e : H a with
    | none => exact absurd e this
    | some o => rw [hf a o e (ne1 nb)]; simp
end

/-! ### calls -/
section
variable {X : Cx} {B : Bd} {ow : List Nat} {E α β τ : Type} {Γ : E → List (Option D)} {p s : Bool} {e : Expr} {es : List Expr} {pos px py : Pos} {G : E → Prop} {d : E → α} {u : E → E} {k : Nat} {f : Addr} {fd : FuncData} {ps : List Str} {x y : Str}
  {cs : α → List D} {c : β → D} {Gf : α → Prop} {fm : α → β}
theorem d_call (F : FnG X.prog X.w X.K X.mg X.base k f fd ps (spP X.K cs c Gf fm)) (hr : Room k X.A) (hgd : X.A.guards = some []) (hm : X.mg x = some (.ref f)) (hk : PySem.W.keepIn X.K (.ref f) = true) (hb : Binds X.K fd ps []) (h : DA X B ow Γ p s (e :: es) cs G d u)
    (hg : Gl X x := by rfl) (hdb : (x == ("__debug__" : Str)) = false := by decide) (he : starEach (e :: es) X.env = (false, eval e X.env) :: starEach es X.env := by rfl) (hpl : (backTo pos (starEach es X.env)).any (·.1) = false := by rfl) :
    De X B ow Γ p s (.Call (.Name x px) (e :: es) [] pos) c (fun ε => G ε ∧ Gf (d ε)) (fun ε => fm (d ε)) u :=
  ⟨(pe_callG F hr hgd hm hk hb h.pa hg hdb he hpl).weaken fun σ H Q ⟨H0, ε, rl, ⟨g1, g2⟩, kk⟩ => ⟨H0, ε, rl, g1, fun vs H1 f1 r1 z1 =>
    ⟨_, d ε, r1.tr s, z1, g2, fun v H' f' z' => kk v H' (f1.trans f'.nil) (r1.grow f') z'⟩⟩⟩
variable {ci : τ → List D} {GS : α × τ → Prop} {fS : α × τ → β × τ}
theorem d_callS (j : Nat) (gt : E → τ) (put : E → τ → E) (hget : ∀ ε, (Γ ε)[j]? = some (some (.list (ci (gt ε))))) (hput : ∀ ε t, Γ (put ε t) = (Γ ε).set j (some (.list (ci t)))) (F : FnG X.prog X.w X.K X.mg X.base k f fd ps (spS X.K cs ci c GS fS))
    (hr : Room k X.A) (hgd : X.A.guards = some []) (hm : X.mg x = some (.ref f)) (hk : PySem.W.keepIn X.K (.ref f) = true) (hb : Binds X.K fd ps []) (h : DA X B ow Γ p true es cs G d u) (hj : j ∈ ow := by decide) (hN : X.N[j]? = some y := by rfl)
    (hv : Vis X.env.scope y := by first | exact Or.inl rfl | exact Or.inr (Or.inl rfl) | exact Or.inr (Or.inr rfl)) (hd : (y == ("__debug__" : Str)) = false := by decide) (hcd : (y == ("__classdict__" : Str)) = false := by decide)
    (hst : starEach (.Name y py :: es) X.env = (false, eval (.Name y py) X.env) :: starEach es X.env := by rfl)
    (hg : Gl X x := by rfl) (hdb : (x == ("__debug__" : Str)) = false := by decide) (hpl : (backTo pos (starEach es X.env)).any (·.1) = false := by rfl) :
    De X B ow Γ false true (.Call (.Name x px) (.Name y py :: es) [] pos) c (fun ε => G ε ∧ GS (d ε, gt (u ε))) (fun ε => (fS (d ε, gt (u ε))).1) (fun ε => put (u ε) (fS (d ε, gt (u ε))).2) :=
  ⟨(pe_callG F hr hgd hm hk hb (pa_cons (pe_var hN hv hd hcd) h.pa hst) hg hdb hst hpl).weaken fun σ H Q ⟨H0, ε, rl, ⟨g1, g2⟩, kk⟩ => by
    obtain ⟨a, vs, ds, e1, e2, e3, e4⟩ := rl.own j _ hj (hget ε)
    refine ⟨_, e1, H0, ε, rl, g1, fun ws H1 f1 r1 z1 => ?_⟩
    obtain ⟨a', us, ds', e1', e2', e3', e4'⟩ := r1.own j _ hj (hget (u ε))
    have ea : a' = a := by rw [e1] at e1'; injection e1' with q; injection q with q; injection q with q; exact q.symm
    subst ea
    injection e2' with e2'
    have ho : a' ∈ oa σ ow := mem_oa.mpr ⟨j, hj, e1⟩
    have s1 : ∀ b ∈ (B.full σ ow).filter (fun b => decide (b ≠ a')) ++ [a'], b ∈ B.full σ ow := fun b hb => by
      rcases List.mem_append.mp hb with h | h
      · exact (List.mem_filter.mp h).1
      · rw [List.mem_singleton.mp h]; exact mem_full.mpr (.inr ho)
    have s2 : ∀ b ∈ B.full σ ow, b ∈ (B.full σ ow).filter (fun b => decide (b ≠ a')) ++ [a'] := fun b hb => by
      by_cases q : b = a'
      · subst q; exact List.mem_append_right _ (List.mem_singleton.mpr rfl)
      · exact List.mem_append_left _ (List.mem_filter.mpr ⟨hb, decide_eq_true q⟩)
    refine ⟨(B.full σ ow).filter (fun b => decide (b ≠ a')), a', us, ws, d ε, gt (u ε), fun b hb => r1.tracked b (List.mem_filter.mp hb).1, fun q => by simpa using (List.mem_filter.mp q).2, rfl, e3', ?_, FzL.sub s1 z1, g2, fun v H' us' f' h' hz z2 z3 => ?_⟩
    · rw [e2']; exact e4'.sub s1
    · refine kk v H' (Fr.trans (A := oa σ ow) ?_ (f'.mono fun b hb => by rw [List.mem_singleton.mp hb]; exact ho)) ?_ (z3.sub s2)
      · cases p with
        | true => exact Fr.nil f1
        | false => exact f1
      · rw [hput]
        exact r1.write hj e1 f' h' hz (z2.sub s2)⟩
end
end Y
namespace Y
open PySem PySem.Spec L2

/-! ### a new list -/
section
variable {E α β : Type}
def tFs (K : Frag) (B : Bd) (ow : List Nat) (Γ : E → List (Option D)) (p : Bool) (c : α → D) (G : E → Prop) (d : E → List α) (u : E → E) : TE := fun σ H Q =>
  ∃ H0 ε, Rel K B H0 ow σ H (Γ ε) ∧ G ε ∧ ∀ q H' vs, H q = none → Fr (cond p [] (oa σ ow)) H H' → Rel K (B.plus q) H0 ow σ H' (Γ (u ε)) → H' q = some (.lst vs) → vs.length ≤ szN → FzL K ((B.plus q).full σ ow) H' vs ((d ε).map c) → Q (.ref q) H'
structure DL (X : Cx) (B : Bd) (ow : List Nat) (Γ : E → List (Option D)) (p : Bool) (e : Expr) (c : α → D) (G : E → Prop) (d : E → List α) (u : E → E) : Prop where
  pe : PE X e (tFs X.K B ow Γ p c G d u)
end
theorem Rel.h0 {K : Frag} {B : Bd} {H0 H : Hp} {ow : List Nat} {σ : L2.St} {γ : List (Option D)} (r : Rel K B H0 ow σ H γ) {q : Addr} (h : H q = none) : H0 q = none ∨ q ∈ B.io.toList := by
  by_cases hq : q ∈ B.io.toList
  · exact .inr hq
  · left
    cases e : H0 q with
    | none => rfl
    | some o => rw [r.fr q o e hq] at h; cases h
theorem Rel.notio {K : Frag} {B : Bd} {H0 H : Hp} {ow : List Nat} {σ : L2.St} {γ : List (Option D)} (r : Rel K B H0 ow σ H γ) {q : Addr} (h : H q = none) : q ∉ B.io.toList := fun hq => by
  cases hb : B.io with
  | none => rw [hb] at hq; simp at hq
  | some p =>
    rw [hb] at hq
    have e : q = p := by simpa using hq
    obtain ⟨h1, h2⟩ := r.io p hb
    obtain ⟨xs, e2⟩ := r.trk p (mem_oa.mpr ⟨0, h1, h2⟩)
    rw [e, e2] at h; cases h
section
variable {X : Cx} {B : Bd} {ow : List Nat} {E α β γ : Type} {Γ : E → List (Option D)} {p s : Bool} {e : Expr} {es : List Expr} {pos : Pos} {c : α → D} {G : E → Prop} {d : E → List α} {u : E → E}
theorem DL.de (h : DL X B ow Γ p e c G d u) : De X B ow Γ p true e (cL c) G d u := ⟨h.pe.weaken fun σ H Q ⟨H0, ε, rl, g, k⟩ => ⟨H0, ε, rl, g, fun q H' vs hq f r hv hz z => k _ H' f r.unplus (by
  refine .lst ⟨⟨fun h => ?_, hv⟩, hz⟩ (z.sub full_plus)
  rcases mem_full.mp h with h | h
  · exact rl.base_trk q h hq
  · exact (r.xt q (by simp [Bd.plus])).2 h)⟩⟩
/-- forms that make a list of values -/
theorem DL.of {t : TE} {m : L2.St → Hp → (List V → Hp → Prop) → Prop} (ht : PE X e t) (h : ∀ σ H Q, m σ H (fun vs H1 => ∀ q, H1 q = none → Q (.ref q) (upd H1 q (.lst vs))) → t σ H Q)
    (hm : ∀ σ H (H0 : Hp) ε Q, Rel X.K B H0 ow σ H (Γ ε) → G ε → (∀ vs H1, Fr (cond p [] (oa σ ow)) H H1 → Rel X.K B H0 ow σ H1 (Γ (u ε)) → vs.length ≤ szN → FzL X.K (B.full σ ow) H1 vs ((d ε).map c) → Q vs H1) → m σ H Q)
    (hk : ∀ σ H H1, Fr (cond p [] (oa σ ow)) H H1 → ∀ q, H1 q = none → H q = none) : DL X B ow Γ p e c G d u :=
  ⟨ht.weaken fun σ H Q ⟨H0, ε, rl, g, k⟩ => h σ H Q (hm σ H H0 ε _ rl g fun vs H1 f1 r1 hz z1 q hq => k q _ vs (hk σ H H1 f1 q hq) (f1.trans (Fr.new hq)) (r1.plus hq) upd_same hz (by
    have z2 : FzL X.K (q :: B.full σ ow) H1 vs ((d ε).map c) := z1.more hq
    refine (z2.sub fun x hx => ?_).fr (Fr.new hq)
    simp only [Bd.full, Bd.base, Bd.plus, List.mem_append, List.mem_cons] at hx ⊢
    rcases hx with (h | h | h) | h
    · exact .inr (.inl (.inl h))
    · exact .inl h
    · exact .inr (.inl (.inr h))
    · exact .inr (.inr h)))⟩
theorem tracked_back {H H1 : Hp} {A : List Addr} (hA : ∀ a ∈ A, H1 a ≠ none) (f : Fr A H H1) {q : Addr} (hq : H1 q = none) : H q = none := by
  cases e : H q with
  | none => rfl
  | some o => rw [f q o e fun z => hA q z hq] at hq; cases hq
end

/-! ### statements -/
inductive Out (N R S : Type) where
  | nx (n : N) | rt (r : R) | bk (s : S) | ct (s : S)
@[reducible] def Out.bind {N M R S : Type} (o : Out N R S) (k : N → Out M R S) : Out M R S := match o with
  | .nx n => k n
  | .rt r => .rt r
  | .bk s => .bk s
  | .ct s => .ct s
def EX {R : Type} (K : Frag) (B : Bd) (cr : R → D) (ci : R → List D) (H0 : Hp) (r : R) (v : V) (H' : Hp) : Prop :=
  Fr B.io.toList H0 H' ∧ Fz K (B.base ++ B.io.toList) H' v (cr r) ∧ ∀ p, B.io = some p → ∃ us, (H' p = some (.lst us) ∧ us.length ≤ szN) ∧ FzL K (B.base ++ B.io.toList) H' us (ci r)
section
variable {E N R S : Type}
def tSS (K : Frag) (B : Bd) (ow : List Nat) (Γ : E → List (Option D)) (cr : R → D) (ci : R → List D) (owS : List Nat) (ΓS : S → List (Option D)) (G : E → Prop) (d : E → Out N R S) (ow' : List Nat) (Γ' : N → List (Option D)) : TS := fun Dn σ H =>
  ∃ H0 ε, Rel K B H0 ow σ H (Γ ε) ∧ G ε ∧ match d ε with
    | .nx n => ∀ σ' H', Rel K B H0 ow' σ' H' (Γ' n) → Dn.nx σ' H'
    | .rt r => ∀ v H', EX K B cr ci H0 r v H' → Dn.rt v H'
    | .bk s => ∀ σ' H', Rel K B H0 owS σ' H' (ΓS s) → Dn.bk σ' H'
    | .ct s => ∀ σ' H', Rel K B H0 owS σ' H' (ΓS s) → Dn.ct σ' H'
structure Ds (X : Cx) (B : Bd) (ow : List Nat) (Γ : E → List (Option D)) (cr : R → D) (ci : R → List D) (owS : List Nat) (ΓS : S → List (Option D)) (st : Stmt) (G : E → Prop) (d : E → Out N R S) (ow' : List Nat) (Γ' : N → List (Option D)) : Prop where
  ps : PS X st (tSS X.K B ow Γ cr ci owS ΓS G d ow' Γ')
structure Dss (X : Cx) (B : Bd) (ow : List Nat) (Γ : E → List (Option D)) (cr : R → D) (ci : R → List D) (owS : List Nat) (ΓS : S → List (Option D)) (sts : List Stmt) (G : E → Prop) (d : E → Out N R S) (ow' : List Nat) (Γ' : N → List (Option D)) : Prop where
  pss : PSs X sts (tSS X.K B ow Γ cr ci owS ΓS G d ow' Γ')
end
section
variable {X : Cx} {B : Bd} {ow ow1 ow2 ow' owS : List Nat} {E E2 N N1 R S α β τ : Type} {Γ : E → List (Option D)} {Γ1 : N1 → List (Option D)} {Γ' : N → List (Option D)} {ΓS : S → List (Option D)} {cr : R → D} {ci : R → List D}
  {st : Stmt} {sts : List Stmt} {G G1 : E → Prop} {G2 : N1 → Prop} {d : E → Out N R S} {d1 : E → Out N1 R S} {d2 : N1 → Out N R S} {pos px : Pos} {e : Expr} {p s : Bool} {u : E → E}
theorem s_nil : Dss X B ow Γ cr ci owS ΓS [] (fun _ => True) (fun ε => .nx ε) ow Γ := ⟨pss_nil.weaken fun Dn σ H ⟨H0, ε, rl, _, k⟩ => k σ H rl⟩
theorem s_one (h : Ds X B ow Γ cr ci owS ΓS st G d ow' Γ') : Dss X B ow Γ cr ci owS ΓS [st] G d ow' Γ' := ⟨pss_one h.ps⟩
/-- a statement that goes on, the rest -/
theorem s_cons {f : E → N1} (h1 : Ds X B ow Γ cr ci owS ΓS st G1 (fun ε => .nx (f ε)) ow1 Γ1) (h2 : Dss X B ow1 Γ1 cr ci owS ΓS sts G2 d2 ow' Γ') : Dss X B ow Γ cr ci owS ΓS (st :: sts) (fun ε => G1 ε ∧ G2 (f ε)) (fun ε => d2 (f ε)) ow' Γ' :=
  ⟨(pss_cons h1.ps h2.pss).weaken fun Dn σ H ⟨H0, ε, rl, ⟨g1, g2⟩, k⟩ => ⟨H0, ε, rl, g1, fun σ' H' r' => ⟨H0, f ε, r', g2, k⟩⟩⟩
/-- a statement that may leave, the rest -/
theorem s_consM (h1 : Ds X B ow Γ cr ci owS ΓS st G1 d1 ow1 Γ1) (h2 : Dss X B ow1 Γ1 cr ci owS ΓS sts G2 d2 ow' Γ') : Dss X B ow Γ cr ci owS ΓS (st :: sts) (fun ε => G1 ε ∧ ∀ n, d1 ε = .nx n → G2 n) (fun ε => (d1 ε).bind d2) ow' Γ' :=
  ⟨(pss_cons h1.ps h2.pss).weaken fun Dn σ H ⟨H0, ε, rl, ⟨g1, g2⟩, k⟩ => ⟨H0, ε, rl, g1, by
    cases h : d1 ε with
    | nx n => simp only [h, Out.bind] at k; exact fun σ' H' r' => ⟨H0, n, r', g2 n h, k⟩
    | rt r => simp only [h, Out.bind] at k; exact k
    | bk r => simp only [h, Out.bind] at k; exact k
    | ct r => simp only [h, Out.bind] at k; exact k⟩⟩
/-- the slots told otherwise ahead of it -/
theorem s_conv {Γ2 : E2 → List (Option D)} {G : E2 → Prop} {d : E2 → Out N R S} (f : E → E2) (hc : ∀ (H0 : Hp) ε σ H, Rel X.K B H0 ow σ H (Γ ε) → Rel X.K B H0 ow2 σ H (Γ2 (f ε))) (h : Dss X B ow2 Γ2 cr ci owS ΓS sts G d ow' Γ') :
    Dss X B ow Γ cr ci owS ΓS sts (fun ε => G (f ε)) (fun ε => d (f ε)) ow' Γ' :=
  ⟨h.pss.weaken fun Dn σ H ⟨H0, ε, rl, g, k⟩ => ⟨H0, f ε, hc H0 ε σ H rl, g, k⟩⟩
theorem Dss.is {d' : E → Out N R S} {G' : E → Prop} (h : Dss X B ow Γ cr ci owS ΓS sts G d ow' Γ') (hg : ∀ ε, G' ε → G ε) (hd : ∀ ε, G' ε → d ε = d' ε) : Dss X B ow Γ cr ci owS ΓS sts G' d' ow' Γ' :=
  ⟨h.pss.weaken fun Dn σ H ⟨H0, ε, rl, g, k⟩ => ⟨H0, ε, rl, hg ε g, by rw [hd ε g]; exact k⟩⟩
/-- what follows is told with fewer slots -/
theorem Dss.wk {f : E → N} {N2 : Type} {Γ2 : N2 → List (Option D)} (g : E → N2) (hc : ∀ (H0 : Hp) ε σ H, Rel X.K B H0 ow' σ H (Γ' (f ε)) → Rel X.K B H0 ow2 σ H (Γ2 (g ε))) (h : Dss X B ow Γ cr ci owS ΓS sts G (fun ε => .nx (f ε)) ow' Γ') : Dss X B ow Γ cr ci owS ΓS sts G (fun ε => .nx (g ε)) ow2 Γ2 :=
  ⟨h.pss.weaken fun Dn σ H ⟨H0, ε, rl, gg, k⟩ => ⟨H0, ε, rl, gg, fun σ' H' r' => k σ' H' (hc H0 ε σ' H' r')⟩⟩
/-- never reached -/
theorem s_no : Ds X B ow Γ cr ci owS ΓS st (fun _ => False) d ow' Γ' := ⟨ps_never.weaken fun Dn σ H ⟨_, _, _, g, _⟩ => g⟩
theorem ss_no : Dss X B ow Γ cr ci owS ΓS sts (fun _ => False) d ow' Γ' := ⟨pss_never.weaken fun Dn σ H ⟨_, _, _, g, _⟩ => g⟩
theorem s_pass : Ds X B ow Γ cr ci owS ΓS (.Pass pos) (fun _ => True) (fun ε => .nx ε) ow Γ := ⟨ps_pass.weaken fun Dn σ H ⟨H0, ε, rl, _, k⟩ => k σ H rl⟩

/-! stores -/
theorem s_asg {x : Str} {c : α → D} {dv : E → α} (i : Nat) (he : De X B ow Γ p true e c G dv u) (hio : i ∉ ow := by decide) (hi : X.N[i]? = some x := by rfl) (hx : Loc X.env.scope x := by first | exact .inl rfl | exact .inr rfl) (hN : X.N.Nodup := by assumption)
    (hs : swapsWith e (some (.Name x px)) pos.line X.env = pure false := by rfl) (hf : X.fn x = true ∨ X.env.scope.names.lookup x = some .local := by first | exact .inl rfl | exact .inr rfl) :
    Ds X B ow Γ cr ci owS ΓS (.Assign [.Name x px] e pos) G (fun ε => .nx (u ε, dv ε)) ow (fun q : E × α => (Γ q.1).set i (some (c q.2))) :=
  ⟨(ps_set (pos' := px) (pos := pos) hN hi hx he.pe hs hf).weaken fun Dn σ H ⟨H0, ε, rl, g, k⟩ => ⟨H0, ε, rl, g, fun v H' f r z => k _ H' (r.set hio z)⟩⟩
theorem s_own {x : Str} {c : α → D} {dv : E → List α} (i : Nat) (he : DL X B ow Γ p e c G dv u) (hl : ∀ ε, i < (Γ ε).length) (h' : ∀ j, j ∈ ow' ↔ j ∈ ow ∨ j = i) (h0 : B.io ≠ none → i ≠ 0) (hi : X.N[i]? = some x := by rfl) (hx : Loc X.env.scope x := by first | exact .inl rfl | exact .inr rfl)
    (hN : X.N.Nodup := by assumption) (hs : swapsWith e (some (.Name x px)) pos.line X.env = pure false := by rfl) (hf : X.fn x = true ∨ X.env.scope.names.lookup x = some .local := by first | exact .inl rfl | exact .inr rfl) :
    Ds X B ow Γ cr ci owS ΓS (.Assign [.Name x px] e pos) G (fun ε => .nx (u ε, dv ε)) ow' (fun q : E × List α => (Γ q.1).set i (some (.list (q.2.map c)))) :=
  ⟨(ps_set (pos' := px) (pos := pos) hN hi hx he.pe hs hf).weaken fun Dn σ H ⟨H0, ε, rl, g, k⟩ => ⟨H0, ε, rl, g, fun q H' vs hq f r hv hz z => k _ H' (r.setOwn hv hz (by
    rcases rl.h0 hq with h | h
    · exact h
    · exact absurd h (rl.notio hq)) (fun h => rl.base_trk q h hq) z (hl _) h' h0)⟩⟩
theorem s_par {x y : Str} {a b : Expr} {cs : τ → List D} {ca : α → D} {cb : β → D} {dv : E → τ} {ga : τ → α} {gb : τ → β} {py pt : Pos} {kt k2 pt2} (i j : Nat) (h : DA X B ow Γ p true [a, b] cs G dv u) (hcs : ∀ t, cs t = [ca (ga t), cb (gb t)])
    (hw : swappedStores [.Tuple [.Name x px, .Name y py] kt pt] (.Tuple [a, b] k2 pt2) X.env = pure (some [x, y])) (hij : i ≠ j := by decide) (hio : i ∉ ow := by decide) (hjo : j ∉ ow := by decide)
    (hi : X.N[i]? = some x := by rfl) (hj : X.N[j]? = some y := by rfl) (hx : X.env.scope.names.lookup x = some .local := by rfl) (hy : X.env.scope.names.lookup y = some .local := by rfl) (hN : X.N.Nodup := by assumption) (hc : X.calm = true := by rfl)
    (hs : swapsWithSole [.Tuple [.Name x px, .Name y py] kt pt] (.Tuple [a, b] k2 pt2) pos.line X.env = pure false := by rfl) :
    Ds X B ow Γ cr ci owS ΓS (.Assign [.Tuple [.Name x px, .Name y py] kt pt] (.Tuple [a, b] k2 pt2) pos) G (fun ε => .nx ((u ε, ga (dv ε)), gb (dv ε))) ow (fun q : (E × α) × β => ((Γ q.1.1).set i (some (ca q.1.2))).set j (some (cb q.2))) :=
  ⟨(ps_par hc hN hi hj hij hx hy h.pa hw hs).weaken fun Dn σ H ⟨H0, ε, rl, g, k⟩ => ⟨H0, ε, rl, g, fun vs H' f r z => by
    have z' : FzL X.K (B.full σ ow) H' vs [ca (ga (dv ε)), cb (gb (dv ε))] := by rw [← hcs]; exact z
    obtain ⟨v, w, rfl, z1, z2⟩ := fzl2 (ds := []) z'
    refine ⟨v, w, rfl, k _ H' ((r.set hio z1).set hjo ?_)⟩
    unfold Bd.full
    rw [oa_set hio]
    exact z2⟩⟩
/-- x += e of ints -/
theorem s_aug {x : Str} {op : Operator} {f : Int → Int → Int} {gx : E → Int} {dv : E → Int} (i : Nat) (ho : PIp X op (ipI f)) (hg : ∀ ε, (Γ ε)[i]? = some (some (cI (gx ε)))) (he : De X B ow Γ true true e cI G dv (fun ε => ε)) (hio : i ∉ ow := by decide) (hi : X.N[i]? = some x := by rfl)
    (hx : Loc X.env.scope x := by first | exact .inl rfl | exact .inr rfl) (hN : X.N.Nodup := by assumption) (hf : X.fn x = true ∨ X.env.scope.names.lookup x = some .local := by first | exact .inl rfl | exact .inr rfl) :
    Ds X B ow Γ cr ci owS ΓS (.AugAssign (.Name x px) op e pos) G (fun ε => .nx (ε, f (gx ε) (dv ε))) ow (fun q : E × Int => (Γ q.1).set i (some (cI q.2))) :=
  ⟨(ps_aug (pos' := px) (pos := pos) hN hi hx he.pe ho hf).weaken fun Dn σ H ⟨H0, ε, rl, g, k⟩ => by
    obtain ⟨v, e1, z1⟩ := rl.fz i _ hio (hg ε)
    cases z1.int_inv
    refine ⟨_, e1, H0, ε, rl, g, fun w H' f' r z2 => ?_⟩
    cases z2.int_inv
    exact ⟨_, _, rfl, rfl, k _ H' (r.set hio (.int _))⟩⟩
theorem s_drop {c : α → D} {dv : E → α} (he : De X B ow Γ p s e c G dv u) (hs : swapsWith e none pos.line X.env = pure false := by rfl) : Ds X B ow Γ cr ci owS ΓS (.Expr e pos) G (fun ε => .nx (u ε)) ow Γ :=
  ⟨(ps_expr he.pe hs).weaken fun Dn σ H ⟨H0, ε, rl, g, k⟩ => ⟨H0, ε, rl, g, fun v H' f r z => k _ H' r⟩⟩
theorem s_ret {c : α → D} {dv : E → α} {r : α → E → R} (hcr : ∀ a ε, cr (r a ε) = c a) (hb : B.io = none) (he : De X B ow Γ p s e c G dv u) : Ds X B ow Γ cr ci owS ΓS (.Return (some e) pos) G (fun ε => .rt (r (dv ε) (u ε))) ow' Γ' :=
  ⟨(ps_ret he.pe).weaken fun Dn σ H ⟨H0, ε, rl, g, k⟩ => ⟨H0, ε, rl, g, fun v H' f r' z => k v H' ⟨r'.fr, by
    rw [hcr, hb]
    refine z.sub fun a ha => ?_
    have ha' : a ∈ B.base := by simpa using ha
    cases s with
    | true => exact List.mem_append_left _ ha'
    | false => exact ha', fun p hp => by rw [hb] at hp; cases hp⟩⟩⟩
theorem s_retS {c : α → D} {dv : E → α} {r : α → E → R} (hcr : ∀ a ε, cr (r a ε) = c a) (hci : ∀ a ε, (Γ ε)[0]? = some (some (.list (ci (r a ε))))) (he : De X B ow Γ p true e c G dv u) : Ds X B ow Γ cr ci owS ΓS (.Return (some e) pos) G (fun ε => .rt (r (dv ε) (u ε))) ow' Γ' :=
  ⟨(ps_ret he.pe).weaken fun Dn σ H ⟨H0, ε, rl, g, k⟩ => ⟨H0, ε, rl, g, fun v H' f r' z => by
    have sub : ∀ a ∈ B.base ++ B.io.toList, a ∈ B.full σ ow := fun a ha => by
      rcases List.mem_append.mp ha with ha | ha
      · exact List.mem_append_left _ ha
      · cases hb : B.io with
        | none => rw [hb] at ha; simp at ha
        | some q =>
          rw [hb] at ha
          have e : a = q := by simpa using ha
          obtain ⟨h1, h2⟩ := r'.io q hb
          rw [e]
          exact mem_full.mpr (.inr (mem_oa.mpr ⟨0, h1, h2⟩))
    refine k v H' ⟨r'.fr, by rw [hcr]; exact z.sub sub, fun q hq => ?_⟩
    obtain ⟨h1, h2⟩ := r'.io q hq
    obtain ⟨a, vs, ds, e1, e2, e3, e4⟩ := r'.own 0 _ h1 (hci (dv ε) (u ε))
    rw [h2] at e1
    injection e1 with e1; injection e1 with e1; injection e1 with e1
    injection e2 with e2
    subst e1
    exact ⟨vs, e3, by rw [e2]; exact e4.sub sub⟩⟩⟩
variable {t : E → Bool} {a b : List Stmt} {Na Nb M : Type} {Γa : Na → List (Option D)} {Γb : Nb → List (Option D)} {ΓM : M → List (Option D)} {Ga Gb : E → Prop} {owa owb : List Nat} {fa fb : E → M}
/-- if, both ways going on, joined -/
theorem s_if (ht : Dt X B ow Γ p e G t (fun ε => ε)) (ha : Dss X B ow Γ cr ci owS ΓS a Ga (fun ε => .nx (fa ε)) ow' ΓM) (hb : Dss X B ow Γ cr ci owS ΓS b Gb (fun ε => .nx (fb ε)) ow' ΓM) :
    Ds X B ow Γ cr ci owS ΓS (.If e a b pos) (fun ε => G ε ∧ (t ε = true → Ga ε) ∧ (t ε = false → Gb ε)) (fun ε => .nx (if t ε = true then fa ε else fb ε)) ow' ΓM :=
  ⟨(ps_if ht.pt ha.pss hb.pss).weaken fun Dn σ H ⟨H0, ε, rl, ⟨g, g1, g2⟩, k⟩ => ⟨H0, ε, rl, g, fun H' f r => by
    cases h : t ε with
    | true =>
      rw [if_pos rfl]
      exact ⟨H0, ε, r, g1 h, fun σ' H' r' => k σ' H' (by rw [if_pos h]; exact r')⟩
    | false =>
      rw [if_neg Bool.false_ne_true]
      exact ⟨H0, ε, r, g2 h, fun σ' H' r' => k σ' H' (by rw [if_neg (by rw [h]; exact Bool.false_ne_true)]; exact r')⟩⟩⟩
/-- if, any ways -/
theorem s_ifM {da db : E → Out N R S} (ht : Dt X B ow Γ p e G t u) (ha : Dss X B ow Γ cr ci owS ΓS a Ga da ow' Γ') (hb : Dss X B ow Γ cr ci owS ΓS b Gb db ow' Γ') :
    Ds X B ow Γ cr ci owS ΓS (.If e a b pos) (fun ε => G ε ∧ (t ε = true → Ga (u ε)) ∧ (t ε = false → Gb (u ε))) (fun ε => if t ε = true then da (u ε) else db (u ε)) ow' Γ' :=
  ⟨(ps_if ht.pt ha.pss hb.pss).weaken fun Dn σ H ⟨H0, ε, rl, ⟨g, g1, g2⟩, k⟩ => ⟨H0, ε, rl, g, fun H' f r => by
    cases h : t ε with
    | true =>
      simp only [h, if_true] at k
      rw [if_pos rfl]
      exact ⟨H0, _, r, g1 h, k⟩
    | false =>
      simp only [h, Bool.false_eq_true, if_false] at k
      rw [if_neg Bool.false_ne_true]
      exact ⟨H0, _, r, g2 h, k⟩⟩⟩
/-- if c: (leaves), then the rest: as an if over both -/
theorem s_ifR {da db : E → Out N R S} (ht : Dt X B ow Γ p e G t u) (ha : Dss X B ow Γ cr ci owS ΓS a Ga da ow' Γ') (hleave : ∀ ε n, da ε ≠ .nx n) (hb : Dss X B ow Γ cr ci owS ΓS sts Gb db ow' Γ') :
    Dss X B ow Γ cr ci owS ΓS (.If e a [] pos :: sts) (fun ε => G ε ∧ (t ε = true → Ga (u ε)) ∧ (t ε = false → Gb (u ε))) (fun ε => if t ε = true then da (u ε) else db (u ε)) ow' Γ' :=
  ⟨(pss_cons (ps_if ht.pt ha.pss pss_nil) hb.pss).weaken fun Dn σ H ⟨H0, ε, rl, ⟨g, g1, g2⟩, k⟩ => ⟨H0, ε, rl, g, fun H' f r => by
    cases h : t ε with
    | true =>
      simp only [h, if_true] at k
      rw [if_pos rfl]
      refine ⟨H0, _, r, g1 h, ?_⟩
      cases q : da (u ε) with
      | nx n => exact absurd q (hleave _ n)
      | rt r => simp only [q] at k; exact k
      | bk r => simp only [q] at k; exact k
      | ct r => simp only [q] at k; exact k
    | false =>
      simp only [h, Bool.false_eq_true, if_false] at k
      rw [if_neg Bool.false_ne_true]
      exact ⟨H0, _, r, g2 h, k⟩⟩⟩
/-- if c: raise .., then the rest -/
theorem s_ifX {db : E → Out N R S} (ht : Dt X B ow Γ p e G t u) (hb : Dss X B ow Γ cr ci owS ΓS sts Gb db ow' Γ') :
    Dss X B ow Γ cr ci owS ΓS (.If e a [] pos :: sts) (fun ε => (G ε ∧ t ε = false) ∧ Gb (u ε)) (fun ε => db (u ε)) ow' Γ' :=
  ⟨(pss_cons (ps_if ht.pt pss_never pss_nil) hb.pss).weaken fun Dn σ H ⟨H0, ε, rl, ⟨⟨g, g1⟩, g2⟩, k⟩ => ⟨H0, ε, rl, g, fun H' f r => by
    rw [g1]
    show (if false = true then _ else _)
    rw [if_neg Bool.false_ne_true]
    exact ⟨H0, _, r, g2, k⟩⟩⟩
end
end Y
namespace Y
open PySem PySem.Spec PyProof.Rows L2

/-! ### enumerate(tuple) -/
def ItE (K : Frag) (a : Addr) : It :=
  ⟨fun i H => ∃ (xs : List V) (x : V), SqT K H a xs ∧ xs[i]? = some x, fun i H v H' => ∃ T x, v = .ref T ∧ H T = none ∧ H' = upd H T (.tup [.int (i : Nat), x]) ∧ ∀ xs, SqT K H a xs → xs[i]? = some x, fun i H => ∃ xs : List V, SqT K H a xs ∧ xs.length ≤ i⟩
theorem turn_enT {P : Program} {w : World} {K : Frag} {elts : List Expr} {kk : Nat} {tpos : Pos} (a e it : Addr) (hat : a ≠ it) (hae : a ≠ e) :
    Turn P w K (.Tuple elts kk tpos) (ItE K a) [e, it] e (fun i h => (∃ old, IsEnum h e it ((i : Nat) : Int) old) ∧ h.IsTupleIter it a i ∧ e ≠ it) where
  mem := List.mem_cons_self
  obj := fun i h st b hb => by
    obtain ⟨⟨old, he⟩, ⟨o, ho, hc, hd⟩, _⟩ := st
    rcases List.mem_cons.mp hb with z | hb
    · rw [z]; exact ⟨_, he, fun v q => nomatch q⟩
    · rw [List.mem_singleton.mp hb]; exact ⟨o, ho, fun v q => by rw [hd] at q; cases q⟩
  keep := fun i h h' st k => let ⟨⟨old, he⟩, hi, hne⟩ := st; ⟨⟨old, k e (by simp) _ he⟩, hi.at fun o q => k it (by simp) o q, hne⟩
  item := by
    intro X hP hw hK hc i pins s σ H E I hf st hg
    subst hP hw hK
    obtain ⟨⟨old, he⟩, hit, hne⟩ := st
    obtain ⟨xs, x, hq, hx⟩ := hg
    obtain ⟨its, rv, p, hz⟩ := I.tuple hq
    obtain ⟨u, hu, ru⟩ := rv.get hx
    have hel := Heap.lt_size he
    have hil : it < s.heap.objs.size := by obtain ⟨_, q, _⟩ := hit; exact Heap.lt_size q
    have hlt : i < its.toArray.size := by
      have h1 := rv.length
      have h2 := (List.getElem?_eq_some_iff.mp hx).1
      simp only [List.size_toArray]; omega
    have hcl : X.A.in1.handled = none := I.ok.hd hc
    refine wpAny_pyNext_enum_itemD (Draws.tuple hcl it a hat its.toArray) he ⟨hit, show s.heap.IsTuple a its.toArray from p⟩ hlt hne (fun z => by
      rcases List.mem_cons.mp z with z | z
      · exact hne z
      · exact hae (List.mem_singleton.mp z).symm) fun x' h' tk hx' ho st' hT hsz hk => ?_
    have ex : x' = u := by
      have : its.toArray[i]? = some u := by simpa using hu
      rw [this] at hx'; injection hx' with hx'; exact hx'.symm
    subst ex
    refine ⟨_, rfl, wpAny_letOwnedTupleGo_enum (s := { s with heap := h', toks := tk + 1 }) ho fun h'' he' sb => ?_⟩
    have hT2 : h''.get? s.heap.objs.size = some { cls := .type "tuple", data := .seq #[.int i tk, x'] } := (sb.2 _ (Nat.ne_of_gt hel)).trans hT
    have nw : ObjOk X.prog X.w (upd H s.heap.objs.size (.tup [.int (i : Nat), x])) h'' s.heap.objs.size (.tup [.int (i : Nat), x]) :=
      ⟨by show 2 ≤ sizeLine; decide, [.int i tk, x'], .cons ⟨_, rfl⟩ (.cons ru .nil), ⟨_, hT2, rfl, _, rfl⟩⟩
    have I1 := I.turnedNew (t' := tk + 1) (ch := [e, it]) (fun b ob hb q => (sb.2 b (fun z => hb (by simp [z]))).trans (hk b ob (fun z => hb (by simp [z])) (fun z => hb (by simp [z])) q)) hf (Nat.le_refl _) nw
    refine ⟨.ref s.heap.objs.size, _, I1, rfl, ⟨_, x, rfl, I.hok.fresh (Nat.le_refl _), rfl, fun ys hy => by rw [I.tuple_inj hy hq]; exact hx⟩, ⟨⟨x', ?_⟩, st'.1.at fun o q => (sb.2 it (Ne.symm hne)).trans q, hne⟩, fun b hb => ?_⟩
    · have e1 : ((i + 1 : Nat) : Int) = (i : Int) + 1 := by omega
      rw [e1]; exact he'
    · have hb' : b < s.heap.objs.size := by
        rcases List.mem_cons.mp hb with z | z
        · rw [z]; exact hel
        · rw [List.mem_singleton.mp z]; exact hil
      rw [upd_ne (Nat.ne_of_lt hb')]
      exact (hf b hb).1
  done := by
    intro X hP hw hK hc i pins s σ H E I hf st hg
    subst hP hw hK
    obtain ⟨⟨old, he⟩, hit, hne⟩ := st
    obtain ⟨xs, hq, hx⟩ := hg
    obtain ⟨its, rv, p, hz⟩ := I.tuple hq
    obtain ⟨f0, f1, f2, f3, f4, f5⟩ := hf it (by simp)
    have hT : s.TypeIs (.ref e) "enumerate" := ⟨_, he, rfl⟩
    have hcl : X.A.in1.handled = none := I.ok.hd hc
    have hl := rv.length
    unfold pyNext
    refine wpAny_bind (wpAny_attempt (wpAny_callSpecial?_slot (name := Str.ofString "__next__") hT F.slot_enumerate_next
      (wpAny_call_entry F.slot_enumerate_next hT F.entry_enumerate_next ?_ (F.args_enumerate_next_1 _))))
    show wpAny _ _ (field (.ref e) 2 >>= _) _ _ _
    refine wpAny_bind (wpAny_field he rfl (x := .ref it) rfl ?_)
    refine wpAny_bind (wpAny_nextOf_tuple_end hcl hit (show s.heap.IsTuple a its.toArray from p) (by simp; omega) fun h' x he' hx' => ?_)
    obtain ⟨o, ho, hc'⟩ := hx'
    refine wpAny_bind (wpAny_isInstance (T := "StopIteration") (b := true) ⟨o, ho, hc'⟩ isSubtype_stop ?_)
    exact wpAny_pure ⟨rfl, I.turned (t' := s.toks) (fun b o hb q => he' b o hb q) f0 f1 f3 f4 f5⟩
  self := fun A i s Q E st h => let ⟨⟨_, he⟩, _⟩ := st; wpAny_pyIter_enum he h
set_option maxHeartbeats 4000000 in
theorem meets_en_new {v : Value} {o : Obj} {Hh : Heap → Prop} (Bg : Begins v o Hh) :
    Meets (Builtin.«enumerate.__new__» ⟨[.type "enumerate", v], []⟩) (fun _ R s => Hh s.heap ∧
      R (.ok (.ret (.ref (s.heap.push o).objs.size))) { s with heap := (s.heap.push o).push { cls := .type "enumerate", data := .fields #[.none, .bool false, .ref s.heap.objs.size, rawInt 0, .none, .none] } }) := by
  refine .of_wp fun prog w A R s h => ?_
  obtain ⟨hp, g, d, tk, os⟩ := s
  obtain ⟨h1, h⟩ := h
  have hsub := sub_enumerate
  have q1 : ∀ {A' : Around} {E : Value → Shared → Prop} {Q : Value → Shared → Prop}, Q (.ref hp.objs.size) ⟨hp.push o, g, d, tk, os⟩ → wpAny (model prog w) A' (pyIter v) Q E ⟨hp, g, d, tk, os⟩ := fun q => Bg.iter prog w _ _ _ _ h1 q
  wp_walk using q1
  refine wpAny_stack_any fun st => wpAny_pure ?_
  split
  · rename_i c _ _ _ _ _
    cases (c == Value.type "enumerate") <;> (wp_walk using q1; exact ⟨_, rfl, h⟩)
  · wp_walk using q1
    exact ⟨_, rfl, h⟩
def iEnT (K : Frag) (ta : TA) : TI := fun σ H R => ta σ H fun vs H1 => ∃ a xs, vs = [.ref a] ∧ SqT K H1 a xs ∧ R (ItE K a) H1
theorem pi_enT {X : Cx} {e : Expr} {ta : TA} {p pos tpos : Pos} {elts : List Expr} {kk : Nat} (hg : Gl X "enumerate") (hm : X.mg "enumerate" = none) (ha : PA X [e] ta) (hs : starEach [e] X.env = [(false, eval e X.env)] := by rfl) :
    PI X (.Tuple elts kk tpos) (.Call (.Name "enumerate" p) [e] [] pos) (iEnT X.K ta) := by
  constructor
  intro pins s σ H R I h
  refine Call_ (ld_blt I hg hm boot_enumerate (callWith_type1 (thn (ha.run pos pins s σ H _ I h) fun us s1 ⟨vs, H1, I1, r1, q1⟩ => ?_) hs rfl))
  obtain ⟨a, xs, ex, hq, q⟩ := q1
  subst ex
  cases r1 with
  | cons r rr =>
    cases rr
    cases r
    obtain ⟨its, rv, p', hz⟩ := I1.tuple hq
    refine callType_new F.called_enumerate (by decide) (F.typeCall_enumerate_1 _) (F.newCall_enumerate_1 _) (fun obj => F.args_object_init_2 obj _) F.entry_enumerate_new (meets_en_new (begins_tuple a its.toArray)) ⟨show s1.heap.IsTuple a its.toArray from p', ?_⟩
    generalize hob : ({ cls := .type "tuple_iterator", data := .fields #[.ref a, .int 0 0] } : Obj) = ob
    have hfr : ob.isFreed = false := by rw [← hob]; rfl
    have hz1 : (s1.heap.push ob).objs.size = s1.heap.objs.size + 1 := Heap.size_push ..
    show _ ∧ _
    rw [hz1]
    have he : IsEnum ((s1.heap.push ob).push { cls := .type "enumerate", data := .fields #[.none, .bool false, .ref s1.heap.objs.size, rawInt 0, .none, .none] }) (s1.heap.objs.size + 1) s1.heap.objs.size 0 .none := by
      have := Heap.get?_push_size (s1.heap.push ob) (o := { cls := .type "enumerate", data := .fields #[.none, .bool false, .ref s1.heap.objs.size, rawInt 0, .none, .none] }) rfl
      rw [hz1] at this; exact this
    have hit : ((s1.heap.push ob).push { cls := .type "enumerate", data := .fields #[.none, .bool false, .ref s1.heap.objs.size, rawInt 0, .none, .none] }).IsTupleIter s1.heap.objs.size a 0 := ⟨ob, Heap.get?_push_of_some _ (Heap.get?_push_size _ hfr), by rw [← hob], by rw [← hob]; rfl⟩
    refine ⟨⟨_, he, rfl⟩, wpAny_pyIter_enum he ?_⟩
    have I2 := I1.kept (t' := s1.toks) (h' := (s1.heap.push ob).push { cls := .type "enumerate", data := .fields #[.none, .bool false, .ref s1.heap.objs.size, rawInt 0, .none, .none] }) fun b o e => Heap.get?_push_of_some _ (Heap.get?_push_of_some _ e)
    have hal : a < s1.heap.objs.size := p'.lt
    refine ⟨s1.heap.objs.size + 1, [s1.heap.objs.size + 1, s1.heap.objs.size], _, _, H1, rfl, I2, turn_enT a (s1.heap.objs.size + 1) s1.heap.objs.size (Nat.ne_of_lt hal) (Nat.ne_of_lt (Nat.lt_succ_of_lt hal)), ⟨⟨.none, he⟩, hit, Nat.succ_ne_self _⟩, fun b hb => ?_, q⟩
    have hle : s1.heap.objs.size ≤ b := by
      rcases List.mem_cons.mp hb with z | z
      · rw [z]; exact Nat.le_add_right _ _
      · rw [List.mem_singleton.mp z]; exact Nat.le_refl _
    exact I1.fpOk hle (I1.hok.fresh hle)
end Y
namespace Y
open PySem PySem.Spec L2

/-! ### what is walked -/
/-- at turn i the i-th of xs is given -/
def Yd {α : Type} (K : Frag) (A : List Addr) (H1 : Hp) (c : α → D) (xs : List α) : Nat → Hp → V → Hp → Prop := fun i H x H' => Fr [] H H' ∧ ∃ a, xs[i]? = some a ∧ ∀ A', (∀ b ∈ A', b ∈ A ∨ H1 b = none) → Fr (A ++ A') H1 H → Tr A' H → Fz K A' H' x (c a)
section
variable {E α : Type}
def tIs (K : Frag) (B : Bd) (ow : List Nat) (Γ : E → List (Option D)) (p : Bool) (c : α → D) (G : E → Prop) (xs : E → List α) (u : E → E) : TI := fun σ H R =>
  ∃ H0 ε, Rel K B H0 ow σ H (Γ ε) ∧ G ε ∧ ∀ J H1, Fr (cond p [] (oa σ ow)) H H1 → Rel K B H0 ow σ H1 (Γ (u ε)) → Walk J (xs ε).length (Fr (B.full σ ow) H1) (Yd K (B.full σ ow) H1 c (xs ε)) → (xs ε).length ≤ szN → R J H1
structure DI (X : Cx) (B : Bd) (ow : List Nat) (Γ : E → List (Option D)) (p : Bool) (tg e : Expr) (c : α → D) (G : E → Prop) (xs : E → List α) (u : E → E) : Prop where
  pi : PI X tg e (tIs X.K B ow Γ p c G xs u)
end
theorem _root_.L2.PI.weaken {X : Cx} {tg e : Expr} {t t' : TI} (h : PI X tg e t) (w : ∀ σ H Q, t' σ H Q → t σ H Q) : PI X tg e t' := ⟨fun pins s σ H Q I q => h.run pins s σ H Q I (w σ H Q q)⟩
section
variable {X : Cx} {B : Bd} {ow : List Nat} {E α β : Type} {Γ : E → List (Option D)} {p : Bool} {tg e e2 : Expr} {pos px : Pos} {c : α → D} {cb : β → D} {G : E → Prop} {d : E → List α} {u : E → E}
theorem yfr {K : Frag} {A A' : List Addr} {H H1 : Hp} {v : V} {x : D} (z : Fz K A H1 v x) (s : ∀ b ∈ A', b ∈ A ∨ H1 b = none) (f : Fr (A ++ A') H1 H) : Fz K A' H v x :=
  ((z.any (A' := A ++ A') fun b hb => (List.mem_append.mp hb).elim .inl (s b)).fr f).sub fun b hb => List.mem_append_right _ hb
theorem yd_at {K : Frag} {A : List Addr} {H1 : Hp} {xs : List α} {vs : List V} (l : FzL K A H1 vs (xs.map c)) {i : Nat} {H H' : Hp} {x : V} (h : YAt vs i H x H') : Yd K A H1 c xs i H x H' := by
  obtain ⟨rfl, e⟩ := h
  refine ⟨Fr.refl _ _, ?_⟩
  obtain ⟨d, h1, z⟩ := l.get e
  rw [List.getElem?_map] at h1
  cases h2 : xs[i]? with
  | none => rw [h2] at h1; cases h1
  | some a =>
    rw [h2] at h1
    injection h1 with h1
    refine ⟨a, rfl, fun A' s f t => ?_⟩
    rw [h1]
    exact yfr z s f
theorem i_lst (h : De X B ow Γ p true e (cL c) G d u) : DI X B ow Γ p tg e c G d u :=
  ⟨(pi_list h.pe).weaken fun σ H R ⟨H0, ε, rl, g, k⟩ => ⟨H0, ε, rl, g, fun v H1 f r z => by
    obtain ⟨a, vs, rfl, n, l⟩ := z.lst_inv
    have hl : vs.length = (d ε).length := by simpa using l.length
    refine ⟨a, rfl, ⟨vs, n.sq⟩, ?_⟩
    rw [← hl] at k
    exact k _ H1 f r (walk_list.mono (fun H' f' => .inl (.inl (f' _ _ n.1.2 n.1.1))) fun i H x H' _ _ y => yd_at l y) n.2⟩⟩
theorem i_tup (h : De X B ow Γ p true e (cT c) G d u) : DI X B ow Γ p tg e c G d u :=
  ⟨(pi_tup h.pe).weaken fun σ H R ⟨H0, ε, rl, g, k⟩ => ⟨H0, ε, rl, g, fun v H1 f r z => by
    obtain ⟨a, vs, rfl, n, l⟩ := z.tup_inv
    have hl : vs.length = (d ε).length := by simpa using l.length
    refine ⟨a, rfl, ⟨vs, n.sq⟩, ?_⟩
    rw [← hl] at k
    exact k _ H1 f r (walk_tup.mono (fun H' f' => (n.fr f').sq) fun i H x H' _ _ y => yd_at l y) n.sz⟩⟩
/-- range -/
def rng (a b : Int) : List Int := (List.range (b - a).toNat).map fun (i : Nat) => a + (i : Int)
theorem rng_length (a b : Int) : (rng a b).length = (b - a).toNat := by unfold rng; simp
theorem rng_get (a b : Int) (i : Nat) (h : i < (b - a).toNat) : (rng a b)[i]? = some (a + (i : Int)) := by unfold rng; simp [h]
theorem yd_rng {K : Frag} {A : List Addr} {H1 : Hp} {a b : Int} {i : Nat} {H H' : Hp} {x : V} (hi : i < (b - a).toNat) (h : YFn (fun i => .int (a + (i : Nat))) i H x H') : Yd K A H1 cI (rng a b) i H x H' := by
  obtain ⟨rfl, e⟩ := h
  exact ⟨Fr.refl _ _, _, rng_get a b i hi, fun A' _ _ _ => by rw [e]; exact .int _⟩
def CRg (a b : Int) : Prop := -1000000000000000000 ≤ a ∧ a ≤ 1000000000000000000 ∧ -1000000000000000000 ≤ b ∧ b ≤ 1000000000000000000 ∧ b - a ≤ 16777216
theorem i_rng1 {dn : E → Int} (h : DA X B ow Γ p true [e] (ac cI an) G (fun ε => (dn ε, ())) u) (hm : X.mg "range" = none) (hg : Gl X "range" := by rfl) (hs : starEach [e] X.env = [(false, eval e X.env)] := by rfl) :
    DI X B ow Γ p tg (.Call (.Name "range" px) [e] [] pos) cI (fun ε => G ε ∧ CRg 0 (dn ε)) (fun ε => rng 0 (dn ε)) u :=
  ⟨(pi_range1 hg hm h.pa hs).weaken fun σ H R ⟨H0, ε, rl, ⟨g, hb⟩, k⟩ => ⟨H0, ε, rl, g, fun vs H1 f r z => by
    obtain ⟨v, rfl, z1⟩ := fzl1 (ds := []) z
    cases z1.int_inv
    obtain ⟨_, _, b1, b2, b3⟩ := hb
    refine ⟨dn ε, rfl, by omega, by omega, ?_⟩
    rw [rng_length] at k
    have e0 : (dn ε - 0).toNat = (dn ε).toNat := by congr 1; omega
    rw [e0] at k
    exact k _ H1 f r (walk_range.mono (fun _ _ => trivial) fun i H x H' hi _ y => yd_rng (by omega) y) (by show _ ≤ 16777216; omega)⟩⟩
theorem i_rng2 {da db : E → Int} (h : DA X B ow Γ p true [e, e2] (ac cI (ac cI an)) G (fun ε => (da ε, db ε, ())) u) (hm : X.mg "range" = none) (hg : Gl X "range" := by rfl) (hs : starEach [e, e2] X.env = [(false, eval e X.env), (false, eval e2 X.env)] := by rfl)
    (hs2 : starEach [e2] X.env = [(false, eval e2 X.env)] := by rfl) :
    DI X B ow Γ p tg (.Call (.Name "range" px) [e, e2] [] pos) cI (fun ε => G ε ∧ CRg (da ε) (db ε)) (fun ε => rng (da ε) (db ε)) u :=
  ⟨(pi_range2 hg hm h.pa hs hs2).weaken fun σ H R ⟨H0, ε, rl, ⟨g, hb⟩, k⟩ => ⟨H0, ε, rl, g, fun vs H1 f r z => by
    obtain ⟨v, w, rfl, z1, z2⟩ := fzl2 (ds := []) z
    cases z1.int_inv
    cases z2.int_inv
    obtain ⟨a1, a2, b1, b2, b3⟩ := hb
    refine ⟨da ε, db ε, rfl, ⟨by omega, by omega, by omega, by omega⟩, ?_⟩
    rw [rng_length] at k
    exact k _ H1 f r (walk_range.mono (fun _ _ => trivial) fun i H x H' hi _ y => yd_rng hi y) (by show _ ≤ 16777216; omega)⟩⟩
/-- enumerate, zip -/
def enum (xs : List α) : List (Int × α) := xs.zipIdx.map fun q => ((q.2 : Int), q.1)
theorem enum_length (xs : List α) : (enum xs).length = xs.length := by unfold enum; simp
theorem enum_get (xs : List α) (i : Nat) : (enum xs)[i]? = xs[i]?.map fun a => ((i : Int), a) := by
  unfold enum
  rw [List.getElem?_map, List.getElem?_zipIdx]
  cases xs[i]? <;> simp
theorem yd_pair {K : Frag} {A : List Addr} {H1 : Hp} {xs : List (α × β)} {i : Nat} {H H' : Hp} {x : V} {fa fb : Nat → Option V} (hf : Fr A H1 H) (h : YPair fa fb i H x H')
    (k : ∀ va vb, fa i = some va → fb i = some vb → ∃ a b, xs[i]? = some (a, b) ∧ Fz K A H1 va (c a) ∧ Fz K A H1 vb (cb b)) : Yd K A H1 (c2 c cb) xs i H x H' := by
  obtain ⟨T, va, vb, rfl, hT, rfl, e1, e2⟩ := h
  obtain ⟨a, b, e, z1, z2⟩ := k va vb e1 e2
  refine ⟨Fr.new hT, (a, b), e, fun A' s f t => ?_⟩
  exact .tup (.inl ⟨t.new hT, upd_same, by show 2 ≤ szN; decide⟩) (.cons ((yfr z1 s f).fr (Fr.new hT)) (.cons ((yfr z2 s f).fr (Fr.new hT)) .nil))
theorem i_enumL {elts : List Expr} {kk : Nat} {tpos : Pos} (h : De X B ow Γ p true e (cL c) G d u) (hm : X.mg "enumerate" = none) (hg : Gl X "enumerate" := by rfl) (hs : starEach [e] X.env = [(false, eval e X.env)] := by rfl)
    (hst : starEach (e :: []) X.env = (false, eval e X.env) :: starEach [] X.env := by rfl) :
    DI X B ow Γ p (.Tuple elts kk tpos) (.Call (.Name "enumerate" px) [e] [] pos) (c2 cI c) G (fun ε => enum (d ε)) u :=
  ⟨(pi_enum hg hm (pa_cons h.pe pa_nil hst) hs).weaken fun σ H R ⟨H0, ε, rl, g, k⟩ => ⟨H0, ε, rl, g, fun v H1 f r z => by
    obtain ⟨a, vs, rfl, n, l⟩ := z.lst_inv
    have hl : vs.length = (d ε).length := by simpa using l.length
    refine ⟨a, vs, rfl, n.sq, ?_⟩
    rw [enum_length, ← hl] at k
    refine k _ H1 f r (walk_enum.mono (fun H' f' => .inl (.inl (f' _ _ n.1.2 n.1.1))) fun i H x H' _ f' y => yd_pair f' y fun va vb e1 e2 => ?_) n.2
    injection e1 with e1
    obtain ⟨d', h1, z1⟩ := l.get e2
    rw [List.getElem?_map] at h1
    cases h2 : (d ε)[i]? with
    | none => rw [h2] at h1; cases h1
    | some a' =>
      rw [h2] at h1
      injection h1 with h1
      exact ⟨(i : Int), a', by rw [enum_get, h2]; rfl, by rw [← e1]; exact .int _, by rw [h1]; exact z1⟩⟩⟩
theorem walk_enT {K : Frag} {a : Addr} {xs : List V} : Walk (ItE K a) xs.length (fun H => SqT K H a xs) (YPair (fun i => some (.int (i : Nat))) (fun i => xs[i]?)) := by
  refine ⟨fun i _ hi q => ⟨xs, xs[i], q, by simp [hi]⟩, fun _ q => ⟨xs, q, Nat.le_refl _⟩, fun i H v H' _ q y => ?_⟩
  obtain ⟨T, x, h1, h2, h3, h4⟩ := y
  exact ⟨T, _, x, h1, h2, h3, rfl, h4 xs q⟩
theorem i_enumT {elts : List Expr} {kk : Nat} {tpos : Pos} (h : De X B ow Γ p true e (cT c) G d u) (hm : X.mg "enumerate" = none) (hg : Gl X "enumerate" := by rfl) (hs : starEach [e] X.env = [(false, eval e X.env)] := by rfl)
    (hst : starEach (e :: []) X.env = (false, eval e X.env) :: starEach [] X.env := by rfl) :
    DI X B ow Γ p (.Tuple elts kk tpos) (.Call (.Name "enumerate" px) [e] [] pos) (c2 cI c) G (fun ε => enum (d ε)) u :=
  ⟨(pi_enT hg hm (pa_cons h.pe pa_nil hst) hs).weaken fun σ H R ⟨H0, ε, rl, g, k⟩ => ⟨H0, ε, rl, g, fun v H1 f r z => by
    obtain ⟨a, vs, rfl, n, l⟩ := z.tup_inv
    have hl : vs.length = (d ε).length := by simpa using l.length
    refine ⟨a, vs, rfl, n.sq, ?_⟩
    rw [enum_length, ← hl] at k
    refine k _ H1 f r (walk_enT.mono (fun H' f' => (n.fr f').sq) fun i H x H' _ f' y => yd_pair f' y fun va vb e1 e2 => ?_) n.sz
    injection e1 with e1
    obtain ⟨d', h1, z1⟩ := l.get e2
    rw [List.getElem?_map] at h1
    cases h2 : (d ε)[i]? with
    | none => rw [h2] at h1; cases h1
    | some a' =>
      rw [h2] at h1
      injection h1 with h1
      exact ⟨(i : Int), a', by rw [enum_get, h2]; rfl, by rw [← e1]; exact .int _, by rw [h1]; exact z1⟩⟩⟩
end

theorem fzl3 {K : Frag} {A : List Addr} {H : Hp} {vs : List V} {d d' d'' : D} (h : FzL K A H vs [d, d', d'']) : ∃ v w u, vs = [v, w, u] ∧ Fz K A H v d ∧ Fz K A H w d' ∧ Fz K A H u d'' := by
  cases h with | cons a b => cases b with | cons a' b' => cases b' with | cons a'' b'' => cases b''; exact ⟨_, _, _, rfl, a, a', a''⟩
/-! ### targets -/
def wipeG (γ : List (Option D)) : List Nat → List (Option D)
  | [] => γ
  | v :: vs => (wipeG γ vs).set v none
/-- the target takes a value told by c, the slots are then told by Γt -/
def TgR (K : Frag) {α : Type} (c : α → D) (js : List Nat) (g : TG) (f : α → List (Option D) → List (Option D)) : Prop :=
  ∀ (B : Bd) (H0 : Hp) (ow : List Nat) (σ : L2.St) (H : Hp) (γ : List (Option D)) (v : V) (a : α) (Q : L2.St → Hp → Prop), (∀ j ∈ js, j ∉ ow) → Rel K B H0 ow σ H γ → Fz K (B.full σ ow) H v (c a) →
    (∀ σ', Rel K B H0 ow σ' H (f a γ) → (∀ i, i ∉ js → σ'[i]? = σ[i]?) → σ'.length = σ.length → Q σ' H) → g v σ H Q
section
variable {K : Frag} {α β γ' δ : Type}
theorem tg_name {c : α → D} (j : Nat) : TgR K c [j] (gName j) fun a γ => γ.set j (some (c a)) := fun B H0 ow σ H γ v a Q hj r z k =>
  k _ (r.set (hj j (by simp)) z) (fun i hi => by rw [List.getElem?_set_ne (fun e => hi (by simp [e]))]) (by simp)
theorem tg_pair {ca : α → D} {cb : β → D} (i j : Nat) : TgR K (c2 ca cb) [i, j] (gTup K 2 (gCons (gName i) (gCons (gName j) gNil))) fun q γ => (γ.set i (some (ca q.1))).set j (some (cb q.2)) := fun B H0 ow σ H γ v q Q hj r z k => by
  obtain ⟨a, xs, rfl, n, l⟩ := z.tup_inv
  obtain ⟨x, y, rfl, z1, z2⟩ := fzl2 (ds := []) l
  have r1 := r.set (hj i (by simp)) z1
  refine ⟨a, _, rfl, n.sq, rfl, x, _, rfl, y, [], rfl, rfl, k _ (r1.set (hj j (by simp)) ?_) (fun m hm => ?_) (by simp)⟩
  · unfold Bd.full
    rw [oa_set (hj i (by simp))]
    exact z2
  · have h1 : i ≠ m := fun e => hm (by simp [e])
    have h2 : j ≠ m := fun e => hm (by simp [e])
    rw [List.getElem?_set_ne h2, List.getElem?_set_ne h1]
theorem tg_three {ca : α → D} {cb : β → D} {cc : γ' → D} (i j l : Nat) : TgR K (c3 ca cb cc) [i, j, l] (gTup K 3 (gCons (gName i) (gCons (gName j) (gCons (gName l) gNil)))) fun q γ => ((γ.set i (some (ca q.1))).set j (some (cb q.2.1))).set l (some (cc q.2.2)) := fun B H0 ow σ H γ v q Q hj r z k => by
  obtain ⟨a, xs, rfl, n, lz⟩ := z.tup_inv
  obtain ⟨x, y, w, rfl, z1, z2, z3⟩ := fzl3 lz
  have r1 := r.set (hj i (by simp)) z1
  have e1 : ∀ u : Option V, oa (σ.set i u) ow = oa σ ow := fun u => oa_set (hj i (by simp))
  have r2 := r1.set (i := j) (v := y) (d := cb q.2.1) (hj j (by simp)) (by unfold Bd.full; rw [e1]; exact z2)
  have e2 : ∀ u w : Option V, oa ((σ.set i u).set j w) ow = oa σ ow := fun u w => by rw [oa_set (hj j (by simp)), e1]
  refine ⟨a, _, rfl, n.sq, rfl, x, _, rfl, y, _, rfl, w, [], rfl, rfl, k _ (r2.set (hj l (by simp)) ?_) (fun m hm => ?_) (by simp)⟩
  · unfold Bd.full
    rw [e2]
    exact z3
  · have h1 : i ≠ m := fun e => hm (by simp [e])
    have h2 : j ≠ m := fun e => hm (by simp [e])
    have h3 : l ≠ m := fun e => hm (by simp [e])
    rw [List.getElem?_set_ne h3, List.getElem?_set_ne h2, List.getElem?_set_ne h1]
end
end Y
namespace Y
open PySem PySem.Spec L2

/-! ### loops, as functions -/
section
variable {T α R S M : Type}
def forO (f : T × α → Out T R T) : T → List α → Out T R S
  | t, [] => .nx t
  | t, x :: xs => match f (t, x) with
    | .nx t' => forO f t' xs
    | .ct t' => forO f t' xs
    | .bk t' => .nx t'
    | .rt r => .rt r
def forG (g : T × α → Prop) (f : T × α → Out T R T) : T → List α → Prop
  | _, [] => True
  | t, x :: xs => g (t, x) ∧ match f (t, x) with
    | .nx t' => forG g f t' xs
    | .ct t' => forG g f t' xs
    | .bk _ => True
    | .rt _ => True
def whO (c : T → Bool) (f : T → Out T R T) : Nat → T → Out T R S
  | 0, t => .nx t
  | n + 1, t => if c t = true then (match f t with
    | .nx t' => whO c f n t'
    | .ct t' => whO c f n t'
    | .bk t' => .nx t'
    | .rt r => .rt r) else .nx t
def whG (gc : T → Prop) (c : T → Bool) (gb : T → Prop) (f : T → Out T R T) : Nat → T → Prop
  | 0, t => gc t ∧ c t = false
  | n + 1, t => gc t ∧ (c t = true → gb t ∧ match f t with
    | .nx t' => whG gc c gb f n t'
    | .ct t' => whG gc c gb f n t'
    | .bk _ => True
    | .rt _ => True)
theorem forO_nx {f : T × α → T} : ∀ (xs : List α) (t : T), forO (S := S) (R := R) (fun q => .nx (f q)) t xs = .nx (xs.foldl (fun t x => f (t, x)) t)
  | [], _ => rfl
  | x :: xs, t => by
    show forO (fun q => .nx (f q)) (f (t, x)) xs = _
    rw [forO_nx xs]; rfl
end

/-- the heap without some addresses -/
def hid (A : List Addr) (H : Hp) : Hp := fun b => if b ∈ A then none else H b
theorem hid_some {A : List Addr} {H : Hp} {b : Addr} {o : HO} (h : hid A H b = some o) : b ∉ A ∧ H b = some o := by
  unfold hid at h
  by_cases e : b ∈ A
  · rw [if_pos e] at h; cases h
  · rw [if_neg e] at h; exact ⟨e, h⟩
theorem hid_of {A : List Addr} {H : Hp} {b : Addr} (h : b ∉ A) : hid A H b = H b := if_neg h
theorem hid_none {A : List Addr} {H : Hp} {b : Addr} (h : hid A H b = none) : b ∈ A ∨ H b = none := by
  by_cases e : b ∈ A
  · exact .inl e
  · rw [hid_of e] at h; exact .inr h
section
variable {K : Frag} {B : Bd} {H0 H1 H : Hp} {ow ow' : List Nat} {σ σ' : L2.St} {γ γ' : List (Option D)}
theorem Rel.ioa (r : Rel K B H0 ow σ H γ) : ∀ a ∈ B.io.toList, a ∈ oa σ ow := fun a h => by
  cases hb : B.io with
  | none => rw [hb] at h; simp at h
  | some p =>
    rw [hb] at h
    have e : a = p := by simpa using h
    obtain ⟨h1, h2⟩ := r.io p hb
    rw [e]
    exact mem_oa.mpr ⟨0, h1, h2⟩
/-- from here on -/
theorem Rel.rest (r : Rel K B H0 ow σ H γ) : Rel K B (hid (oa σ ow) H) ow σ H γ :=
  ⟨r.len, r.one, r.fz, r.own, r.trk, fun b o e n => (hid_some e).2, fun a h => .inl (if_pos h), fun a h => by
    have h1 := r.apart a
    have h2 : a ∉ oa σ ow := fun z => h1 z (List.mem_append_left _ h)
    exact ⟨by rw [hid_of h2]; exact r.base_trk a (List.mem_append_left _ h), (r.a0 a h).2⟩, r.xt, r.io⟩
theorem hid_fr (r : Rel K B H0 ow σ H1 γ) {b : Addr} {o : HO} (e : H0 b = some o) (n : b ∉ B.io.toList) : hid (oa σ ow) H1 b = some o := by
  rw [hid_of]
  · exact r.fr b o e n
  · intro z
    rcases r.new b z with h | h
    · rw [h] at e; cases e
    · exact n h
theorem Rel.rebase (r : Rel K B H0 ow σ H1 γ) (r' : Rel K B (hid (oa σ ow) H1) ow' σ' H γ') : Rel K B H0 ow' σ' H γ' :=
  ⟨r'.len, r'.one, r'.fz, r'.own, r'.trk, fun b o e n => r'.fr b o (hid_fr r e n) n, fun a h => by
    by_cases n : a ∈ B.io.toList
    · exact .inr n
    · left
      cases e : H0 a with
      | none => rfl
      | some o =>
        rcases r'.new a h with z | z
        · rw [hid_fr r e n] at z; cases z
        · exact absurd z n, r.a0, r'.xt, r'.io⟩
theorem EX.rebase {R : Type} {cr : R → D} {ci : R → List D} {q : R} {v : V} (r : Rel K B H0 ow σ H1 γ) (h : EX K B cr ci (hid (oa σ ow) H1) q v H) : EX K B cr ci H0 q v H := ⟨fun b o e n => h.1 b o (hid_fr r e n) n, h.2⟩
theorem Rel.since (r : Rel K B H0 ow σ H1 γ) (r' : Rel K B (hid (oa σ ow) H1) ow' σ' H γ') : Fr (B.full σ ow) H1 H := fun b o e n => by
  have n1 : b ∉ oa σ ow := fun z => n (mem_full.mpr (.inr z))
  exact r'.fr b o (by rw [hid_of n1]; exact e) fun z => n1 (r.ioa b z)
theorem Rel.newer (r : Rel K B H0 ow σ H1 γ) (r' : Rel K B (hid (oa σ ow) H1) ow' σ' H γ') : ∀ b ∈ B.full σ' ow', b ∈ B.full σ ow ∨ H1 b = none := fun b hb => by
  rcases mem_full.mp hb with h | h
  · exact .inl (mem_full.mpr (.inl h))
  · rcases r'.new b h with z | z
    · rcases hid_none z with z | z
      · exact .inl (mem_full.mpr (.inr z))
      · exact .inr z
    · exact .inl (mem_full.mpr (.inr (r.ioa b z)))
end
section
variable {X : Cx} {B : Bd} {ow owS : List Nat} {E L R S α : Type} {Γ : E → List (Option D)} {ΓL : L → List (Option D)} {ΓS : S → List (Option D)} {cr : R → D} {ci : R → List D} {body : List Stmt} {pos : Pos} {tg e : Expr} {p : Bool} {c : α → D} {G : E → Prop} {u : E → E}
  {xs : E → List α} {js : List Nat} {g : TG} {ft : α → List (Option D) → List (Option D)} {gb : L × α → Prop} {db : L × α → Out L R L}
theorem s_for (l0 : E → L) (hi : DI X B ow Γ p tg e c G xs u) (hc0 : ∀ (H0 : Hp) ε σ H, Rel X.K B H0 ow σ H (Γ ε) → Rel X.K B H0 ow σ H (ΓL (l0 ε))) (hg : PG X tg g) (ht : TgR X.K c js g ft) (hjs : ∀ j ∈ js, j ∉ ow)
    (hb : Dss X B ow (fun q : L × α => ft q.2 (ΓL q.1)) cr ci ow ΓL body gb db ow ΓL) (hp : PassesOwn (model X.prog X.w) X.A X.env X.xe) (hcalm : X.calm = true := by rfl) (hs : ∀ x, foldedSetIterable e X.env x = pure x := by intro _; rfl) :
    Ds X B ow Γ cr ci owS ΓS (.For tg e body [] pos) (fun ε => G ε ∧ forG gb db (l0 (u ε)) (xs ε)) (fun ε => forO db (l0 (u ε)) (xs ε)) ow ΓL :=
  ⟨(ps_for hp hcalm hi.pi hg hb.pss hs).weaken fun Dn σ H ⟨H0, ε, rl, ⟨g1, g2⟩, k⟩ => ⟨H0, ε, rl, g1, fun J H1 f1 r1 w hsz => by
    refine for_it w (fun i σ' H' => ∃ t, Rel X.K B (hid (oa σ ow) H1) ow σ' H' (ΓL t) ∧ forG gb db t ((xs ε).drop i) ∧ forO (S := S) db t ((xs ε).drop i) = forO db (l0 (u ε)) (xs ε)) ⟨l0 (u ε), hc0 _ _ _ _ r1.rest, g2, rfl⟩ ?_ ?_ ?_
    · rintro i σ' H' _ ⟨t, r', _, _⟩
      exact r1.since r'
    · rintro i x σ' H' H2 hlt ⟨t, r', hg', ho'⟩ ⟨fy, a, ea, hz⟩
      have hz' := hz (B.full σ' ow) (r1.newer r') ((r1.since r').mono fun b hb => List.mem_append_left _ hb) r'.tracked
      have hd : (xs ε).drop i = a :: (xs ε).drop (i + 1) := by
        obtain ⟨hl, e⟩ := List.getElem?_eq_some_iff.mp ea
        rw [List.drop_eq_getElem_cons hl, e]
      rw [hd] at hg' ho'
      refine ht B _ ow σ' H2 _ x a _ hjs (r'.grow fy) hz' fun σ2 r2 _ _ => ⟨_, (t, a), r2, hg'.1, ?_⟩
      have hg2 := hg'.2
      cases hdb : db (t, a) with
      | nx t' =>
        rw [hdb] at hg2
        have ho2 : forO (S := S) db t' ((xs ε).drop (i + 1)) = forO db (l0 (u ε)) (xs ε) := by rw [← ho', forO, hdb]
        exact fun σ3 H3 r3 => ⟨t', r3, hg2, ho2⟩
      | ct t' =>
        rw [hdb] at hg2
        have ho2 : forO (S := S) db t' ((xs ε).drop (i + 1)) = forO db (l0 (u ε)) (xs ε) := by rw [← ho', forO, hdb]
        exact fun σ3 H3 r3 => ⟨t', r3, hg2, ho2⟩
      | bk t' =>
        have ho2 : (Out.nx t' : Out L R S) = forO db (l0 (u ε)) (xs ε) := by rw [← ho', forO, hdb]
        have k' := k
        simp only [← ho2] at k'
        exact fun σ3 H3 r3 => k' σ3 H3 (r1.rebase r3)
      | rt q =>
        have ho2 : (Out.rt q : Out L R S) = forO db (l0 (u ε)) (xs ε) := by rw [← ho', forO, hdb]
        have k' := k
        simp only [← ho2] at k'
        exact fun v H3 ex => k' v H3 (EX.rebase r1 ex)
    · rintro σ' H' ⟨t, r', _, ho'⟩
      rw [List.drop_length] at ho'
      have ho2 : (Out.nx t : Out L R S) = forO db (l0 (u ε)) (xs ε) := ho'
      have k' := k
      simp only [← ho2] at k'
      exact k' σ' H' (r1.rebase r')⟩⟩

variable {tst : L → Bool} {gt gw : L → Prop} {dw : L → Out L R L}
theorem s_while (fuel : L → Nat) (ht : Dt X B ow ΓL p e gt tst (fun ε => ε)) (hb : Dss X B ow ΓL cr ci ow ΓL body gw dw ow ΓL) (hp : PassesOwn (model X.prog X.w) X.A X.env X.xe) :
    Ds X B ow ΓL cr ci owS ΓS (.While e body [] pos) (fun t => whG gt tst gw dw (fuel t) t) (fun t => whO tst dw (fuel t) t) ow ΓL :=
  ⟨(ps_while hp ht.pt hb.pss).weaken fun Dn σ H ⟨H0, t0, rl, g0, k⟩ => by
    refine ⟨fun m σ' H' => ∃ n t, m = n ∧ Rel X.K B H0 ow σ' H' (ΓL t) ∧ whG gt tst gw dw n t ∧ whO (S := S) tst dw n t = whO tst dw (fuel t0) t0, ⟨fuel t0, fuel t0, t0, rfl, rl, g0, rfl⟩, ?_⟩
    rintro m σ' H' ⟨n, t, rfl, r, hg, ho⟩
    have hgt : gt t := by cases m with | zero => exact hg.1 | succ m => exact hg.1
    refine ⟨H0, t, r, hgt, fun H2 f2 r2 => ?_⟩
    cases ht : tst t with
    | false =>
      rw [if_neg Bool.false_ne_true]
      have ho2 : (Out.nx t : Out L R S) = whO tst dw (fuel t0) t0 := by
        rw [← ho]
        cases m with
        | zero => rfl
        | succ m => rw [whO, ht, if_neg Bool.false_ne_true]
      have k' := k
      simp only [← ho2] at k'
      exact k' σ' H2 r2
    | true =>
      rw [if_pos rfl]
      cases m with
      | zero => rw [hg.2] at ht; cases ht
      | succ m =>
        obtain ⟨hgw, hg2⟩ := hg.2 ht
        rw [whO, ht, if_pos rfl] at ho
        refine ⟨fun σ3 H3 => ∃ t', Rel X.K B H0 ow σ3 H3 (ΓL t') ∧ whG gt tst gw dw m t' ∧ whO (S := S) tst dw m t' = whO tst dw (fuel t0) t0, fun σ3 H3 ⟨t', a, b, c⟩ => ⟨m, Nat.lt_succ_self _, m, t', rfl, a, b, c⟩, H0, t, r2, hgw, ?_⟩
        cases hd : dw t with
        | nx t' => rw [hd] at hg2 ho; exact fun σ3 H3 r3 => ⟨t', r3, hg2, ho⟩
        | ct t' => rw [hd] at hg2 ho; exact fun σ3 H3 r3 => ⟨t', r3, hg2, ho⟩
        | bk t' =>
          rw [hd] at ho
          have k' := k
          have ho2 : (Out.nx t' : Out L R S) = whO tst dw (fuel t0) t0 := ho
          simp only [← ho2] at k'
          exact fun σ3 H3 r3 => k' σ3 H3 r3
        | rt q =>
          rw [hd] at ho
          have k' := k
          have ho2 : (Out.rt q : Out L R S) = whO tst dw (fuel t0) t0 := ho
          simp only [← ho2] at k'
          exact fun v H3 ex => k' v H3 ex⟩
theorem s_break {f : E → S} (hc : ∀ (H0 : Hp) ε σ H, Rel X.K B H0 ow σ H (Γ ε) → Rel X.K B H0 owS σ H (ΓS (f ε))) {ow' : List Nat} {N : Type} {Γ' : N → List (Option D)} : Ds X B ow Γ cr ci owS ΓS (.Break pos) (fun _ => True) (fun ε => .bk (f ε)) ow' Γ' :=
  ⟨ps_break.weaken fun Dn σ H ⟨H0, ε, rl, _, k⟩ => k σ H (hc _ _ _ _ rl)⟩
theorem s_cont {f : E → S} (hc : ∀ (H0 : Hp) ε σ H, Rel X.K B H0 ow σ H (Γ ε) → Rel X.K B H0 owS σ H (ΓS (f ε))) {ow' : List Nat} {N : Type} {Γ' : N → List (Option D)} : Ds X B ow Γ cr ci owS ΓS (.Continue pos) (fun _ => True) (fun ε => .ct (f ε)) ow' Γ' :=
  ⟨ps_continue.weaken fun Dn σ H ⟨H0, ε, rl, _, k⟩ => k σ H (hc _ _ _ _ rl)⟩
end
end Y
namespace Y
open PySem PySem.Spec L2

/-! ### comprehensions -/
section
variable {K : Frag} {B : Bd} {H0 H : Hp} {ow : List Nat} {σ σ' : L2.St} {γ : List (Option D)}
theorem oa_congr (h : ∀ i ∈ ow, σ'[i]? = σ[i]?) : oa σ' ow = oa σ ow := by
  unfold oa
  induction ow with
  | nil => rfl
  | cons j l ih =>
    rw [List.filterMap_cons, List.filterMap_cons, h j List.mem_cons_self, ih fun i hi => h i (List.mem_cons_of_mem _ hi)]
theorem wipe_in {σ : L2.St} {i : Nat} : ∀ {vs : List Nat}, i ∈ vs → i < σ.length → (wipe σ vs)[i]? = some none
  | v :: vs, h, hl => by
    unfold wipe
    by_cases e : v = i
    · subst e
      rw [List.getElem?_set_self (by rw [wipe_length]; exact hl)]
    · rw [List.getElem?_set_ne e]
      exact wipe_in ((List.mem_cons.mp h).resolve_left fun z => e z.symm) hl
theorem wipe_eq {vs js : List Nat} (hl : σ'.length = σ.length) (hj : ∀ j ∈ js, j ∈ vs) (h : ∀ i, i ∉ js → σ'[i]? = (wipe σ vs)[i]?) : wipe σ' vs = wipe σ vs := by
  apply List.ext_getElem?
  intro i
  by_cases hi : i ∈ vs
  · by_cases hlt : i < σ.length
    · rw [wipe_in hi hlt, wipe_in hi (by rw [hl]; exact hlt)]
    · rw [List.getElem?_eq_none (by rw [wipe_length]; omega), List.getElem?_eq_none (by rw [wipe_length]; omega)]
  · rw [wipe_out hi, h i fun z => hi (hj i z)]
theorem wipeG_length (γ : List (Option D)) : ∀ vs : List Nat, (wipeG γ vs).length = γ.length
  | [] => rfl
  | v :: vs => by unfold wipeG; rw [List.length_set, wipeG_length γ vs]
theorem wipeG_some {i : Nat} {d : D} : ∀ {vs : List Nat}, (wipeG γ vs)[i]? = some (some d) → γ[i]? = some (some d) ∧ i ∉ vs
  | [], h => ⟨h, by simp⟩
  | v :: vs, h => by
    unfold wipeG at h
    rcases set_inv h with ⟨_, e, _⟩ | ⟨ne, e⟩
    · cases e
    · obtain ⟨a, b⟩ := wipeG_some e
      exact ⟨a, fun z => (List.mem_cons.mp z).elim (fun q => ne q.symm) b⟩
theorem Rel.wipe {vs : List Nat} (r : Rel K B H0 ow σ H γ) (hv : ∀ i ∈ vs, i ∉ ow) : Rel K B H0 ow (L2.wipe σ vs) H (wipeG γ vs) := by
  have hs : ∀ i ∈ ow, (L2.wipe σ vs)[i]? = σ[i]? := fun i hi => wipe_out fun z => hv i z hi
  have eo : oa (L2.wipe σ vs) ow = oa σ ow := oa_congr hs
  have ef : B.full (L2.wipe σ vs) ow = B.full σ ow := by unfold Bd.full; rw [eo]
  refine ⟨by rw [wipe_length, wipeG_length]; exact r.len, fun i j a hi hj e1 e2 => r.one i j a hi hj (by rw [← hs i hi]; exact e1) (by rw [← hs j hj]; exact e2), fun i d hi e => ?_, fun i d hi e => ?_, by rw [eo]; exact r.trk, r.fr, by rw [eo]; exact r.new, r.a0, by rw [eo]; exact r.xt, fun p hp => ?_⟩
  · obtain ⟨e1, n⟩ := wipeG_some e
    obtain ⟨v, e2, z⟩ := r.fz i d hi e1
    exact ⟨v, by rw [wipe_out n]; exact e2, by rw [ef]; exact z⟩
  · obtain ⟨e1, n⟩ := wipeG_some e
    obtain ⟨a, ws, ds, h1, h2, h3, h4⟩ := r.own i d hi e1
    exact ⟨a, ws, ds, by rw [hs i hi]; exact h1, h2, h3, by rw [ef]; exact h4⟩
  · obtain ⟨h1, h2⟩ := r.io p hp
    exact ⟨h1, by rw [hs 0 h1]; exact h2⟩
end
theorem made_succ {α β : Type} {xs : List α} {i : Nat} {a : α} (t : α → Bool) (f : α → β) (h : xs[i]? = some a) : ((xs.take (i + 1)).filter t).map f = ((xs.take i).filter t).map f ++ (if t a = true then [f a] else []) := by
  rw [List.take_add_one, h, List.filter_append, List.map_append]
  congr 1
  cases ht : t a <;> simp [ht]
def tTB {E : Type} (K : Frag) (ow : List Nat) (Γ : E → List (Option D)) (G : E → Prop) (d : E → Bool) : TT := fun σ H Q => ∃ B', tTs K B' ow Γ true G d (fun q => q) σ H Q
def tSB {E β : Type} (K : Frag) (ow : List Nat) (Γ : E → List (Option D)) (ce : β → D) (G : E → Prop) (d : E → β) : TE := fun σ H Q => ∃ B', tS K B' ow Γ true true ce G d (fun q => q) σ H Q
section
variable {X : Cx} {B : Bd} {ow owS : List Nat} {E R S α β : Type} {Γ : E → List (Option D)} {ΓS : S → List (Option D)} {cr : R → D} {ci : R → List D} {pos spos py : Pos} {tg e elt : Expr} {ifs : List Expr} {c : α → D} {ce : β → D} {G : E → Prop}
  {xs : E → List α} {js vs : List Nat} {g : TG} {ft : α → List (Option D) → List (Option D)} {tt : E × α → Bool} {Gt Ge : E × α → Prop} {de : E × α → β} {own : List (Str × Nat)} {scope : Scope} {pe : Bool} {y : Str}
/-- the reading of a pure comprehension -/
theorem lc_pure (ht : TgR X.K c js g ft) (hjv : ∀ j ∈ js, j ∈ vs) (hvo : ∀ j ∈ vs, j ∉ ow) {σ : L2.St} {H : Hp} {Q : VK}
    (h : tFs X.K B ow Γ true ce (fun ε => G ε ∧ ∀ x ∈ xs ε, Gt (ε, x) ∧ (tt (ε, x) = true → Ge (ε, x))) (fun ε => ((xs ε).filter fun x => tt (ε, x)).map fun x => de (ε, x)) (fun ε => ε) σ H Q) :
    tLc (tIs X.K B ow Γ true c G xs (fun ε => ε)) g (tTB X.K ow (fun q : E × α => ft q.2 (wipeG (Γ q.1) vs)) Gt tt) (tSB X.K ow (fun q : E × α => ft q.2 (wipeG (Γ q.1) vs)) ce Ge de) vs σ H Q := by
  obtain ⟨H0, ε, rl, ⟨g1, g2⟩, k⟩ := h
  refine ⟨H0, ε, rl, g1, fun J H1 f1 r1 w hsz Dl hD => ?_⟩
  have f1' : Fr [] H H1 := f1
  have h0 : H0 Dl = none := (r1.h0 hD).resolve_right (r1.notio hD)
  refine lc_it w (g := g) (tt := tTB X.K ow (fun q : E × α => ft q.2 (wipeG (Γ q.1) vs)) Gt tt) (te := tSB X.K ow (fun q : E × α => ft q.2 (wipeG (Γ q.1) vs)) ce Ge de) (vs := vs) (σ := σ) (Qd := fun H => Q (.ref Dl) H) (fun i H' => Rel X.K (B.plus Dl) H0 ow σ H' (Γ ε) ∧ Fr [] H1 H' ∧ ∃ ws, H' Dl = some (.lst ws) ∧ FzL X.K ((B.plus Dl).full σ ow) H' ws (((((xs ε).take i).filter fun x => tt (ε, x)).map fun x => de (ε, x)).map ce))
    ⟨r1.plus hD, Fr.new hD, [], upd_same, by simpa using FzL.nil⟩ (fun i H' _ p => p.2.1.nil) ?_ ?_
  · rintro i x H' H2 hlt ⟨r', f', ws, hw, hz⟩ ⟨fy, a, ea, hy⟩
    have hmem : a ∈ xs ε := List.mem_of_getElem? ea
    have hA : ∀ b ∈ (B.plus Dl).full σ ow, b ∈ B.full σ ow ∨ H1 b = none := fun b hb => by
      simp only [Bd.full, Bd.base, Bd.plus, List.mem_append, List.mem_cons] at hb ⊢
      rcases hb with (h | h | h) | h
      · exact .inl (.inl (.inl h))
      · rw [h]; exact .inr hD
      · exact .inl (.inl (.inr h))
      · exact .inl (.inr h)
    have zx := hy _ hA (Fr.nil f') r'.tracked
    have r2 := r'.grow fy
    have ew : oa (wipe σ vs) ow = oa σ ow := oa_congr fun i hi => wipe_out fun z => hvo i z hi
    have ef : (B.plus Dl).full (wipe σ vs) ow = (B.plus Dl).full σ ow := by unfold Bd.full; rw [ew]
    refine ht (B.plus Dl) H0 ow (wipe σ vs) H2 (wipeG (Γ ε) vs) x a _ (fun j hj => hvo j (hjv j hj)) (r2.wipe hvo) (by rw [ef]; exact zx) fun σ2 r3 hs2 hl2 => ?_
    refine ⟨wipe_eq (by rw [hl2, wipe_length]) hjv hs2, B.plus Dl, H0, (ε, a), r3, (g2 a hmem).1, fun H3 f3 r4 => ?_⟩
    have f3' : Fr [] H2 H3 := f3
    have fall : Fr [] H' H3 := fy.trans f3'
    have eo2 : oa σ2 ow = oa σ ow := (oa_congr fun i hi => hs2 i fun z => hvo i (hjv i z) hi).trans ew
    have hlen : ws.length ≤ i := by
      have h1 := hz.length
      have h2 := List.length_filter_le (fun x => tt (ε, x)) ((xs ε).take i)
      have h3 : ((xs ε).take i).length ≤ i := by rw [List.length_take]; exact Nat.min_le_left _ _
      simp only [List.length_map] at h1
      omega
    show (if tt (ε, a) = true then _ else _)
    cases hb : tt (ε, a) with
    | false =>
      rw [if_neg Bool.false_ne_true]
      refine ⟨r'.grow fall, f'.trans fall, ws, fall _ _ hw (by simp), ?_⟩
      rw [made_succ _ _ ea, hb, if_neg Bool.false_ne_true, List.append_nil]
      exact hz.fr fall.nil
    | true =>
      rw [if_pos rfl]
      refine ⟨B.plus Dl, H0, (ε, a), r4, (g2 a hmem).2 hb, fun v H4 f4 r5 z5 => ⟨ws, ?_, ?_, ?_⟩⟩
      · have f4' : Fr [] H3 H4 := f4
        exact (fall.trans f4') _ _ hw (by simp)
      · rw [sizeLine_eq]
        have : (xs ε).length ≤ 16777216 := hsz
        omega
      · have f4' : Fr [] H3 H4 := f4
        have fa : Fr [] H' H4 := fall.trans f4'
        have hDx : Dl ∈ (B.plus Dl).ex := by simp [Bd.plus]
        have hDf : Dl ∈ (B.plus Dl).full σ ow := List.mem_append_left _ (List.mem_append_right _ hDx)
        refine ⟨(r'.grow fa).writeEx hDx (r1.notio hD) h0, fun b o eb nb => ?_, ws ++ [v], upd_same, ?_⟩
        · have hbD : b ≠ Dl := fun z => by rw [z, hD] at eb; cases eb
          rw [upd_ne hbD]
          exact (f'.trans fa) b o eb nb
        · rw [made_succ _ _ ea, hb, if_pos rfl, List.map_append]
          have z5' : Fz X.K ((B.plus Dl).full σ ow) H4 v (ce (de (ε, a))) := by
            have z6 : Fz X.K ((B.plus Dl).full σ2 ow) H4 v (ce (de (ε, a))) := z5
            unfold Bd.full at z6 ⊢
            rw [eo2] at z6
            exact z6
          exact ((hz.fr fa.nil).fr (Fr.at hDf)).append (.cons (z5'.fr (Fr.at hDf)) .nil)
  · rintro H' ⟨r', f', ws, hw, hz⟩
    rw [List.take_length] at hz
    refine k Dl H' ws (f1'.back hD) (f1'.trans f') r' hw ?_ hz
    have h1 := hz.length
    have h2 := List.length_filter_le (fun x => tt (ε, x)) (xs ε)
    simp only [List.length_map] at h1
    have : (xs ε).length ≤ 16777216 := hsz
    show ws.length ≤ 16777216
    omega
/-- a clause's tests -/
structure DT (X : Cx) (ow : List Nat) {E : Type} (Γ : E → List (Option D)) (ifs : List Expr) (G : E → Prop) (d : E → Bool) : Prop where
  pts : PTs X ifs (tTB X.K ow Γ G d)
theorem dt_nil {E : Type} {Γ : E → List (Option D)} : DT X ow Γ [] (fun _ => True) (fun _ => true) := ⟨⟨fun pins s σ H Q I ⟨B', H0, ε, r, _, k⟩ => pts_nil.run pins s σ H Q I (k H (Fr.refl _ _) r)⟩⟩
theorem dt_one {E : Type} {Γ : E → List (Option D)} {c : Expr} {G : E → Prop} {d : E → Bool} (h : ∀ B', Dt X B' ow Γ true c G d (fun q => q)) : DT X ow Γ [c] G d :=
  ⟨pts_one ⟨fun pins s σ H Q I ⟨B', q⟩ => (h B').pt.run pins s σ H Q I q⟩⟩
theorem d_lc (hi : DI X B ow Γ true tg e c G xs (fun ε => ε)) (ok : BlkOk X.N X.env.scope scope own) (ht : TgR X.K c js g ft) (hg : ∀ (s : Shared) (H : Hp) (C : Addr) (cl : List (Str × Addr)) (fp : List Addr), PG (X.blk s H scope (compEnvC scope cl C X.env) fp) tg g)
    (hT : ∀ (s : Shared) (H : Hp) (C : Addr) (cl : List (Str × Addr)) (fp : List Addr), DT (X.blk s H scope (compEnvC scope cl C X.env) fp) ow (fun q : E × α => ft q.2 (wipeG (Γ q.1) (own.map (·.2)))) ifs Gt tt)
    (hE : ∀ (s : Shared) (H : Hp) (C : Addr) (cl : List (Str × Addr)) (fp : List Addr) (B' : Bd), De (X.blk s H scope (compEnvC scope cl C X.env) fp) B' ow (fun q : E × α => ft q.2 (wipeG (Γ q.1) (own.map (·.2)))) true true elt ce Ge de (fun q => q))
    (hjv : ∀ j ∈ js, j ∈ own.map (·.2) := by decide) (hvo : ∀ j ∈ own.map (·.2), j ∉ ow := by decide) (hN : X.N.Nodup := by assumption) (hc : X.calm = true := by rfl) (hs : ∀ x, foldedSetIterable e X.env x = pure x := by intro _; rfl) :
    DL X B ow Γ true (.ListComp elt [⟨tg, e, ifs, 0⟩] scope pos) ce (fun ε => G ε ∧ ∀ x ∈ xs ε, Gt (ε, x) ∧ (tt (ε, x) = true → Ge (ε, x))) (fun ε => ((xs ε).filter fun x => tt (ε, x)).map fun x => de (ε, x)) (fun ε => ε) :=
  ⟨(pe_lc hc hN hi.pi ok hg (fun s H C cl fp => (hT s H C cl fp).pts) (fun s H C cl fp => ⟨fun pins s' σ H' Q I ⟨B', q⟩ => (hE s H C cl fp B').pe.run pins s' σ H' Q I q⟩) hs).weaken fun σ H Q h => lc_pure ht hjv hvo h⟩
/-- name = [..] on one line: a frozen list | one of one's own -/
theorem s_asgLc (i : Nat) (hsw : swapsWith (.ListComp elt [⟨tg, e, ifs, 0⟩] scope pos) (some (.Name y py)) spos.line X.env = pure true) (hi : DI X B ow Γ true tg e c G xs (fun ε => ε)) (ok : BlkOk X.N X.env.scope scope own) (ht : TgR X.K c js g ft)
    (hg : ∀ (s : Shared) (H : Hp) (C : Addr) (cl : List (Str × Addr)) (fp : List Addr), PG (X.blk s H scope (compEnvC scope cl C X.env) fp) tg g)
    (hT : ∀ (s : Shared) (H : Hp) (C : Addr) (cl : List (Str × Addr)) (fp : List Addr), DT (X.blk s H scope (compEnvC scope cl C X.env) fp) ow (fun q : E × α => ft q.2 (wipeG (Γ q.1) (own.map (·.2)))) ifs Gt tt)
    (hE : ∀ (s : Shared) (H : Hp) (C : Addr) (cl : List (Str × Addr)) (fp : List Addr) (B' : Bd), De (X.blk s H scope (compEnvC scope cl C X.env) fp) B' ow (fun q : E × α => ft q.2 (wipeG (Γ q.1) (own.map (·.2)))) true true elt ce Ge de (fun q => q))
    (hio : i ∉ ow := by decide) (hjv : ∀ j ∈ js, j ∈ own.map (·.2) := by decide) (hvo : ∀ j ∈ own.map (·.2), j ∉ ow := by decide) (hy : X.N[i]? = some y := by rfl) (hyl : X.env.scope.names.lookup y = some .local := by rfl)
    (hN : X.N.Nodup := by assumption) (hc : X.calm = true := by rfl) (hs : ∀ x, foldedSetIterable e X.env x = pure x := by intro _; rfl) :
    Ds X B ow Γ cr ci owS ΓS (.Assign [.Name y py] (.ListComp elt [⟨tg, e, ifs, 0⟩] scope pos) spos) (fun ε => G ε ∧ ∀ x ∈ xs ε, Gt (ε, x) ∧ (tt (ε, x) = true → Ge (ε, x))) (fun ε => .nx (ε, ((xs ε).filter fun x => tt (ε, x)).map fun x => de (ε, x))) ow
      (fun q : E × List β => (Γ q.1).set i (some (cL ce q.2))) :=
  ⟨(ps_setLc (te := tSB X.K ow (fun q : E × α => ft q.2 (wipeG (Γ q.1) (own.map (·.2)))) ce Ge de) hc hN hy hyl hsw hi.pi ok hg (fun s H C cl fp => (hT s H C cl fp).pts) (fun s H C cl fp => ⟨fun pins s' σ H' Q I ⟨B', q⟩ => (hE s H C cl fp B').pe.run pins s' σ H' Q I q⟩) hs).weaken fun Dn σ H ⟨H0, ε, rl, g, k⟩ => by
    refine lc_pure (Q := fun x H1 => Dn.nx (σ.set i (some x)) H1) ht hjv hvo ⟨H0, ε, rl, g, fun q H' vs hq f r hv hz z => ?_⟩
    have z2 : Fz X.K (B.full σ ow) H' (.ref q) (cL ce (((xs ε).filter fun x => tt (ε, x)).map fun x => de (ε, x))) := by
      refine .lst ⟨⟨fun h => ?_, hv⟩, hz⟩ (z.sub full_plus)
      rcases mem_full.mp h with h | h
      · exact rl.base_trk q h hq
      · exact (r.xt q (by simp [Bd.plus])).2 h
    exact k _ H' (r.unplus.set hio z2)⟩
theorem s_ownLc (i : Nat) (hsw : swapsWith (.ListComp elt [⟨tg, e, ifs, 0⟩] scope pos) (some (.Name y py)) spos.line X.env = pure true) (hi : DI X B ow Γ true tg e c G xs (fun ε => ε)) (ok : BlkOk X.N X.env.scope scope own) (ht : TgR X.K c js g ft)
    (hg : ∀ (s : Shared) (H : Hp) (C : Addr) (cl : List (Str × Addr)) (fp : List Addr), PG (X.blk s H scope (compEnvC scope cl C X.env) fp) tg g)
    (hT : ∀ (s : Shared) (H : Hp) (C : Addr) (cl : List (Str × Addr)) (fp : List Addr), DT (X.blk s H scope (compEnvC scope cl C X.env) fp) ow (fun q : E × α => ft q.2 (wipeG (Γ q.1) (own.map (·.2)))) ifs Gt tt)
    (hE : ∀ (s : Shared) (H : Hp) (C : Addr) (cl : List (Str × Addr)) (fp : List Addr) (B' : Bd), De (X.blk s H scope (compEnvC scope cl C X.env) fp) B' ow (fun q : E × α => ft q.2 (wipeG (Γ q.1) (own.map (·.2)))) true true elt ce Ge de (fun q => q))
    {ow' : List Nat} (hl : ∀ ε, i < (Γ ε).length) (h' : ∀ j, j ∈ ow' ↔ j ∈ ow ∨ j = i) (h0 : B.io ≠ none → i ≠ 0) (hjv : ∀ j ∈ js, j ∈ own.map (·.2) := by decide) (hvo : ∀ j ∈ own.map (·.2), j ∉ ow := by decide) (hy : X.N[i]? = some y := by rfl)
    (hyl : X.env.scope.names.lookup y = some .local := by rfl) (hN : X.N.Nodup := by assumption) (hc : X.calm = true := by rfl) (hs : ∀ x, foldedSetIterable e X.env x = pure x := by intro _; rfl) :
    Ds X B ow Γ cr ci owS ΓS (.Assign [.Name y py] (.ListComp elt [⟨tg, e, ifs, 0⟩] scope pos) spos) (fun ε => G ε ∧ ∀ x ∈ xs ε, Gt (ε, x) ∧ (tt (ε, x) = true → Ge (ε, x))) (fun ε => .nx (ε, ((xs ε).filter fun x => tt (ε, x)).map fun x => de (ε, x))) ow'
      (fun q : E × List β => (Γ q.1).set i (some (.list (q.2.map ce)))) :=
  ⟨(ps_setLc (te := tSB X.K ow (fun q : E × α => ft q.2 (wipeG (Γ q.1) (own.map (·.2)))) ce Ge de) hc hN hy hyl hsw hi.pi ok hg (fun s H C cl fp => (hT s H C cl fp).pts) (fun s H C cl fp => ⟨fun pins s' σ H' Q I ⟨B', q⟩ => (hE s H C cl fp B').pe.run pins s' σ H' Q I q⟩) hs).weaken fun Dn σ H ⟨H0, ε, rl, g, k⟩ =>
    lc_pure (Q := fun x H1 => Dn.nx (σ.set i (some x)) H1) ht hjv hvo ⟨H0, ε, rl, g, fun q H' vs hq f r hv hz z => k _ H' (r.setOwn hv hz ((rl.h0 hq).resolve_right (rl.notio hq)) (fun h => rl.base_trk q h hq) z (hl _) h' h0)⟩⟩
end
end Y
namespace Y
open PySem PySem.Spec L2

/-! ### more expressions -/
section
variable {X : Cx} {B : Bd} {ow : List Nat} {E α β γ : Type} {Γ : E → List (Option D)} {p p1 p2 p3 s : Bool} {e e1 e2 e3 : Expr} {pos : Pos} {c : α → D} {G G1 G2 G3 : E → Prop} {d d1 d2 : E → α} {t t1 t2 : E → Bool} {u : E → E}
theorem d_if (hc : Dt X B ow Γ true e G t (fun ε => ε)) (h1 : De X B ow Γ true s e1 c G1 d1 (fun ε => ε)) (h2 : De X B ow Γ true s e2 c G2 d2 (fun ε => ε)) :
    De X B ow Γ true s (.IfExp e e1 e2 pos) c (fun ε => G ε ∧ (t ε = true → G1 ε) ∧ (t ε = false → G2 ε)) (fun ε => if t ε = true then d1 ε else d2 ε) (fun ε => ε) :=
  ⟨(pe_ifExp hc.pt h1.pe h2.pe).weaken fun σ H Q ⟨H0, ε, rl, ⟨g, g1, g2⟩, k⟩ => ⟨H0, ε, rl, g, fun H1 f1 r1 => by
    have f1' : Fr [] H H1 := f1
    cases h : t ε with
    | true =>
      show tS X.K B ow Γ true s c G1 d1 (fun ε => ε) σ H1 Q
      simp only [h, if_true] at k
      exact ⟨H0, ε, r1, g1 h, fun v H2 f2 r2 z2 => k v H2 (f1'.trans f2) r2 z2⟩
    | false =>
      show tS X.K B ow Γ true s c G2 d2 (fun ε => ε) σ H1 Q
      simp only [h, Bool.false_eq_true, if_false] at k
      exact ⟨H0, ε, r1, g2 h, fun v H2 f2 r2 z2 => k v H2 (f1'.trans f2) r2 z2⟩⟩⟩
theorem d_and {es : List Expr} (h1 : De X B ow Γ p1 true e1 cB G1 t1 (fun ε => ε)) (h2 : De X B ow Γ p2 true (.BoolOp .And (e2 :: es) pos) cB G2 t2 (fun ε => ε)) :
    De X B ow Γ (p1 && p2) true (.BoolOp .And (e1 :: e2 :: es) pos) cB (fun ε => G1 ε ∧ (t1 ε = true → G2 ε)) (fun ε => t1 ε && t2 ε) (fun ε => ε) :=
  ⟨(pe_and h1.pe h2.pe).weaken fun σ H Q ⟨H0, ε, rl, ⟨g1, g2⟩, k⟩ => ⟨H0, ε, rl, g1, fun v H1 f1 r1 z1 => ⟨_, z1.bl_inv, by
    cases h : t1 ε with
    | true =>
      rw [if_pos rfl]
      refine ⟨H0, ε, r1, g2 h, fun w H2 f2 r2 z2 => k w H2 ((cond_fr f1 p2).trans (cond_fr2 f2 p1)) r2 ?_⟩
      simpa [h] using z2
    | false =>
      rw [if_neg Bool.false_ne_true]
      refine k _ H1 (cond_fr f1 p2) r1 ?_
      simp only [h, Bool.false_and]
      exact .bl _⟩⟩⟩
theorem d_or {es : List Expr} (h1 : De X B ow Γ p1 true e1 cB G1 t1 (fun ε => ε)) (h2 : De X B ow Γ p2 true (.BoolOp .Or (e2 :: es) pos) cB G2 t2 (fun ε => ε)) :
    De X B ow Γ (p1 && p2) true (.BoolOp .Or (e1 :: e2 :: es) pos) cB (fun ε => G1 ε ∧ (t1 ε = false → G2 ε)) (fun ε => t1 ε || t2 ε) (fun ε => ε) :=
  ⟨(pe_or h1.pe h2.pe).weaken fun σ H Q ⟨H0, ε, rl, ⟨g1, g2⟩, k⟩ => ⟨H0, ε, rl, g1, fun v H1 f1 r1 z1 => ⟨_, z1.bl_inv, by
    cases h : t1 ε with
    | true =>
      rw [if_pos rfl]
      refine k _ H1 (cond_fr f1 p2) r1 ?_
      simp only [h, Bool.true_or]
      exact .bl _
    | false =>
      rw [if_neg Bool.false_ne_true]
      refine ⟨H0, ε, r1, g2 h, fun w H2 f2 r2 z2 => k w H2 ((cond_fr f1 p2).trans (cond_fr2 f2 p1)) r2 ?_⟩
      simpa [h] using z2⟩⟩⟩
theorem d_one {op} (h : De X B ow Γ p s e c G d u) : De X B ow Γ p s (.BoolOp op [e] pos) c G d u := ⟨pe_one h.pe⟩
theorem d_not (h : De X B ow Γ p s e cB G t u) : De X B ow Γ p s (.UnaryOp .Not e pos) cB G (fun ε => !t ε) u :=
  ⟨(pe_not h.pe).weaken fun σ H Q ⟨H0, ε, rl, g, k⟩ => ⟨H0, ε, rl, g, fun v H1 f1 r1 z1 => ⟨_, z1.bl_inv, k _ H1 f1 r1 (.bl _)⟩⟩⟩
/-- tests of pure parts -/
theorem w_andP {es : List Expr} (h1 : Dt X B ow Γ p1 e1 G1 t1 (fun ε => ε)) (h2 : Dw X B ow Γ p2 (.BoolOp .And (e2 :: es) pos) G2 t2 (fun ε => ε)) :
    Dw X B ow Γ (p1 && p2) (.BoolOp .And (e1 :: e2 :: es) pos) (fun ε => G1 ε ∧ (t1 ε = true → G2 ε)) (fun ε => t1 ε && t2 ε) (fun ε => ε) := (w_and h1 h2).pure fun _ => ite_same _
theorem w_orP {es : List Expr} (h1 : Dt X B ow Γ p1 e1 G1 t1 (fun ε => ε)) (h2 : Dw X B ow Γ p2 (.BoolOp .Or (e2 :: es) pos) G2 t2 (fun ε => ε)) :
    Dw X B ow Γ (p1 && p2) (.BoolOp .Or (e1 :: e2 :: es) pos) (fun ε => G1 ε ∧ (t1 ε = false → G2 ε)) (fun ε => t1 ε || t2 ε) (fun ε => ε) := (w_or h1 h2).pure fun _ => ite_same _
/-- a op b op' c of ints -/
theorem d_chain {op op' : CmpOp} {r r' : R2} {f f' : Int → Int → Bool} {a b b' : E → Int} (ho : OpR X (compareOp op) r) (ho' : OpR X (compareOp op') r') (hv : Op2 X.K r cI cI cB (fun _ _ => True) f) (hv' : Op2 X.K r' cI cI cB (fun _ _ => True) f')
    (h1 : De X B ow Γ true s e1 cI G1 a (fun ε => ε)) (h2 : De X B ow Γ true s e2 cI G2 b (fun ε => ε)) (h3 : De X B ow Γ true s e3 cI G3 b' (fun ε => ε)) (hm : lastMarks [op, op'] [e2, e3] = false := by with_unfolding_all rfl) :
    De X B ow Γ true s (.Compare e1 [op, op'] [e2, e3] pos) cB (fun ε => G1 ε ∧ G2 ε ∧ (f (a ε) (b ε) = true → G3 ε)) (fun ε => f (a ε) (b ε) && f' (b ε) (b' ε)) (fun ε => ε) :=
  ⟨(pe_chain ho ho' h1.pe h2.pe h3.pe hm).weaken fun σ H Q ⟨H0, ε, rl, ⟨g1, g2, g3⟩, k⟩ => ⟨H0, ε, rl, g1, fun v H1 f1 r1 z1 => ⟨H0, ε, r1, g2, fun w H2 f2 r2 z2 => by
    have f1' : Fr [] H H1 := f1
    have f2' : Fr [] H1 H2 := f2
    refine hv _ H2 (a ε) (b ε) v w _ (r2.tr s) (z1.fr f2'.nil) z2 trivial fun z H3 f3 z3 => ⟨_, z3.bl_inv, ?_⟩
    have r3 := r2.grow f3
    cases h : f (a ε) (b ε) with
    | false =>
      rw [if_neg Bool.false_ne_true]
      refine k _ H3 ((f1'.trans f2').trans f3) r3 ?_
      simp only [h, Bool.false_and]
      exact .bl _
    | true =>
      rw [if_pos rfl]
      refine ⟨H0, ε, r3, g3 h, fun w' H4 f4 r4 z4 => ?_⟩
      have f4' : Fr [] H3 H4 := f4
      refine hv' _ H4 (b ε) (b' ε) w w' _ (r4.tr s) ((z2.fr f3.nil).fr f4'.nil) z4 trivial fun z' H5 f5 z5 => k _ H5 ((((f1'.trans f2').trans f3).trans f4').trans f5) (r4.grow f5) ?_
      simpa [h] using z5⟩⟩⟩
theorem t_chain {op op' : CmpOp} {r r' : R2} {f f' : Int → Int → Bool} {a b b' : E → Int} (ho : OpR X (compareOp op) r) (ho' : OpR X (compareOp op') r') (hv : Op2 X.K r cI cI cB (fun _ _ => True) f) (hv' : Op2 X.K r' cI cI cB (fun _ _ => True) f')
    (h1 : De X B ow Γ true s e1 cI G1 a (fun ε => ε)) (h2 : De X B ow Γ true s e2 cI G2 b (fun ε => ε)) (h3 : De X B ow Γ true s e3 cI G3 b' (fun ε => ε)) (hm : lastMarks [op, op'] [e2, e3] = false := by with_unfolding_all rfl) :
    Dt X B ow Γ true (.Compare e1 [op, op'] [e2, e3] pos) (fun ε => G1 ε ∧ G2 ε ∧ (f (a ε) (b ε) = true → G3 ε)) (fun ε => f (a ε) (b ε) && f' (b ε) (b' ε)) (fun ε => ε) :=
  ⟨(pt_chain ho ho' h1.pe h2.pe h3.pe hm).weaken fun σ H Q ⟨H0, ε, rl, ⟨g1, g2, g3⟩, k⟩ => ⟨H0, ε, rl, g1, fun v H1 f1 r1 z1 => ⟨H0, ε, r1, g2, fun w H2 f2 r2 z2 => by
    have f1' : Fr [] H H1 := f1
    have f2' : Fr [] H1 H2 := f2
    refine hv _ H2 (a ε) (b ε) v w _ (r2.tr s) (z1.fr f2'.nil) z2 trivial fun z H3 f3 z3 => ⟨_, z3.bl_inv, ?_⟩
    have r3 := r2.grow f3
    cases h : f (a ε) (b ε) with
    | false =>
      rw [if_neg Bool.false_ne_true]
      simp only [h, Bool.false_and] at k
      exact ⟨false, rfl, k H3 ((f1'.trans f2').trans f3) r3⟩
    | true =>
      rw [if_pos rfl]
      simp only [h, Bool.true_and] at k
      refine ⟨H0, ε, r3, g3 h, fun w' H4 f4 r4 z4 => ?_⟩
      have f4' : Fr [] H3 H4 := f4
      exact hv' _ H4 (b ε) (b' ε) w w' _ (r4.tr s) ((z2.fr f3.nil).fr f4'.nil) z4 trivial fun z' H5 f5 z5 => ⟨_, z5.bl_inv, k H5 ((((f1'.trans f2').trans f3).trans f4').trans f5) (r4.grow f5)⟩⟩⟩⟩
/-- the truth of a value -/
theorem t_truth {b : α → Bool} (h : De X B ow Γ p s e c G d u) (hb : ∀ (A : List Addr) (H : Hp) (v : V) (x : α), Fz X.K A H v (c x) → TruV X.K v H (b x)) (he : ∀ whole, isTrue e X.env whole = (do let v ← whole; standAt e.pos; holding [v] (truthy v)) := by intro _; rfl) :
    Dt X B ow Γ p e G (fun ε => b (d ε)) u :=
  ⟨(pt_truth h.pe he).weaken fun σ H Q ⟨H0, ε, rl, g, k⟩ => ⟨H0, ε, rl, g, fun v H1 f1 r1 z1 => ⟨_, hb _ H1 v _ z1, k H1 f1 r1⟩⟩⟩
end
section
variable {K : Frag} {A : List Addr} {H : Hp} {v : V} {α β : Type}
theorem tru_int (A : List Addr) (H : Hp) (v : V) (x : Int) (z : Fz K A H v (cI x)) : TruV K v H (x != 0) := by cases z.int_inv; rfl
theorem tru_list {c : List α → D} {ce : α → D} (hc : IsSq c ce) (A : List Addr) (H : Hp) (v : V) (x : List α) (z : Fz K A H v (c x)) : TruV K v H (!x.isEmpty) := by
  rcases hc with h | h
  · rw [h] at z
    obtain ⟨a, vs, rfl, n, l⟩ := z.lst_inv
    refine .inl ⟨vs, n.sq, ?_⟩
    have := l.length
    cases vs <;> cases x <;> simp at this ⊢
  · rw [h] at z
    obtain ⟨a, vs, rfl, n, l⟩ := z.tup_inv
    refine .inr (.inl ⟨vs, n.sq, ?_⟩)
    have := l.length
    cases vs <;> cases x <;> simp at this ⊢
/-- is None -/
def rIsNon : R2 := fun x y H Q => y = .non ∧ Q (.bl (decide (x = .non))) H
def rNotNon : R2 := fun x y H Q => y = .non ∧ Q (.bl (!decide (x = .non))) H
theorem fz_non {c : α → D} (hc : ∀ x, c x ≠ .none) {o : Option α} (z : Fz K A H v (cO c o)) : decide (v = .non) = o.isNone := by
  cases o with
  | none => cases z.non_inv; rfl
  | some x =>
    have z' : Fz K A H v (c x) := z
    refine decide_eq_false fun e => ?_
    subst e
    have := hc x
    generalize c x = d at z' this
    cases z'
    exact this rfl
theorem v_isO {c : α → D} (hc : ∀ x, c x ≠ .none) : Op2 K rIsNon (cO c) cN cB (fun _ _ => True) (fun o _ => o.isNone) := fun A H x y v w Q _ z1 z2 _ k => by
  cases z2.non_inv
  exact ⟨rfl, k _ H (Fr.refl _ _) (by rw [fz_non hc z1]; exact .bl _)⟩
theorem v_notO {c : α → D} (hc : ∀ x, c x ≠ .none) : Op2 K rNotNon (cO c) cN cB (fun _ _ => True) (fun o _ => !o.isNone) := fun A H x y v w Q _ z1 z2 _ k => by
  cases z2.non_inv
  exact ⟨rfl, k _ H (Fr.refl _ _) (by rw [fz_non hc z1]; exact .bl _)⟩
/-- a value that is never None -/
theorem v_isX {c : α → D} (hc : ∀ x, c x ≠ .none) : Op2 K rIsNon c cN cB (fun _ _ => True) (fun _ _ => false) := fun A H x y v w Q _ z1 z2 _ k => by
  cases z2.non_inv
  have e : decide (v = .non) = false := decide_eq_false fun e => by
    subst e
    have := hc x
    generalize c x = d at z1 this
    cases z1
    exact this rfl
  exact ⟨rfl, k _ H (Fr.refl _ _) (by rw [e]; exact .bl _)⟩
theorem v_notX {c : α → D} (hc : ∀ x, c x ≠ .none) : Op2 K rNotNon c cN cB (fun _ _ => True) (fun _ _ => true) := fun A H x y v w Q _ z1 z2 _ k => by
  cases z2.non_inv
  have e : decide (v = .non) = false := decide_eq_false fun e => by
    subst e
    have := hc x
    generalize c x = d at z1 this
    cases z1
    exact this rfl
  exact ⟨rfl, k _ H (Fr.refl _ _) (by rw [e]; exact .bl _)⟩
theorem v_isN : Op2 K rIsNon cN cN cB (fun _ _ => True) (fun _ _ => true) := fun A H x y v w Q _ z1 z2 _ k => by
  cases z2.non_inv; cases z1.non_inv
  exact ⟨rfl, k _ H (Fr.refl _ _) (.bl _)⟩
theorem v_notN : Op2 K rNotNon cN cN cB (fun _ _ => True) (fun _ _ => false) := fun A H x y v w Q _ z1 z2 _ k => by
  cases z2.non_inv; cases z1.non_inv
  exact ⟨rfl, k _ H (Fr.refl _ _) (.bl _)⟩
/-- data are equal -/
structure Cq (n : Nat) (c : α → D) : Prop where
  lay : ∀ x, (c x).canLay0 = true
  dep : ∀ x, (c x).depth ≤ n
theorem Cq.shaped {n : Nat} {c : α → D} (h : Cq n c) (hn : n ≤ 64) (x : α) : SeqAt.shaped (c x) = true := by
  show ((c x).canLay0 && decide ((c x).depth ≤ 64)) = true
  rw [Bool.and_eq_true]
  exact ⟨h.lay x, decide_eq_true (Nat.le_trans (h.dep x) hn)⟩
theorem cq_I : Cq 0 cI := ⟨fun _ => by simp [PyData.canLay0], fun _ => by simp [PyData.depth]⟩
theorem cq_B : Cq 0 cB := ⟨fun _ => by simp [PyData.canLay0], fun _ => by simp [PyData.depth]⟩
theorem cq_N : Cq 0 cN := ⟨fun _ => by simp [PyData.canLay0], fun _ => by simp [PyData.depth]⟩
theorem canLayAll_map {c : α → D} (h : ∀ x, (c x).canLay0 = true) : ∀ xs : List α, PyData.canLayAll0 (xs.map c) = true
  | [] => by simp [PyData.canLayAll0]
  | x :: xs => by simp [PyData.canLayAll0, h x, canLayAll_map h xs]
theorem depthAll_mapc {n : Nat} {c : α → D} (h : ∀ x, (c x).depth ≤ n) : ∀ xs : List α, PyData.depthAll (xs.map c) ≤ n
  | [] => by simp [PyData.depthAll]
  | x :: xs => by
    have h1 := h x
    have h2 := depthAll_mapc h xs
    simp only [List.map_cons, PyData.depthAll]
    omega
theorem cq_T {n : Nat} {c : α → D} (h : Cq n c) : Cq (n + 1) (cT c) := ⟨fun xs => by simp only [PyData.canLay0]; exact canLayAll_map h.lay xs, fun xs => by
  have := depthAll_mapc h.dep xs
  simp only [PyData.depth]; omega⟩
theorem cq_L {n : Nat} {c : α → D} (h : Cq n c) : Cq (n + 1) (cL c) := ⟨fun xs => by simp only [PyData.canLay0]; exact canLayAll_map h.lay xs, fun xs => by
  have := depthAll_mapc h.dep xs
  simp only [PyData.depth]; omega⟩
theorem cq_O {n : Nat} {c : α → D} (h : Cq n c) : Cq n (cO c) := ⟨fun o => by cases o with | none => simp [cO, PyData.canLay0] | some x => exact h.lay x, fun o => by cases o with | none => simp [cO, PyData.depth] | some x => exact h.dep x⟩
theorem cq_1 {n : Nat} {c : α → D} (h : Cq n c) : Cq (n + 1) (c1 c) := ⟨fun x => by simp [PyData.canLay0, PyData.canLayAll0, h.lay x], fun x => by
  have := h.dep x
  simp only [PyData.depth, PyData.depthAll]; omega⟩
theorem cq_2 {n m : Nat} {c : α → D} {c' : β → D} (h : Cq n c) (h' : Cq m c') : Cq (max n m + 1) (c2 c c') := ⟨fun x => by simp [PyData.canLay0, PyData.canLayAll0, h.lay x.1, h'.lay x.2], fun x => by
  have := h.dep x.1
  have := h'.dep x.2
  simp only [PyData.depth, PyData.depthAll]; omega⟩
theorem cq_3 {n m l : Nat} {γ : Type} {c : α → D} {c' : β → D} {c'' : γ → D} (h : Cq n c) (h' : Cq m c') (h'' : Cq l c'') : Cq (max n (max m l) + 1) (c3 c c' c'') := ⟨fun x => by simp [PyData.canLay0, PyData.canLayAll0, h.lay x.1, h'.lay x.2.1, h''.lay x.2.2], fun x => by
  have := h.dep x.1
  have := h'.dep x.2.1
  have := h''.dep x.2.2
  simp only [PyData.depth, PyData.depthAll]; omega⟩
/-- == of data: any two codecs -/
theorem v_eqD {n m : Nat} {c : α → D} {c' : β → D} (h : Cq n c) (h' : Cq m c') (hn : n ≤ 64 := by decide) (hm : m ≤ 64 := by decide) : Op2 K (rEqD K) c c' cB (fun _ _ => True) (fun x y => PyData.eqv (c x) (c' y)) := fun A H x y v w Q _ z1 z2 _ k =>
  ⟨_, _, z1.dp, z2.dp, h.shaped hn x, h'.shaped hm y, k _ H (Fr.refl _ _) (.bl _)⟩
theorem v_neD {n m : Nat} {c : α → D} {c' : β → D} (h : Cq n c) (h' : Cq m c') (hn : n ≤ 64 := by decide) (hm : m ≤ 64 := by decide) : Op2 K (rNeD K) c c' cB (fun _ _ => True) (fun x y => !PyData.eqv (c x) (c' y)) := fun A H x y v w Q _ z1 z2 _ k =>
  ⟨_, _, z1.dp, z2.dp, h.shaped hn x, h'.shaped hm y, k _ H (Fr.refl _ _) (.bl _)⟩
theorem v_eqG {c : α → D} {c' : β → D} : Op2 K (rEqD K) c c' cB (fun x y => SeqAt.shaped (c x) = true ∧ SeqAt.shaped (c' y) = true) (fun x y => PyData.eqv (c x) (c' y)) := fun A H x y v w Q _ z1 z2 hc k => ⟨_, _, z1.dp, z2.dp, hc.1, hc.2, k _ H (Fr.refl _ _) (.bl _)⟩
theorem v_neG {c : α → D} {c' : β → D} : Op2 K (rNeD K) c c' cB (fun x y => SeqAt.shaped (c x) = true ∧ SeqAt.shaped (c' y) = true) (fun x y => !PyData.eqv (c x) (c' y)) := fun A H x y v w Q _ z1 z2 hc k => ⟨_, _, z1.dp, z2.dp, hc.1, hc.2, k _ H (Fr.refl _ _) (.bl _)⟩
theorem v_eqDy : Op2 K (rEqD K) cD cD cB (fun x y => SeqAt.shaped x = true ∧ SeqAt.shaped y = true) (fun x y => PyData.eqv x y) := fun A H x y v w Q _ z1 z2 hc k => ⟨_, _, z1.dp, z2.dp, hc.1, hc.2, k _ H (Fr.refl _ _) (.bl _)⟩
end

/-! ### slices, sums of tuples, lists -/
section
variable {X : Cx} {B : Bd} {ow : List Nat} {E α β : Type} {Γ : E → List (Option D)} {p s : Bool} {e e1 e2 : Expr} {pos p2 : Pos} {c : α → D} {G G1 G2 : E → Prop} {d : E → List α} {ds : E → Str} {u : E → E}
/-- a part of a slice: pure -/
structure DO (X : Cx) (B : Bd) (ow : List Nat) {E : Type} (Γ : E → List (Option D)) (e : Option Expr) (G : E → Prop) (d : E → Option Int) : Prop where
  po : PO X e (fun σ H Q => ∃ H0 ε, Rel X.K B H0 ow σ H (Γ ε) ∧ G ε ∧ ∀ H', Fr [] H H' → Rel X.K B H0 ow σ H' (Γ ε) → Q (d ε) H')
theorem o_none : DO X B ow Γ none (fun _ => True) (fun _ => none) := ⟨⟨fun pins s σ H Q I ⟨H0, ε, r, _, k⟩ => po_none.run pins s σ H Q I (k H (Fr.refl _ _) r)⟩⟩
theorem o_some {di : E → Int} (h : De X B ow Γ true true e cI G di (fun ε => ε)) : DO X B ow Γ (some e) G (fun ε => some (di ε)) :=
  ⟨⟨fun pins s σ H Q I ⟨H0, ε, r, g, k⟩ => (po_some h.pe).run pins s σ H Q I ⟨H0, ε, r, g, fun v H' f r' z => ⟨_, z.int_inv, k H' f r'⟩⟩⟩⟩
def cut {α : Type} (xs : List α) (lo hi : Option Int) : List α := (xs.drop (HT.sIx xs.length 0 lo)).take (HT.sIx xs.length xs.length hi - HT.sIx xs.length 0 lo)
theorem cut_map {f : α → β} (xs : List α) (lo hi : Option Int) : cut (xs.map f) lo hi = (cut xs lo hi).map f := by unfold cut; rw [List.length_map, List.map_take, List.map_drop]
theorem cut_len (xs : List α) (lo hi : Option Int) : (cut xs lo hi).length ≤ xs.length := by
  unfold cut
  rw [List.length_take, List.length_drop]
  omega
theorem FzL.cut {K : Frag} {A : List Addr} {H : Hp} {vs : List V} {es : List D} (h : FzL K A H vs es) (lo hi : Option Int) : FzL K A H (cutV vs lo hi) (Y.cut es lo hi) := by
  unfold cutV Y.cut
  rw [← h.length]
  exact (h.drop _).take _
variable {lo hi : Option Expr} {dl dh : E → Option Int}
theorem d_slT (h : De X B ow Γ true s e (cT c) G d (fun ε => ε)) (hl : DO X B ow Γ lo G1 dl) (hh : DO X B ow Γ hi G2 dh) : De X B ow Γ true s (.Subscript e (.Slice lo hi none p2) pos) (cT c) (fun ε => G ε ∧ G1 ε ∧ G2 ε) (fun ε => cut (d ε) (dl ε) (dh ε)) (fun ε => ε) :=
  ⟨(pe_slice sl_tupA h.pe hl.po hh.po).weaken fun σ H Q ⟨H0, ε, rl, ⟨g, g1, g2⟩, k⟩ => ⟨H0, ε, rl, g, fun v H1 f1 r1 z1 => ⟨H0, ε, r1, g1, fun H2 f2 r2 => ⟨H0, ε, r2, g2, fun H3 f3 r3 => by
    have f1' : Fr [] H H1 := f1
    have z3 := (z1.fr f2.nil).fr (f3.nil (A := cond s (B.full σ ow) B.base))
    obtain ⟨a, vs, rfl, n, l⟩ := z3.tup_inv
    have fa : Fr [] H H3 := (f1'.trans f2).trans f3
    refine ⟨a, vs, rfl, n.sq, fun hw => k _ H3 fa r3 ?_, fun _ q hq => k _ _ (fa.trans (Fr.new hq)) (r3.grow (Fr.new hq)) ?_⟩
    · have hl : vs.length = (d ε).length := by simpa using l.length
      rw [hl] at hw
      have e : cut (d ε) (dl ε) (dh ε) = d ε := by
        unfold cut
        rw [hw.1, hw.2, List.drop_zero, Nat.sub_zero, List.take_length]
      show Fz _ _ _ _ (cT c (cut (d ε) (dl ε) (dh ε)))
      rw [e]
      exact .tup n l
    · refine .tup (.inl ⟨(r3.tr s).new hq, upd_same, Nat.le_trans (cutV_length _ _ _) n.sz⟩) ?_
      rw [← cut_map]
      exact (l.cut _ _).fr (Fr.new hq)⟩⟩⟩⟩
theorem d_slL (h : De X B ow Γ true true e (cL c) G d (fun ε => ε)) (hl : DO X B ow Γ lo G1 dl) (hh : DO X B ow Γ hi G2 dh) : DL X B ow Γ true (.Subscript e (.Slice lo hi none p2) pos) c (fun ε => G ε ∧ G1 ε ∧ G2 ε) (fun ε => cut (d ε) (dl ε) (dh ε)) (fun ε => ε) :=
  ⟨(pe_slice sl_list h.pe hl.po hh.po).weaken fun σ H Q ⟨H0, ε, rl, ⟨g, g1, g2⟩, k⟩ => ⟨H0, ε, rl, g, fun v H1 f1 r1 z1 => ⟨H0, ε, r1, g1, fun H2 f2 r2 => ⟨H0, ε, r2, g2, fun H3 f3 r3 => by
    have f1' : Fr [] H H1 := f1
    have z3 := (z1.fr f2.nil).fr (f3.nil (A := cond true (B.full σ ow) B.base))
    obtain ⟨a, vs, rfl, n, l⟩ := z3.lst_inv
    have fa : Fr [] H H3 := (f1'.trans f2).trans f3
    refine ⟨a, vs, rfl, n.sq, fun q hq => k q _ _ (fa.back hq) (fa.trans (Fr.new hq)) (r3.plus hq) upd_same (Nat.le_trans (cutV_length _ _ _) n.2) ?_⟩
    rw [← cut_map]
    refine ((((l.cut _ _).more hq).sub fun x hx => ?_).fr (Fr.new hq))
    simp only [Bd.full, Bd.base, Bd.plus, List.mem_append, List.mem_cons, cond_true] at hx ⊢
    rcases hx with (h | h | h) | h
    · exact .inr (.inl (.inl h))
    · exact .inl h
    · exact .inr (.inl (.inr h))
    · exact .inr (.inr h)⟩⟩⟩⟩
theorem d_slS (h : De X B ow Γ true s e cS G ds (fun ε => ε)) (hl : DO X B ow Γ lo G1 dl) (hh : DO X B ow Γ hi G2 dh) : De X B ow Γ true s (.Subscript e (.Slice lo hi none p2) pos) cS (fun ε => G ε ∧ G1 ε ∧ G2 ε ∧ (ds ε).length ≤ 16777216) (fun ε => cutS (ds ε) (dl ε) (dh ε)) (fun ε => ε) :=
  ⟨(pe_slice sl_str h.pe hl.po hh.po).weaken fun σ H Q ⟨H0, ε, rl, ⟨g, g1, g2, g3⟩, k⟩ => ⟨H0, ε, rl, g, fun v H1 f1 r1 z1 => ⟨H0, ε, r1, g1, fun H2 f2 r2 => ⟨H0, ε, r2, g2, fun H3 f3 r3 => by
    have f1' : Fr [] H H1 := f1
    cases z1.str_inv
    exact ⟨_, rfl, by rw [sizeLine_eq]; exact g3, k _ H3 ((f1'.trans f2).trans f3) r3 (.str _)⟩⟩⟩⟩⟩
end
section
variable {K : Frag} {α β : Type}
/-- tuple + tuple -/
theorem v_catT {ce : α → D} : Op2 K (rCatA K) (cT ce) (cT ce) (cT ce) (fun xs ys => xs.length + ys.length ≤ 16777216) (fun xs ys => xs ++ ys) := fun A H x y v w Q t z1 z2 hc k => by
  obtain ⟨a, vs, rfl, n, l⟩ := z1.tup_inv
  obtain ⟨b, ws, rfl, n2, l2⟩ := z2.tup_inv
  have e1 : vs.length = x.length := by simpa using l.length
  have e2 : ws.length = y.length := by simpa using l2.length
  have hl : vs.length + ws.length ≤ 16777216 := by rw [e1, e2]; exact hc
  refine ⟨a, b, vs, ws, rfl, rfl, n.sq, n2.sq, by rw [sizeLine_eq]; exact hl, fun h => k _ H (Fr.refl _ _) ?_, fun _ h => k _ H (Fr.refl _ _) ?_, fun _ _ q hq => k _ _ (Fr.new hq) ?_⟩
  · have : x = [] := List.eq_nil_of_length_eq_zero (by rw [← e1, h]; rfl)
    show Fz K A H _ (cT ce (x ++ y))
    rw [this]
    exact .tup n2 l2
  · have : y = [] := List.eq_nil_of_length_eq_zero (by rw [← e2, h]; rfl)
    show Fz K A H _ (cT ce (x ++ y))
    rw [this, List.append_nil]
    exact .tup n l
  · refine .tup (.inl ⟨t.new hq, upd_same, by rw [List.length_append]; exact hl⟩) ?_
    rw [List.map_append]
    exact (l.append l2).fr (Fr.new hq)
theorem v_catS : Op2 K (fun x y H Q => ∃ i j, x = .str i ∧ y = .str j ∧ i.length + j.length ≤ sizeLine ∧ Q (.str (i ++ j)) H) cS cS cS (fun x y => x.length + y.length ≤ 16777216) (fun x y => x ++ y) := fun A H x y v w Q t z1 z2 hc k => by
  cases z1.str_inv
  cases z2.str_inv
  exact ⟨_, _, rfl, rfl, by rw [sizeLine_eq]; exact hc, k _ H (Fr.refl _ _) (.str _)⟩
end
/-! lists that are new -/
section
variable {X : Cx} {B : Bd} {ow : List Nat} {E α β : Type} {Γ : E → List (Option D)} {p s : Bool} {e e1 e2 : Expr} {es : List Expr} {pos px : Pos} {c : α → D} {G G1 G2 : E → Prop} {d d1 d2 : E → List α} {u : E → E}
theorem fzl_plus {K : Frag} {H : Hp} {σ : L2.St} {q : Addr} {o : HO} {vs : List V} {ys : List D} (hq : H q = none) (z : FzL K (B.full σ ow) H vs ys) : FzL K ((B.plus q).full σ ow) (upd H q o) vs ys := by
  refine ((z.more hq).sub fun x hx => ?_).fr (Fr.new hq)
  simp only [Bd.full, Bd.base, Bd.plus, List.mem_append, List.mem_cons] at hx ⊢
  rcases hx with (h | h | h) | h
  · exact .inr (.inl (.inl h))
  · exact .inl h
  · exact .inr (.inl (.inr h))
  · exact .inr (.inr h)
theorem l_disp {cs : β → List D} {dv : E → β} {g : β → List α} (hc : ∀ x, cs x = (g x).map c) (hl : ∀ x, (g x).length ≤ 1000) (h : DA X B ow Γ true true es cs G dv u) : DL X B ow Γ true (.List es pos) c G (fun ε => g (dv ε)) u :=
  ⟨(pe_lst h.pa).weaken fun σ H Q ⟨H0, ε, rl, gg, k⟩ => ⟨H0, ε, rl, gg, fun vs H1 f1 r1 z1 => by
    have f1' : Fr [] H H1 := f1
    have z1' : FzL X.K (B.full σ ow) H1 vs ((g (dv ε)).map c) := by rw [← hc]; exact z1
    have hz : vs.length ≤ 1000 := by
      have := z1'.length
      rw [List.length_map] at this
      rw [this]; exact hl _
    exact ⟨Nat.le_trans hz (by decide), fun q hq => k q _ vs (f1'.back hq) (f1'.trans (Fr.new hq)) (r1.plus hq) upd_same (Nat.le_trans hz (by decide)) (fzl_plus hq z1')⟩⟩⟩
theorem l_dispX {cs : β → List D} {dv : E → β} {g : β → List α} (hc : ∀ x, cs x = (g x).map c) (hl : ∀ x, (g x).length ≤ 1000) (h : DA X B ow Γ false true es cs G dv u) : De X B ow Γ false true (.List es pos) (cL c) G (fun ε => g (dv ε)) u :=
  (d_lst (ct := fun x => cL c (g x)) (fun x => by rw [hc]) (fun x => by rw [hc, List.length_map]; exact hl x) h).as (c' := cL c) (g := g) fun _ => rfl
theorem l_list {cq : List α → D} (hq' : IsSq cq c) (h : DA X B ow Γ true true [e] (ac cq an) G (fun ε => (d ε, ())) u) (hm : X.mg "list" = none) (hg : Gl X "list" := by rfl) (he : starEach [e] X.env = (false, eval e X.env) :: starEach [] X.env := by rfl)
    (hpl : (backTo pos (starEach [] X.env)).any (·.1) = false := by rfl) : DL X B ow Γ true (.Call (.Name "list" px) [e] [] pos) c G d u :=
  ⟨(pe_callTy call_list_of hg hm (by decide +kernel) h.pa (by decide) (by decide) he hpl).weaken fun σ H Q ⟨H0, ε, rl, gg, k⟩ => ⟨H0, ε, rl, gg, fun vs H1 f1 r1 z1 => by
    have f1' : Fr [] H H1 := f1
    obtain ⟨v, rfl, z⟩ := fzl1 (ds := []) z1
    obtain ⟨a, ws, rfl, hs, l, e, sz⟩ := hq'.inv z
    exact ⟨a, ws, rfl, hs, fun q hq => k q _ ws (f1'.back hq) (f1'.trans (Fr.new hq)) (r1.plus hq) upd_same sz (fzl_plus hq l)⟩⟩⟩
theorem l_cat (h1 : De X B ow Γ true true e1 (cL c) G1 d1 (fun ε => ε)) (h2 : De X B ow Γ true true e2 (cL c) G2 d2 (fun ε => ε)) : DL X B ow Γ true (.BinOp e1 .Add e2 pos) c (fun ε => G1 ε ∧ G2 ε ∧ (d1 ε).length + (d2 ε).length ≤ 16777216) (fun ε => d1 ε ++ d2 ε) (fun ε => ε) :=
  ⟨(pe_op op_cat h1.pe h2.pe).weaken fun σ H Q ⟨H0, ε, rl, ⟨g1, g2, g3⟩, k⟩ => ⟨H0, ε, rl, g1, fun v H1 f1 r1 z1 => ⟨H0, ε, r1, g2, fun w H2 f2 r2 z2 => by
    have f1' : Fr [] H H1 := f1
    have f2' : Fr [] H1 H2 := f2
    obtain ⟨a, vs, rfl, n, l⟩ := (z1.fr f2'.nil).lst_inv
    obtain ⟨b, ws, rfl, n2, l2⟩ := z2.lst_inv
    have e1 : vs.length = (d1 ε).length := by simpa using l.length
    have e2 : ws.length = (d2 ε).length := by simpa using l2.length
    have hl : vs.length + ws.length ≤ 16777216 := by rw [e1, e2]; exact g3
    have fa := f1'.trans f2'
    refine ⟨a, b, vs, ws, rfl, rfl, n.1.2, n2.1.2, by rw [sizeLine_eq]; exact hl, fun q hq => k q _ _ (fa.back hq) (fa.trans (Fr.new hq)) (r2.plus hq) upd_same (by rw [List.length_append]; exact hl) ?_⟩
    rw [List.map_append]
    exact fzl_plus hq (l.append l2)⟩⟩⟩
def repI {α : Type} (xs : List α) (k : Int) : List α := (List.replicate k.toNat xs).flatten
theorem l_rep {dk : E → Int} (h1 : De X B ow Γ true true e1 (cL c) G1 d1 (fun ε => ε)) (h2 : De X B ow Γ true true e2 cI G2 dk (fun ε => ε)) :
    DL X B ow Γ true (.BinOp e1 .Mult e2 pos) c (fun ε => G1 ε ∧ G2 ε ∧ -1000000 ≤ dk ε ∧ dk ε ≤ 1000000 ∧ (d1 ε).length * (dk ε).toNat ≤ 16777216) (fun ε => repI (d1 ε) (dk ε)) (fun ε => ε) :=
  ⟨(pe_op op_rep h1.pe h2.pe).weaken fun σ H Q ⟨H0, ε, rl, ⟨g1, g2, g3, g4, g5⟩, k⟩ => ⟨H0, ε, rl, g1, fun v H1 f1 r1 z1 => ⟨H0, ε, r1, g2, fun w H2 f2 r2 z2 => by
    have f1' : Fr [] H H1 := f1
    have f2' : Fr [] H1 H2 := f2
    obtain ⟨a, vs, rfl, n, l⟩ := (z1.fr f2'.nil).lst_inv
    cases z2.int_inv
    have e1 : vs.length = (d1 ε).length := by simpa using l.length
    have fa := f1'.trans f2'
    have hl : vs.length * (dk ε).toNat ≤ 16777216 := by rw [e1]; exact g5
    refine ⟨a, _, vs, rfl, rfl, n.1.2, by omega, by omega, by rw [sizeLine_eq]; exact hl, fun q hq => k q _ _ (fa.back hq) (fa.trans (Fr.new hq)) (r2.plus hq) upd_same ?_ ?_⟩
    · rw [List.length_flatten, List.map_replicate, List.sum_replicate_nat]
      rw [Nat.mul_comm]
      exact hl
    · have e : (repI (d1 ε) (dk ε)).map c = (List.replicate (dk ε).toNat ((d1 ε).map c)).flatten := by
        unfold repI
        rw [List.map_flatten, List.map_replicate]
      show FzL _ _ _ _ ((repI (d1 ε) (dk ε)).map c)
      rw [e]
      exact fzl_plus hq (l.rep _)⟩⟩⟩
end
end Y
namespace Y
open PySem PySem.Spec PyProof.Rows L2

/-! ### tuple * int, any count -/
theorem tmulS (l : Addr) (items : Array Value) (n : Nat) (dd : Option Addr) (sl : Array (Option Value)) (x : Int) (u : Tok) (c0 : (decide (x < -(2 ^ 63)) || decide (x ≥ 2 ^ 63)) = false) (c1 : (items.isEmpty || x == 1) = true) :
    Meets (Builtin.«tuple.__mul__» ⟨[.ref l, .int x u], []⟩) (fun _ R s => s.heap.get? l = some { cls := .type "tuple", dict := dd, data := .seq items n, slots := sl } ∧ R (.ok (.ret (Value.ref l))) s) :=
  .of_wp fun prog w A R s h => by
    obtain ⟨hp, g, d, tk, os⟩ := s
    obtain ⟨hl, h⟩ := h
    have f1 := AutoSeq1.idx_int
    wp_walk using wpAny_loadPart' hl
    repeat (first
      | exact ⟨_, rfl, h⟩
      | (refine wpAny_ite_false (decide_eq_false (by rw [c0]; exact Bool.false_ne_true)) ?_; wp_walk using wpAny_loadPart' hl)
      | (refine wpAny_ite_true (decide_eq_true c1) ?_; wp_walk using wpAny_loadPart' hl))
theorem tmulE (l : Addr) (items : Array Value) (n : Nat) (dd : Option Addr) (sl : Array (Option Value)) (x : Int) (u : Tok) (c0 : (decide (x < -(2 ^ 63)) || decide (x ≥ 2 ^ 63)) = false) (c1 : (items.isEmpty || x == 1) = false) (c2 : (decide (x ≤ 0) || items.isEmpty) = true) :
    Meets (Builtin.«tuple.__mul__» ⟨[.ref l, .int x u], []⟩) (fun _ R s => s.heap.get? l = some { cls := .type "tuple", dict := dd, data := .seq items n, slots := sl } ∧
      R (.ok (.ret (Value.ref s.heap.objs.size))) { s with heap := s.heap.push { cls := Value.type "tuple", data := Data.seq #[] }, toks := s.toks }) :=
  .of_wp fun prog w A R s h => by
    obtain ⟨hp, g, d, tk, os⟩ := s
    obtain ⟨hl, h⟩ := h
    have f1 := AutoSeq1.idx_int
    wp_walk using wpAny_loadPart' hl
    repeat (first
      | exact ⟨_, rfl, h⟩
      | (refine wpAny_ite_false (decide_eq_false (by rw [c0]; exact Bool.false_ne_true)) ?_; wp_walk using wpAny_loadPart' hl)
      | (refine wpAny_ite_false (decide_eq_false (by rw [c1]; exact Bool.false_ne_true)) ?_; wp_walk using wpAny_loadPart' hl)
      | (refine wpAny_ite_true (decide_eq_true c2) ?_; wp_walk using wpAny_loadPart' hl))

def rRepA (K : Frag) : R2 := fun x y H Q => ∃ l k xs, x = .ref l ∧ y = .int k ∧ SqT K H l xs ∧ -1000000 ≤ k ∧ k ≤ 1000 ∧ xs.length ≤ 1000 ∧ (xs = [] ∨ k = 1 → Q (.ref l) H) ∧ ∀ p, H p = none → Q (.ref p) (upd H p (.tup (List.replicate k.toNat xs).flatten))
section
variable {X : Cx}
theorem op_repTA : OpR X (binaryOp .Mult) (rRepA X.K) := by
  intro pins s σ H x y v u Q I rx ry h
  obtain ⟨l, k, xs, rfl, rfl, hT, hk0, hk1, hz, q1, q2⟩ := h
  by_cases hs : xs = [] ∨ k = 1
  · cases rx
    obtain ⟨t, rfl⟩ := ry
    obtain ⟨its, r, ⟨⟨cls, dd, data, sl⟩, ho, hc, n, hd⟩, hsz⟩ := I.tuple hT
    simp only at hc hd
    subst hc hd
    have hle : its.length = xs.length := r.length.symm
    have c0 : (decide (k < -(2 ^ 63)) || decide (k ≥ 2 ^ 63)) = false := by
      rw [decide_eq_false (by omega), decide_eq_false (by omega)] <;> rfl
    have c1 : (its.toArray.isEmpty || k == 1) = true := by
      rcases hs with e | e
      · subst e
        have : its = [] := List.eq_nil_of_length_eq_zero hle
        subst this
        rfl
      · rw [e]; simp
    refine wpAny_binaryOp_repeat_ref (T := "tuple") (U := "int") (by decide) ⟨_, ho, rfl⟩ (fun s' => typeIs_int s' k t) noFill_tuple_mul F.fills_int_mul F.slot_int_rmul repeat_tuple F.slot_int_index.lookup
      (call_meets F.slot_int_rmul (typeIs_int s k t) F.entry_int_rmul (F.args_int_rmul_2 _ _) (int_rmul_tuple k t l its.toArray n dd sl)
        ⟨ho, rfl, ⟨_, ho, rfl⟩, call_meets F.slot_tuple_mul ⟨_, ho, rfl⟩ F.entry_tuple_mul (F.args_tuple_mul_2 _ _) (tmulS l its.toArray n dd sl k t c0 c1) ⟨ho, ?_⟩⟩)
    exact ⟨.ref l, H, I, rfl, q1 hs⟩
  · have hne : xs ≠ [] := fun e => hs (.inl e)
    have hk : k ≠ 1 := fun e => hs (.inr e)
    by_cases h2 : 2 ≤ k
    · exact op_repT pins s σ H _ _ v u Q I rx ry ⟨l, k, xs, rfl, rfl, hT, hne, h2, hk1, hz, q2⟩
    · cases rx
      obtain ⟨t, rfl⟩ := ry
      obtain ⟨its, r, ⟨⟨cls, dd, data, sl⟩, ho, hc, n, hd⟩, hsz⟩ := I.tuple hT
      simp only at hc hd
      subst hc hd
      have hle : its.length = xs.length := r.length.symm
      have c0 : (decide (k < -(2 ^ 63)) || decide (k ≥ 2 ^ 63)) = false := by
        rw [decide_eq_false (by omega), decide_eq_false (by omega)] <;> rfl
      have hi : its.toArray.isEmpty = false := by
        cases its with
        | nil => exact absurd (List.eq_nil_of_length_eq_zero hle.symm) hne
        | cons a b => rfl
      have c1 : (its.toArray.isEmpty || k == 1) = false := by
        rw [hi, Bool.false_or]
        exact beq_eq_false_iff_ne.mpr hk
      have c2 : (decide (k ≤ 0) || its.toArray.isEmpty) = true := by
        rw [hi, Bool.or_false]
        exact decide_eq_true (by omega)
      refine wpAny_binaryOp_repeat_ref (T := "tuple") (U := "int") (by decide) ⟨_, ho, rfl⟩ (fun s' => typeIs_int s' k t) noFill_tuple_mul F.fills_int_mul F.slot_int_rmul repeat_tuple F.slot_int_index.lookup
        (call_meets F.slot_int_rmul (typeIs_int s k t) F.entry_int_rmul (F.args_int_rmul_2 _ _) (int_rmul_tuple k t l its.toArray n dd sl)
          ⟨ho, rfl, ⟨_, ho, rfl⟩, call_meets F.slot_tuple_mul ⟨_, ho, rfl⟩ F.entry_tuple_mul (F.args_tuple_mul_2 _ _) (tmulE l its.toArray n dd sl k t c0 c1 c2) ⟨ho, ?_⟩⟩)
      have e : (List.replicate k.toNat xs).flatten = [] := by
        have : k.toNat = 0 := by omega
        rw [this]; rfl
      have q3 := q2 _ (I.hok.fresh (Nat.le_refl s.heap.objs.size))
      rw [e] at q3
      exact ⟨.ref s.heap.objs.size, _, I.laid (t' := s.toks) (o := .tup []) (fun b ob q => Heap.get?_push_of_some _ q) (Nat.le_refl _) ⟨Nat.zero_le _, [], .nil, IsTup.new _ _⟩, rfl, q3⟩
end
theorem v_repT {K : Frag} {α : Type} {ce : α → D} : Op2 K (rRepA K) (cT ce) cI (cT ce) (fun xs k => -1000000 ≤ k ∧ k ≤ 1000 ∧ xs.length ≤ 1000) repI := fun A H x y v w Q t z1 z2 hc k => by
  obtain ⟨a, vs, rfl, n, l⟩ := z1.tup_inv
  cases z2.int_inv
  have e1 : vs.length = x.length := by simpa using l.length
  obtain ⟨h1, h2, h3⟩ := hc
  refine ⟨a, y, vs, rfl, rfl, n.sq, h1, h2, by omega, fun hs => k _ H (Fr.refl _ _) ?_, fun q hq => k _ _ (Fr.new hq) ?_⟩
  · have e : repI x y = x := by
      rcases hs with hs | hs
      · have : x = [] := List.eq_nil_of_length_eq_zero (by rw [← e1, hs]; rfl)
        subst this
        unfold repI
        rw [List.flatten_eq_nil_iff]
        intro l hl
        exact List.eq_of_mem_replicate hl
      · subst hs
        simp [repI]
    show Fz K A H _ (cT ce (repI x y))
    rw [e]
    exact .tup n l
  · have e : (repI x y).map ce = (List.replicate y.toNat (x.map ce)).flatten := by
      unfold repI
      rw [List.map_flatten, List.map_replicate]
    refine .tup (.inl ⟨t.new hq, upd_same, ?_⟩) ?_
    · rw [List.length_flatten, List.map_replicate, List.sum_replicate_nat, e1]
      have : y.toNat * x.length ≤ 1000 * 1000 := Nat.mul_le_mul (by omega) h3
      show _ ≤ 16777216
      omega
    · show FzL K A _ _ ((repI x y).map ce)
      rw [e]
      exact (l.rep _).fr (Fr.new hq)
/-! ### sum of a tuple -/
def rSumT (K : Frag) : List V → Hp → VK → Prop := fun vs H Q => ∃ (a : Addr) (ns : List Int), vs = [V.ref a] ∧ SqT K H a (ns.map V.int) ∧ Q (.int ns.sum) H
theorem ints_at : ∀ {its : List Value} {ns : List Int}, IntsAre its ns → ∀ (i : Nat) (v : Value), its[i]? = some v → ∃ t, v = .int (ns.getD i 0) t
  | _, _, .nil, i, v, h => by simp at h
  | _, _, .cons n t r, 0, v, h => by
    simp at h
    exact ⟨t, by simp [← h]⟩
  | _, _, .cons n t r, i + 1, v, h => by
    have := ints_at r i v (by simpa using h)
    simpa using this
theorem cr_sumT {X : Cx} (hc : X.calm = true) : CallR X (.builtin "sum") (rSumT X.K) := by
  intro pins s σ H vs us Q I r h
  obtain ⟨a, ns, rfl, hs, q⟩ := h
  obtain ⟨its, rv, p, hz⟩ := I.tuple hs
  rw [Vals.ref1 r]
  have hi := rv.ints
  have hlt : a < s.heap.objs.size := by obtain ⟨_, e, _⟩ := p; exact Heap.lt_size e
  have p' : s.heap.IsTuple a its.toArray := p
  refine call_sum_walkG (wpAny_pyIter_tuple p' ⟨_, _, _, _, _, _, fun i => ns.getD i 0, rfl, Walks.tuple (A := X.A.in1) (I.ok.hd hc) _ a (Nat.ne_of_lt hlt) its.toArray, ⟨⟨_, Heap.get?_push_size _ rfl, rfl, rfl⟩, p'.push _⟩, fun b hb => ?_, fun i v hv => ?_, fun h' tk t' hk => ?_⟩)
  · show b < (s.heap.push _).objs.size
    rw [Heap.size_push]
    rcases List.mem_cons.mp hb with rfl | hb
    · exact Nat.lt_succ_self _
    · rw [List.mem_singleton.mp hb]; exact Nat.lt_succ_of_lt hlt
  · exact ints_at hi i v (by simpa using hv)
  · have e : preSum (fun i => ns.getD i 0) its.toArray.size = ns.sum := by
      rw [preSum_getD, List.take_of_length_le]
      have := hi.length
      simp; omega
    rw [e]
    refine ⟨.int _, H, I.kept fun b o eb => hk b o (fun z => ?_) (Heap.get?_push_of_some _ eb), ⟨_, rfl⟩, q⟩
    rw [List.mem_singleton.mp z] at eb
    exact absurd (Heap.lt_size eb) (Nat.lt_irrefl _)
theorem v_sumT {K : Frag} : OpL K (rSumT K) (ac (cT cI) an) cI (fun _ => True) (fun q => q.1.sum) := fun A H q vs Q _ z hc k => by
  obtain ⟨v, rfl, z1⟩ := fzl1 (ds := []) z
  obtain ⟨a, ws, rfl, n, l⟩ := z1.tup_inv
  cases fzl_ints l
  exact ⟨a, q.1, rfl, n.sq, k _ H (Fr.refl _ _) (.int _)⟩
end Y
namespace Y
open PySem PySem.Spec PyProof.Rows PySem.W L2

/-! ### sorted -/
def rSrt (K : Frag) {α : Type} (c : α → D) : List V → Hp → VK → Prop := fun vs H Q => ∃ (A : List Addr) (a : Addr) (xs : List V) (bs : List α), vs = [V.ref a] ∧ SqL K H a xs ∧ FzL K A H xs (bs.map c) ∧ AllAlike (bs.map c) ∧ Sortable (bs.map c) ∧ (∀ b ∈ bs, (c b).depth ≤ 100) ∧
  ∀ (q : Addr) (out : List V), H q = none → out.length = xs.length → FzL K A H out ((bs.mergeSort (dataLe false c)).map c) → Q (.ref q) (upd H q (.lst out))
section
variable {X : Cx} {α : Type} {c : α → D}
theorem each_fz {K : Frag} {A : List Addr} {H : Hp} : ∀ {xs : List V} {us : List Value} {bs : List α}, Vals xs us → FzL K A H xs (bs.map c) → EachIs (fun u b => ∃ v, RelV v u ∧ Fz K A H v (c b)) us bs
  | _, _, [], .nil, .nil => .nil
  | _, _, b :: bs, .cons r t, .cons z l => .cons ⟨_, r, z⟩ (each_fz t l)
theorem fz_each {K : Frag} {A : List Addr} {H : Hp} : ∀ {us : List Value} {bs : List α}, EachIs (fun u b => ∃ v, RelV v u ∧ Fz K A H v (c b)) us bs → ∃ xs : List V, Vals xs us ∧ FzL K A H xs (bs.map c)
  | _, _, .nil => ⟨[], .nil, .nil⟩
  | _, _, .cons ⟨v, r, z⟩ t => by
    obtain ⟨xs, h1, h2⟩ := fz_each t
    exact ⟨v :: xs, .cons r h1, .cons z h2⟩
theorem cr_srt (hu : X.A.units + 200 < cLine) : CallR X (.builtin "sorted") (rSrt X.K c) := by
  intro pins s σ H vs us Q I r h
  obtain ⟨A, a, xs, bs, rfl, hs, l, ha, hk, hd, q⟩ := h
  obtain ⟨its, rv, hl, hz⟩ := I.list hs
  rw [Vals.ref1 r]
  have e := each_fz rv l
  have hb : bs.length = xs.length := by
    have := l.length
    simpa using this.symm
  have hzl : xs.length ≤ sizeLine := hz
  refine sorted_data (bs := bs) (enc := c) (R := fun u b => ∃ v, RelV v u ∧ Fz X.K A H v (c b)) hl.isList e (e.mono fun u b ⟨v, r1, z⟩ => Dp.reads I _ v u z.dp r1) ha hk (by rw [hb]; exact hzl) (fun b hb => by
    have := hd b hb
    omega) fun out h1 h2 => ?_
  obtain ⟨ys, r2, z2⟩ := fz_each h2
  obtain ⟨ep, he'⟩ := PyProof.Rows.sortedAll_at s.heap its out.toArray
  have hlen : ys.length ≤ sizeLine := by rw [r2.length, h1, hb]; exact hzl
  exact ⟨.ref _, upd H (s.heap.objs.size + 1) (.lst ys), I.laid (t' := s.toks) (fun _ _ => PyProof.Rows.sortedAll_old) (Nat.le_succ _) ⟨hlen, out, ep, r2, he'⟩, rfl, q _ ys (I.hok.fresh (Nat.le_succ _)) (by rw [r2.length, h1, hb]) z2⟩
end
/-- what may be sorted, by its form -/
structure Srt {α : Type} (c : α → D) : Prop where
  al : ∀ b b', alike (c b) (c b') = true
  dp : ∀ b, (c b).depth ≤ 100
  so : (∀ b, ∃ x r, c b = .tuple (x :: r)) ∨ ∀ b, c b ≠ .none ∧ ∀ xs, c b ≠ .tuple xs
structure Alk {α : Type} (n : Nat) (c : α → D) : Prop where
  al : ∀ b b', alike (c b) (c b') = true
  dp : ∀ b, (c b).depth ≤ n
section
variable {α β γ : Type} {n m k : Nat} {c : α → D} {c' : β → D} {c'' : γ → D}
theorem alk_I : Alk 0 cI := ⟨fun _ _ => by simp [alike], fun _ => by simp [PyData.depth]⟩
theorem alk_B : Alk 0 cB := ⟨fun _ _ => by simp [alike], fun _ => by simp [PyData.depth]⟩
theorem alk_S : Alk 0 cS := ⟨fun _ _ => by simp [alike], fun _ => by simp [PyData.depth]⟩
theorem alikeAll_mapc (h : ∀ b b', alike (c b) (c b') = true) : ∀ xs ys : List α, alikeAll (xs.map c) (ys.map c) = true
  | [], _ => by simp [alikeAll]
  | _ :: _, [] => by simp [alikeAll]
  | x :: xs, y :: ys => by simp [alikeAll, h, alikeAll_mapc h xs ys]
theorem alk_L (h : Alk n c) : Alk (n + 1) (cL c) := ⟨fun x y => by simp only [alike]; exact alikeAll_mapc h.al x y, fun x => by
  have := depthAll_mapc h.dp x
  simp only [PyData.depth]; omega⟩
theorem alk_T (h : Alk n c) : Alk (n + 1) (cT c) := ⟨fun x y => by simp only [alike]; exact alikeAll_mapc h.al x y, fun x => by
  have := depthAll_mapc h.dp x
  simp only [PyData.depth]; omega⟩
theorem alk_2 (h : Alk n c) (h' : Alk m c') : Alk (max n m + 1) (c2 c c') := ⟨fun x y => by simp [alike, alikeAll, h.al, h'.al], fun x => by
  have := h.dp x.1
  have := h'.dp x.2
  simp only [PyData.depth, PyData.depthAll]; omega⟩
theorem alk_3 (h : Alk n c) (h' : Alk m c') (h'' : Alk k c'') : Alk (max n (max m k) + 1) (c3 c c' c'') := ⟨fun x y => by simp [alike, alikeAll, h.al, h'.al, h''.al], fun x => by
  have := h.dp x.1
  have := h'.dp x.2.1
  have := h''.dp x.2.2
  simp only [PyData.depth, PyData.depthAll]; omega⟩
theorem srt_I : Srt cI := ⟨alk_I.al, fun b => Nat.le_trans (alk_I.dp b) (by decide), .inr fun _ => ⟨fun e => (nomatch e), fun _ e => (nomatch e)⟩⟩
theorem srt_S : Srt cS := ⟨alk_S.al, fun b => Nat.le_trans (alk_S.dp b) (by decide), .inr fun _ => ⟨fun e => (nomatch e), fun _ e => (nomatch e)⟩⟩
theorem srt_L (h : Alk n c) (hn : n ≤ 50 := by decide) : Srt (cL c) := ⟨(alk_L h).al, fun b => Nat.le_trans ((alk_L h).dp b) (by omega), .inr fun _ => ⟨fun e => (nomatch e), fun _ e => (nomatch e)⟩⟩
theorem srt_2 (h : Alk n c) (h' : Alk m c') (hn : max n m ≤ 50 := by decide) : Srt (c2 c c') := ⟨(alk_2 h h').al, fun b => Nat.le_trans ((alk_2 h h').dp b) (by omega), .inl fun _ => ⟨_, _, rfl⟩⟩
theorem srt_3 (h : Alk n c) (h' : Alk m c') (h'' : Alk k c'') (hn : max n (max m k) ≤ 50 := by decide) : Srt (c3 c c' c'') := ⟨(alk_3 h h' h'').al, fun b => Nat.le_trans ((alk_3 h h' h'').dp b) (by omega), .inl fun _ => ⟨_, _, rfl⟩⟩
theorem Srt.all (h : Srt c) (bs : List α) : AllAlike (bs.map c) := AllAlike.of h.al
theorem Srt.sort (h : Srt c) (bs : List α) : Sortable (bs.map c) := by
  rcases h.so with z | z
  · exact Sortable.tuples z
  · exact Sortable.others z
end
def srt {α : Type} (c : α → D) (xs : List α) : List α := xs.mergeSort (dataLe false c)
section
variable {X : Cx} {B : Bd} {ow : List Nat} {E α β : Type} {Γ : E → List (Option D)} {p s : Bool} {e : Expr} {pos px py : Pos} {c : α → D} {G : E → Prop} {d : E → List α} {u : E → E}
theorem l_srt (hu : X.A.units + 200 < cLine) (hc : Srt c) (h : DA X B ow Γ true true [e] (ac (cL c) an) G (fun ε => (d ε, ())) u) (hm : X.mg "sorted" = none) (hg : Gl X "sorted" := by rfl) (he : starEach [e] X.env = (false, eval e X.env) :: starEach [] X.env := by rfl)
    (hpl : (backTo pos (starEach [] X.env)).any (·.1) = false := by rfl) : DL X B ow Γ true (.Call (.Name "sorted" px) [e] [] pos) c G (fun ε => srt c (d ε)) u :=
  ⟨(pe_callB (cr_srt (c := c) hu) hg hm (by decide +kernel) h.pa (by decide) (by decide) he hpl).weaken fun σ H Q ⟨H0, ε, rl, gg, k⟩ => ⟨H0, ε, rl, gg, fun vs H1 f1 r1 z1 => by
    have f1' : Fr [] H H1 := f1
    obtain ⟨v, rfl, z⟩ := fzl1 (ds := []) z1
    obtain ⟨a, ws, rfl, n, l⟩ := z.lst_inv
    exact ⟨B.full σ ow, a, ws, d ε, rfl, n.sq, l, hc.all _, hc.sort _, fun b _ => hc.dp b, fun q out hq hl z2 => k q _ out (f1'.back hq) (f1'.trans (Fr.new hq)) (r1.plus hq) upd_same (by rw [hl]; exact n.2) (fzl_plus hq z2)⟩⟩⟩

/-! ### isinstance -/
variable {cc : α → D} {dv : E → α}
theorem d_isi {T C : String} {x : Str} {b : Bool} (h : De X B ow Γ p s e cc G dv u) (ht : ∀ (A : List Addr) (H : Hp) (v : V) (x : α), Fz X.K A H v (cc x) → TyX X.K H v (.type T)) (hm : X.mg "isinstance" = none) (hmC : X.mg x = none) (hbC : bootBuiltins x = some (.type C)) (hb : kitB T C = some b)
    (hg : Gl X "isinstance" := by rfl) (hgC : Gl X x := by rfl) (hnC : x ≠ "__name__" := by decide) (hdC : (x == ("__debug__" : Str)) = false := by decide)
    (he : starEach [e, .Name x py] X.env = (false, eval e X.env) :: starEach [.Name x py] X.env := by rfl) (he2 : starEach [.Name x py] X.env = (false, eval (.Name x py) X.env) :: starEach [] X.env := by rfl)
    (hpl : (backTo pos (starEach [.Name x py] X.env)).any (·.1) = false := by rfl) :
    De X B ow Γ p s (.Call (.Name "isinstance" px) [e, .Name x py] [] pos) cB G (fun _ => b) u :=
  ⟨(pe_callB call_isi hg hm (by decide +kernel) (pa_cons h.pe (pa_cons (pe_bltn (v := .ty C) hgC hmC hbC rfl hnC hdC) pa_nil he2) he) (by decide) (by decide) he hpl).weaken fun σ H Q ⟨H0, ε, rl, g, k⟩ => ⟨H0, ε, rl, g, fun v H1 f r z =>
    ⟨v, .ty C, _, _, b, rfl, .ty C, ht _ _ _ _ z, kit_ty hb, k _ H1 f r (.bl b)⟩⟩⟩
end
section
variable {K : Frag} {α : Type}
theorem ty_I (A : List Addr) (H : Hp) (v : V) (x : Int) (z : Fz K A H v (cI x)) : TyX K H v (.type "int") := by cases z.int_inv; exact .base (.int x)
theorem ty_B (A : List Addr) (H : Hp) (v : V) (x : Bool) (z : Fz K A H v (cB x)) : TyX K H v (.type "bool") := by cases z.bl_inv; exact .base (.bl x)
theorem ty_S (A : List Addr) (H : Hp) (v : V) (x : Str) (z : Fz K A H v (cS x)) : TyX K H v (.type "str") := by cases z.str_inv; exact .base (.str x)
theorem ty_N (A : List Addr) (H : Hp) (v : V) (x : Unit) (z : Fz K A H v (cN x)) : TyX K H v (.type "NoneType") := by cases z.non_inv; exact .base .non
theorem ty_L {c : α → D} {g : α → List D} (hc : ∀ x, c x = .list (g x)) (A : List Addr) (H : Hp) (v : V) (x : α) (z : Fz K A H v (c x)) : TyX K H v (.type "list") := by
  rw [hc] at z
  obtain ⟨a, vs, rfl, n, l⟩ := z.lst_inv
  exact .base (.lst n.1.2)
theorem ty_T {c : α → D} {g : α → List D} (hc : ∀ x, c x = .tuple (g x)) (A : List Addr) (H : Hp) (v : V) (x : α) (z : Fz K A H v (c x)) : TyX K H v (.type "tuple") := by
  rw [hc] at z
  obtain ⟨a, vs, rfl, n, l⟩ := z.tup_inv
  rcases n with n | ⟨o, its, m, h1, h2, _⟩
  · exact .base (.tup n.2.1)
  · exact .kTuple h1 h2
/-! ### in -/
theorem flat_ints (xs : List Int) : (xs.map V.int).all flatV = true := by simp [flatV]
theorem flat_strs (xs : List Str) : (xs.map V.str).all flatV = true := by simp [flatV]
theorem inV_ints (x : Int) (xs : List Int) : inV (.int x) (xs.map V.int) = decide (x ∈ xs) := by
  unfold inV
  rw [List.any_map]
  rw [Bool.eq_iff_iff]
  simp [eqV]
theorem inV_strs (x : Str) (xs : List Str) : inV (.str x) (xs.map V.str) = decide (x ∈ xs) := by
  unfold inV
  rw [List.any_map]
  rw [Bool.eq_iff_iff]
  simp [eqV]
theorem v_inI {c : List Int → D} (hc : IsSq c cI) : Op2 K (rIn K false) cI c cB (fun _ _ => True) (fun x xs => decide (x ∈ xs)) := fun A H x y v w Q _ z1 z2 _ k => by
  cases z1.int_inv
  obtain ⟨a, vs, rfl, hs, l, _, _⟩ := hc.inv z2
  cases fzl_ints l
  exact ⟨a, _, rfl, hs, rfl, flat_ints _, by
    rw [if_neg Bool.false_ne_true, inV_ints]
    exact k _ H (Fr.refl _ _) (.bl _)⟩
theorem v_niI {c : List Int → D} (hc : IsSq c cI) : Op2 K (rIn K true) cI c cB (fun _ _ => True) (fun x xs => !decide (x ∈ xs)) := fun A H x y v w Q _ z1 z2 _ k => by
  cases z1.int_inv
  obtain ⟨a, vs, rfl, hs, l, _, _⟩ := hc.inv z2
  cases fzl_ints l
  exact ⟨a, _, rfl, hs, rfl, flat_ints _, by
    rw [if_pos rfl, inV_ints]
    exact k _ H (Fr.refl _ _) (.bl _)⟩
theorem v_inS {c : List Str → D} (hc : IsSq c cS) : Op2 K (rIn K false) cS c cB (fun _ _ => True) (fun x xs => decide (x ∈ xs)) := fun A H x y v w Q _ z1 z2 _ k => by
  cases z1.str_inv
  obtain ⟨a, vs, rfl, hs, l, _, _⟩ := hc.inv z2
  cases fzl_strs l
  exact ⟨a, _, rfl, hs, rfl, flat_strs _, by
    rw [if_neg Bool.false_ne_true, inV_strs]
    exact k _ H (Fr.refl _ _) (.bl _)⟩
theorem v_niS {c : List Str → D} (hc : IsSq c cS) : Op2 K (rIn K true) cS c cB (fun _ _ => True) (fun x xs => !decide (x ∈ xs)) := fun A H x y v w Q _ z1 z2 _ k => by
  cases z1.str_inv
  obtain ⟨a, vs, rfl, hs, l, _, _⟩ := hc.inv z2
  cases fzl_strs l
  exact ⟨a, _, rfl, hs, rfl, flat_strs _, by
    rw [if_pos rfl, inV_strs]
    exact k _ H (Fr.refl _ _) (.bl _)⟩
end
end Y
namespace Y
open PySem PySem.Spec PyProof.Rows L2

/-! ### xs[i], by values -/
theorem get_listP {X : Cx} : PGet X (rIxL X.K) := by
  intro pins s σ H o i ov iv Q I ro ri h
  obtain ⟨p, xs, j, z, rfl, rfl, hq, he, q⟩ := h
  cases ro
  obtain ⟨t, rfl⟩ := ri
  obtain ⟨its, r, pl, hz⟩ := I.list hq
  obtain ⟨n, h1, h2, h3, h4, h5⟩ := atI_get he
  obtain ⟨w, ew, rw'⟩ := r.get h2
  have hl := r.length
  have hn := line63
  have fin : EP X pins σ Q w s := ⟨z, H, I, rw', q⟩
  by_cases h0 : 0 ≤ j
  · have hj : j.toNat = n := by
      rw [seqIndex_of h0 h5] at h1
      exact Option.some.inj h1
    exact PySem.wpAny_getItem_list pl.isList h0 (by omega) (by rw [hj]; simpa using ew) fin
  · have hj : (j + (its.toArray.size : Int)).toNat = n := by
      rw [seqIndex_neg (by omega) h4] at h1
      rw [List.size_toArray, ← hl]
      exact Option.some.inj h1
    exact wpAny_getItem_list_neg pl.isList (by omega) (by rw [List.size_toArray] <;> omega) (by omega) (by rw [hj]; simpa using ew) fin

def setI {α : Type} (xs : List α) (i : Int) (v : α) : List α := match ixN xs.length i with
  | some j => xs.set j v
  | none => xs
theorem CIx.ix {α : Type} {xs : List α} {i : Int} (h : CIx xs i) : ∃ j, ixN xs.length i = some j ∧ j < xs.length := by
  obtain ⟨h1, h2⟩ := h
  unfold ixN
  by_cases h0 : 0 ≤ i
  · exact ⟨i.toNat, by rw [if_pos h0, if_pos h2], by omega⟩
  · exact ⟨(i + xs.length).toNat, by rw [if_neg h0, if_pos h1], by omega⟩
theorem setI_nat {α : Type} {xs : List α} {i : Int} {v : α} (h0 : 0 ≤ i) (h1 : i < xs.length) : setI xs i v = xs.set i.toNat v := by
  unfold setI ixN
  rw [if_pos h0, if_pos h1]
theorem setI_length {α : Type} (xs : List α) (i : Int) (v : α) : (setI xs i v).length = xs.length := by
  unfold setI
  split
  · simp
  · rfl
theorem setI_mem {α : Type} {xs : List α} {i : Int} {v x : α} (h : x ∈ setI xs i v) : x = v ∨ x ∈ xs := by
  unfold setI at h
  split at h
  · rcases List.mem_or_eq_of_mem_set h with h | h
    · exact .inr h
    · exact .inl h
  · exact .inr h
section
variable {K : Frag} {A : List Addr} {H : Hp} {α : Type} {c : α → D}
theorem FzL.setI {vs : List V} {xs : List α} {j : Nat} {v : V} {x : α} (h : FzL K A H vs (xs.map c)) (z : Fz K A H v (c x)) : FzL K A H (vs.set j v) ((xs.set j x).map c) := by
  rw [List.map_set]
  exact h.set _ z
end
section
variable {X : Cx} {B : Bd} {ow owS : List Nat} {E R S α : Type} {Γ : E → List (Option D)} {ΓS : S → List (Option D)} {cr : R → D} {ci : R → List D} {pos px py ps' : Pos} {e ei : Expr} {p : Bool} {c : α → D} {G Gi : E → Prop} {d : E → α} {di : E → Int} {u : E → E} {y : Str}
/-- target = e -/
theorem s_asgT {tg : Expr} {js : List Nat} {g : TG} {ft : α → List (Option D) → List (Option D)} (he : De X B ow Γ p true e c G d u) (hg : PG X tg g) (ht : TgR X.K c js g ft) (hjs : ∀ j ∈ js, j ∉ ow := by decide)
    (hs : swapsWithSole [tg] e pos.line X.env = pure false := by rfl) (hw : swappedStores [tg] e X.env = pure none := by rfl) (h1 : (assignEach [tg] X.env).map (·.2) = [assign tg X.env] := by rfl) :
    Ds X B ow Γ cr ci owS ΓS (.Assign [tg] e pos) G (fun ε => .nx (u ε, d ε)) ow (fun q : E × α => ft q.2 (Γ q.1)) :=
  ⟨(ps_asg he.pe hg hs hw h1).weaken fun Dn σ H ⟨H0, ε, rl, g, k⟩ => ⟨H0, ε, rl, g, fun v H' f r z => ht B H0 ow σ H' _ v _ _ hjs r z fun σ' r' _ _ => k σ' H' r'⟩⟩
/-- a list of one's own is at hand -/
theorem Rel.ownAt {K : Frag} {B : Bd} {H0 H : Hp} {σ : L2.St} {γ : List (Option D)} {j : Nat} {xs : List α} (r : Rel K B H0 ow σ H γ) (hj : j ∈ ow) (h : γ[j]? = some (some (.list (xs.map c)))) :
    ∃ a vs, σ[j]? = some (some (.ref a)) ∧ a ∉ B.base ∧ (H a = some (.lst vs) ∧ vs.length ≤ szN) ∧ FzL K (B.full σ ow) H vs (xs.map c) ∧ vs.length = xs.length := by
  obtain ⟨a, vs, ds, e1, e2, e3, e4⟩ := r.own j _ hj h
  injection e2 with e2
  subst e2
  exact ⟨a, vs, e1, r.apart a (mem_oa.mpr ⟨j, hj, e1⟩), e3, e4, by simpa using e4.length⟩
theorem s_app (j : Nat) (gt : E → List α) (hget : ∀ ε, (Γ ε)[j]? = some (some (.list ((gt ε).map c)))) (he : De X B ow Γ p true e c G d u) (hj : j ∈ ow := by decide) (hN : X.N[j]? = some y := by rfl)
    (hv : Vis X.env.scope y := by first | exact Or.inl rfl | exact Or.inr (Or.inl rfl) | exact Or.inr (Or.inr rfl)) (hd : (y == ("__debug__" : Str)) = false := by decide) (hcd : (y == ("__classdict__" : Str)) = false := by decide)
    {apos cpos : Pos} (hbase : attributeBase (.Name y py) "append" X.env (eval (.Name y py) X.env) = eval (.Name y py) X.env := by rfl)
    (hfew : ((backTo cpos (starEach [e] X.env)).all (fun x => !x.1) && (backToKw cpos (keywordEach [] X.env)).all (fun x => x.1.isSome) && decide ([e].length + ([] : List Keyword).length + (if ([] : List Keyword).isEmpty then 0 else 1) < 30)) = true := by rfl)
    (hline : (apos.endLine == cpos.line) = true := by rfl) (hst : starEach [e] X.env = (false, eval e X.env) :: starEach [] X.env := by rfl) (hpl : (backTo cpos (starEach [] X.env)).any (·.1) = false := by rfl)
    (hs : swapsWith (.Call (.Attribute (.Name y py) "append" apos) [e] [] cpos) none pos.line X.env = pure false := by rfl) :
    Ds X B ow Γ cr ci owS ΓS (.Expr (.Call (.Attribute (.Name y py) "append" apos) [e] [] cpos) pos) (fun ε => G ε ∧ (gt (u ε)).length < 16777216) (fun ε => .nx (u ε, gt (u ε) ++ [d ε])) ow (fun q : E × List α => (Γ q.1).set j (some (.list (q.2.map c)))) :=
  ⟨(ps_expr (pe_bm PySem.F.plainAttrs_list PySem.F.slot_list_append PySem.F.type_list_append mt_append (pe_var hN hv hd hcd) (pa_cons he.pe pa_nil hst) hbase hfew hline hst hpl) hs).weaken fun Dn σ H ⟨H0, ε, rl, ⟨g, gl⟩, k⟩ => by
    obtain ⟨a, vs, e1, _, e3, e4, _⟩ := rl.ownAt hj (hget ε)
    refine ⟨_, e1, .inl ⟨rfl, _, .inl (.inl e3.1)⟩, H0, ε, rl, g, fun v H1 f1 r1 z1 => ?_⟩
    obtain ⟨a', vs', e1', nb, e3', e4', hl⟩ := r1.ownAt hj (hget (u ε))
    have ea : a' = a := by rw [e1] at e1'; injection e1' with q; injection q with q; injection q with q; exact q.symm
    subst ea
    have hlt : vs'.length < 16777216 := by rw [hl]; exact gl
    refine ⟨a', vs', v, rfl, rfl, e3'.1, by rw [sizeLine_eq]; exact hlt, ?_⟩
    have ha : a' ∈ B.full σ ow := mem_full.mpr (.inr (mem_oa.mpr ⟨j, hj, e1⟩))
    refine k _ _ (r1.write hj e1 (Fr.at (by simp)) upd_same (by rw [List.length_append]; exact hlt) ?_)
    rw [List.map_append]
    exact (e4'.fr (Fr.at ha)).append (.cons (z1.fr (Fr.at ha)) .nil)⟩
/-- xs[i] = e -/
theorem s_setL {p2 : Bool} {u2 : E → E} (j : Nat) (gt : E → List α) (hget : ∀ ε, (Γ ε)[j]? = some (some (.list ((gt ε).map c)))) (he : De X B ow Γ p true e c G d u) (hi : De X B ow Γ p2 true ei cI Gi di u2) (hj : j ∈ ow := by decide) (hN : X.N[j]? = some y := by rfl)
    (hv : Vis X.env.scope y := by first | exact Or.inl rfl | exact Or.inr (Or.inl rfl) | exact Or.inr (Or.inr rfl)) (hd : (y == ("__debug__" : Str)) = false := by decide) (hcd : (y == ("__classdict__" : Str)) = false := by decide)
    (ha : ∀ v, assign (.Subscript (.Name y py) ei px) X.env v = (do
      let ov ← holding [v] (eval (.Name y py) X.env)
      let iv ← holding [v, ov] (eval ei X.env)
      standAt px
      holding [v, ov, iv] (setItem ov iv v)
      release [v, ov, iv] []) := by intro _; rfl)
    (hs : swapsWithSole [.Subscript (.Name y py) ei px] e pos.line X.env = pure false := by rfl) (hw : swappedStores [.Subscript (.Name y py) ei px] e X.env = pure none := by rfl) (h1 : (assignEach [.Subscript (.Name y py) ei px] X.env).map (·.2) = [assign (.Subscript (.Name y py) ei px) X.env] := by rfl) :
    Ds X B ow Γ cr ci owS ΓS (.Assign [.Subscript (.Name y py) ei px] e pos) (fun ε => G ε ∧ Gi (u ε) ∧ CIx (gt (u2 (u ε))) (di (u ε))) (fun ε => .nx (u2 (u ε), setI (gt (u2 (u ε))) (di (u ε)) (d ε))) ow (fun q : E × List α => (Γ q.1).set j (some (.list (q.2.map c)))) :=
  ⟨(ps_asg he.pe (pg_sub (pe_var hN hv hd hcd) hi.pe set_list ha) hs hw h1).weaken fun Dn σ H ⟨H0, ε, rl, ⟨g, g2, g3⟩, k⟩ => ⟨H0, ε, rl, g, fun v H1 f1 r1 z1 => by
    obtain ⟨a, vs, e1, _, e3, e4, hl⟩ := r1.ownAt hj (hget (u ε))
    refine ⟨_, e1, H0, u ε, r1, g2, fun w H2 f2 r2 z2 => ?_⟩
    obtain ⟨a', vs', e1', nb, e3', e4', hl'⟩ := r2.ownAt hj (hget (u2 (u ε)))
    have ea : a' = a := by rw [e1] at e1'; injection e1' with q; injection q with q; injection q with q; exact q.symm
    subst ea
    cases z2.int_inv
    obtain ⟨n, hn, _⟩ := g3.ix
    refine ⟨a', vs', _, n, rfl, rfl, e3'.1, by rw [hl']; exact hn, ?_⟩
    have ha : a' ∈ B.full σ ow := mem_full.mpr (.inr (mem_oa.mpr ⟨j, hj, e1⟩))
    refine k _ _ (r2.write hj e1 (Fr.at (by simp)) upd_same (by rw [List.length_set]; exact e3'.2) ?_)
    have es : setI (gt (u2 (u ε))) (di (u ε)) (d ε) = (gt (u2 (u ε))).set n (d ε) := by
      unfold setI
      rw [hn]
    show FzL _ _ _ _ ((setI (gt (u2 (u ε))) (di (u ε)) (d ε)).map c)
    rw [es]
    have z1' : Fz X.K (B.full σ ow) H2 v (c (d ε)) := cond_fz (s := true) (A0 := B.base) (fun a h => mem_full.mpr (.inr h)) rfl f2 z1
    exact (e4'.fr (Fr.at ha)).setI (z1'.fr (Fr.at ha))⟩⟩
/-- xs[i] op= e of ints -/
theorem s_augL {op : Operator} {f : Int → Int → Int} {dv : E → Int} (j : Nat) (gt : E → List Int) (ho : PIp X op (ipI f)) (hget : ∀ ε, (Γ ε)[j]? = some (some (.list ((gt ε).map cI)))) (hi : De X B ow Γ true true ei cI Gi di (fun ε => ε)) (he : De X B ow Γ true true e cI G dv (fun ε => ε))
    (hj : j ∈ ow := by decide) (hN : X.N[j]? = some y := by rfl) (hv : Vis X.env.scope y := by first | exact Or.inl rfl | exact Or.inr (Or.inl rfl) | exact Or.inr (Or.inr rfl)) (hd : (y == ("__debug__" : Str)) = false := by decide) (hcd : (y == ("__classdict__" : Str)) = false := by decide)
    (ha : ∀ ov iv new, augStore ei ov iv new = (do holding [new, ov, iv] (setItem ov iv new); release [new, ov, iv] []; pure .next) := by intros; rfl) :
    Ds X B ow Γ cr ci owS ΓS (.AugAssign (.Subscript (.Name y py) ei px) op e pos) (fun ε => Gi ε ∧ G ε ∧ CIx (gt ε) (di ε)) (fun ε => .nx (ε, setI (gt ε) (di ε) (f (ixD (gt ε) (di ε)) (dv ε)))) ow (fun q : E × List Int => (Γ q.1).set j (some (.list (q.2.map cI)))) :=
  ⟨(ps_augS (pe_var hN hv hd hcd) hi.pe get_listP he.pe ho set_list ha).weaken fun Dn σ H ⟨H0, ε, rl, ⟨g, g2, g3⟩, k⟩ => by
    obtain ⟨a, vs, e1, _, e3, e4, hl⟩ := rl.ownAt hj (hget ε)
    refine ⟨_, e1, H0, ε, rl, g, fun w H1 f1 r1 z1 => ?_⟩
    have f1' : Fr [] H H1 := f1
    have q1 := f1' _ _ e3.1 (by simp)
    cases z1.int_inv
    cases fzl_ints e4
    refine ⟨a, _, _, .int (ixD (gt ε) (di ε)), rfl, rfl, .inl (.inl q1), by rw [atI_map, g3.at]; rfl, H0, ε, r1, g2, fun w2 H2 f2 r2 z2 => ?_⟩
    have f2' : Fr [] H1 H2 := f2
    cases z2.int_inv
    obtain ⟨a', vs', e1', nb, e3', e4', hl'⟩ := r2.ownAt hj (hget ε)
    have ea : a' = a := by rw [e1] at e1'; injection e1' with q; injection q with q; injection q with q; exact q.symm
    subst ea
    obtain ⟨n, hn, _⟩ := g3.ix
    refine ⟨_, _, rfl, rfl, a', vs', _, n, rfl, rfl, e3'.1, by rw [hl']; exact hn, ?_⟩
    have ha : a' ∈ B.full σ ow := mem_full.mpr (.inr (mem_oa.mpr ⟨j, hj, e1⟩))
    refine k _ _ (r2.write hj e1 (Fr.at (by simp)) upd_same (by rw [List.length_set]; exact e3'.2) ?_)
    have es : setI (gt ε) (di ε) (f (ixD (gt ε) (di ε)) (dv ε)) = (gt ε).set n (f (ixD (gt ε) (di ε)) (dv ε)) := by
      unfold setI
      rw [hn]
    show FzL _ _ _ _ ((setI (gt ε) (di ε) (f (ixD (gt ε) (di ε)) (dv ε))).map cI)
    rw [es]
    exact (e4'.fr (Fr.at ha)).setI (.int _)⟩
end

/-! ### zip -/
section
variable {X : Cx} {B : Bd} {ow : List Nat} {E α β : Type} {Γ : E → List (Option D)} {p p1 p2 : Bool} {e1 e2 : Expr} {pos px : Pos} {c : α → D} {cb : β → D} {G G1 G2 : E → Prop} {d1 : E → List α} {d2 : E → List β} {u u1 u2 : E → E}
theorem walk_zipT {K : Frag} {a b : Addr} {xs ys : List V} {n : Nat} (hn : n = min xs.length ys.length) : Walk (RZ.ItzT K a b) n (fun H => SqT K H a xs ∧ SqT K H b ys) (YPair (fun i => xs[i]?) (fun i => ys[i]?)) := by
  subst hn
  refine ⟨fun i _ hi q => ?_, fun _ q => ⟨xs, ys, q.1, q.2, by omega⟩, fun i H v H' _ q y => ?_⟩
  · have h1 : i < xs.length := by omega
    have h2 : i < ys.length := by omega
    exact ⟨xs, ys, xs[i], ys[i], q.1, q.2, by simp [h1], by simp [h2]⟩
  · obtain ⟨T, x, y, h1, h2, h3, h4, h5⟩ := y
    exact ⟨T, x, y, h1, h2, h3, h4 _ q.1, h5 _ q.2⟩
theorem zip_get {xs : List α} {ys : List β} {i : Nat} {a : α} {b : β} (h1 : xs[i]? = some a) (h2 : ys[i]? = some b) : (xs.zip ys)[i]? = some (a, b) := by
  rw [List.getElem?_zip_eq_some]
  exact ⟨h1, h2⟩
theorem fzl_at {K : Frag} {A : List Addr} {H : Hp} {vs : List V} {xs : List α} {i : Nat} {v : V} (l : FzL K A H vs (xs.map c)) (h : vs[i]? = some v) : ∃ a, xs[i]? = some a ∧ Fz K A H v (c a) := by
  obtain ⟨d', h1, z1⟩ := l.get h
  rw [List.getElem?_map] at h1
  cases h2 : xs[i]? with
  | none => rw [h2] at h1; cases h1
  | some a =>
    rw [h2] at h1
    injection h1 with h1
    exact ⟨a, rfl, by rw [h1]; exact z1⟩
theorem i_zipL {elts : List Expr} {kk : Nat} {tpos : Pos} (h : DA X B ow Γ p true [e1, e2] (ac (cL c) (ac (cL cb) an)) G (fun ε => (d1 ε, d2 ε, ())) u) (hm : X.mg "zip" = none) (hg : Gl X "zip" := by rfl) (hs : starEach [e1, e2] X.env = (false, eval e1 X.env) :: starEach [e2] X.env := by rfl)
    (hpl : (backTo pos (starEach [e2] X.env)).any (·.1) = false := by rfl) : DI X B ow Γ p (.Tuple elts kk tpos) (.Call (.Name "zip" px) [e1, e2] [] pos) (c2 c cb) G (fun ε => (d1 ε).zip (d2 ε)) u :=
  ⟨(RZ.pi_zipA hg hm h.pa hs hpl).weaken fun σ H R ⟨H0, ε, rl, g, k⟩ => ⟨H0, ε, rl, g, fun v H1 f r z => by
    obtain ⟨x, y, rfl, z1, z2⟩ := fzl2 (ds := []) z
    obtain ⟨a, vs, rfl, n, l⟩ := z1.lst_inv
    obtain ⟨b, ws, rfl, n2, l2⟩ := z2.lst_inv
    have h1 : vs.length = (d1 ε).length := by simpa using l.length
    have h2 : ws.length = (d2 ε).length := by simpa using l2.length
    refine ⟨a, b, vs, ws, rfl, .inl ⟨n.sq, n2.sq, ?_⟩⟩
    have hz : ((d1 ε).zip (d2 ε)).length = min vs.length ws.length := by rw [List.length_zip, h1, h2]
    refine k _ H1 f r ((walk_zip hz).mono (fun H' f' => ⟨(n.fr f').sq, (n2.fr f').sq⟩) fun i H x H' _ f' y => yd_pair f' y fun va vb q1 q2 => ?_) (by rw [hz]; exact Nat.le_trans (Nat.min_le_left _ _) n.2)
    obtain ⟨a', i1, w1⟩ := fzl_at l q1
    obtain ⟨b', i2, w2⟩ := fzl_at l2 q2
    exact ⟨a', b', zip_get i1 i2, w1, w2⟩⟩⟩
theorem i_zipT {elts : List Expr} {kk : Nat} {tpos : Pos} (h : DA X B ow Γ p true [e1, e2] (ac (cT c) (ac (cT cb) an)) G (fun ε => (d1 ε, d2 ε, ())) u) (hm : X.mg "zip" = none) (hg : Gl X "zip" := by rfl) (hs : starEach [e1, e2] X.env = (false, eval e1 X.env) :: starEach [e2] X.env := by rfl)
    (hpl : (backTo pos (starEach [e2] X.env)).any (·.1) = false := by rfl) : DI X B ow Γ p (.Tuple elts kk tpos) (.Call (.Name "zip" px) [e1, e2] [] pos) (c2 c cb) G (fun ε => (d1 ε).zip (d2 ε)) u :=
  ⟨(RZ.pi_zipA hg hm h.pa hs hpl).weaken fun σ H R ⟨H0, ε, rl, g, k⟩ => ⟨H0, ε, rl, g, fun v H1 f r z => by
    obtain ⟨x, y, rfl, z1, z2⟩ := fzl2 (ds := []) z
    obtain ⟨a, vs, rfl, n, l⟩ := z1.tup_inv
    obtain ⟨b, ws, rfl, n2, l2⟩ := z2.tup_inv
    have h1 : vs.length = (d1 ε).length := by simpa using l.length
    have h2 : ws.length = (d2 ε).length := by simpa using l2.length
    refine ⟨a, b, vs, ws, rfl, .inr ⟨n.sq, n2.sq, ?_⟩⟩
    have hz : ((d1 ε).zip (d2 ε)).length = min vs.length ws.length := by rw [List.length_zip, h1, h2]
    refine k _ H1 f r ((walk_zipT hz).mono (fun H' f' => ⟨(n.fr f').sq, (n2.fr f').sq⟩) fun i H x H' _ f' y => yd_pair f' y fun va vb q1 q2 => ?_) (by rw [hz]; exact Nat.le_trans (Nat.min_le_left _ _) n.sz)
    obtain ⟨a', i1, w1⟩ := fzl_at l q1
    obtain ⟨b', i2, w2⟩ := fzl_at l2 q2
    exact ⟨a', b', zip_get i1 i2, w1, w2⟩⟩⟩
end
end Y
namespace Y
open PySem PySem.Spec PyProof.Rows L2

/-! ### defs by their typed bodies -/
abbrev XF (P : Program) (w : World) (K : Frag) (mg : Str → Option Value) (base : Heap) (N : List Str) (qual : Str) (st : Stmt) (f : Addr) (cdv : Value) (A : Around) (outer : List Env) (s : Shared) (H : Hp) (E : XK) : Cx :=
  (cxOf CX0 P w K mg base N qual (defScope st) f cdv A outer s H E).nox
section
variable {K : Frag} {H : Hp} {A : List Addr}
theorem fz_slots : ∀ {vs : List V} {ds : List D} {i : Nat} {d : D} {m n : Nat}, FzL K A H vs ds → (ds.map some ++ List.replicate m none)[i]? = some (some d) → ∃ v, (vs.map some ++ List.replicate n none)[i]? = some (some v) ∧ Fz K A H v d
  | [], [], i, d, m, n, .nil, h => by
    have h' : (List.replicate m (none : Option D))[i]? = some (some d) := by simpa using h
    have := List.eq_of_mem_replicate (List.mem_of_getElem? h')
    cases this
  | v :: vs, d' :: ds, 0, d, m, n, .cons z l, h => by
    have e : d' = d := by simpa using h
    exact ⟨v, rfl, e ▸ z⟩
  | v :: vs, d' :: ds, i + 1, d, m, n, .cons z l, h => by
    have h' : (ds.map some ++ List.replicate m none)[i]? = some (some d) := by simpa using h
    obtain ⟨w, e, q⟩ := fz_slots (n := n) l h'
    exact ⟨w, by simpa using e, q⟩
theorem rel_start {N : List Str} {vs : List V} {ds : List D} {m : Nat} (t : Tr A H) (z : FzL K A H vs ds) (hN : N.length = ds.length + m) : Rel K ⟨A, [], none⟩ H [] (L2.start N vs) H (ds.map some ++ List.replicate m none) := by
  have hl := z.length
  have ef : (⟨A, [], none⟩ : Bd).full (L2.start N vs) [] = A := by simp [Bd.full, Bd.base, oa]
  refine ⟨by unfold L2.start; simp; omega, fun i j a h => absurd h (by simp), fun i d _ h => ?_, fun i d h => absurd h (by simp), fun a h => absurd h (by simp [oa]), Fr.refl _ _, fun a h => absurd h (by simp [oa]), fun a h => ⟨t a h, by simp⟩, fun a h => absurd h (by simp), fun p h => absurd h (by simp)⟩
  rw [ef]
  exact fz_slots z h
theorem rel_startS {N : List Str} {p : Addr} {us ws : List V} {ds di : List D} {m : Nat} (t : Tr A H) (hp : p ∉ A) (hq : H p = some (.lst us) ∧ us.length ≤ szN) (zi : FzL K (A ++ [p]) H us di) (z : FzL K (A ++ [p]) H ws ds) (hN : N.length = ds.length + 1 + m) :
    Rel K ⟨A, [], some p⟩ H [0] (L2.start N (.ref p :: ws)) H (some (.list di) :: (ds.map some ++ List.replicate m none)) := by
  have hl := z.length
  have es : L2.start N (.ref p :: ws) = some (.ref p) :: (ws.map some ++ List.replicate (N.length - (ws.length + 1)) none) := rfl
  have ea : oa (L2.start N (.ref p :: ws)) [0] = [p] := by
    rw [es]
    simp [oa]
  have ef : (⟨A, [], some p⟩ : Bd).full (L2.start N (.ref p :: ws)) [0] = A ++ [p] := by simp [Bd.full, Bd.base, ea]
  refine ⟨by rw [es]; simp; omega, fun i j a h h' _ _ => ?_, fun i d hi h => ?_, fun i d hi h => ?_, fun a h => ?_, Fr.refl _ _, fun a h => ?_, fun a h => ⟨t a h, fun z => hp ?_⟩, fun a h => absurd h (by simp), fun q h => ⟨by simp, ?_⟩⟩
  · rw [List.mem_singleton.mp h, List.mem_singleton.mp h']
  · rw [ef]
    cases i with
    | zero => exact absurd (List.mem_singleton.mpr rfl) hi
    | succ i =>
      have h' : (ds.map some ++ List.replicate m none)[i]? = some (some d) := by simpa using h
      obtain ⟨v, e, q⟩ := fz_slots (n := N.length - (ws.length + 1)) z h'
      exact ⟨v, by rw [es]; simpa using e, q⟩
  · rw [List.mem_singleton.mp hi] at h ⊢
    have e : PyData.list di = d := by simpa using h
    rw [ef]
    exact ⟨p, us, di, by rw [es]; rfl, e.symm, hq, zi⟩
  · rw [ea] at h
    rw [List.mem_singleton.mp h]
    exact ⟨us, hq.1⟩
  · rw [ea] at h
    right
    rw [List.mem_singleton.mp h]; simp
  · have e : a = p := by simpa using z
    rw [← e]; exact h
  · injection h with h
    rw [es, h]; rfl
end
section
variable {P : Program} {w : World} {K : Frag} {mg : Str → Option Value} {base : Heap} {k : Nat} {f : Addr} {fd : FuncData} {x qual : Str} {st : Stmt} {N ps : List Str} {α β τ R N' S' : Type} {cs : α → List D} {c : β → D} {Gf : α → Prop} {fm : α → β} {cr : R → D} {ci : R → List D}
/-- how a body ends, for a def that promises fm -/
def Ends (cr : R → D) (c : β → D) (o : Out N' R S') (b : β) : Prop := match o with
  | .nx _ => c b = .none
  | .rt r => cr r = c b
  | _ => False
theorem fn_pure {owS ow' : List Nat} {ΓS : S' → List (Option D)} {Γ' : N' → List (Option D)} {G : α → Prop} {d : α → Out N' R S'} (F : Fun K x qual st f fd) (S : FnScope N ps (defScope st)) (m : Nat) (hcs : ∀ a, (cs a).length = ps.length) (hN : N.length = ps.length + m)
    (body : ∀ (A0 : List Addr) (cdv : Value) (A : Around) (outer : List Env) (s : Shared) (H : Hp) (E : XK), Room k (A.deeper (envOfC qual (defScope st) s.heap.objs.size f cdv)) → A.guards = some [] →
      Dss (XF P w K mg base N qual st f cdv A outer s H E) ⟨A0, [], none⟩ [] (fun a : α => (cs a).map some ++ List.replicate m none) cr ci owS ΓS (defBody st) G d ow' Γ')
    (hG : ∀ a, Gf a → G a) (hd : ∀ a, Gf a → Ends cr c (d a) (fm a)) : FnG P w K mg base (k + 1) f fd ps (spP K cs c Gf fm) := by
  refine fnG F S (fun vs H Q E ⟨A, a, _, z, _⟩ => by rw [z.length, hcs]) fun cdv A outer s H vs Q E hr hg ⟨A0, a, t, z, g, q⟩ => ⟨_, (body A0 cdv A outer s H E hr hg).pss, H, a, rel_start t z (by rw [hN, hcs]), hG a g, ?_⟩
  have e := hd a g
  revert e
  cases d a with
  | nx n => exact fun e σ' H' r => q _ H' r.fr (by rw [e]; exact .non)
  | rt r => exact fun e v H' ex => q v H' ex.1 (by
    have z1 : Fz K ((⟨A0, [], none⟩ : Bd).base ++ (none : Option Addr).toList) H' v (cr r) := ex.2.1
    rw [← e]; simpa [Bd.base] using z1)
  | bk _ => exact fun e => e.elim
  | ct _ => exact fun e => e.elim
/-- a def that may change its first argument, a list -/
theorem fn_state {cb : τ → List D} {GS : α × τ → Prop} {fS : α × τ → β × τ} {owS ow' : List Nat} {ΓS : S' → List (Option D)} {Γ' : N' → List (Option D)} {G : α × τ → Prop} {d : α × τ → Out N' R S'} (F : Fun K x qual st f fd) (S : FnScope N ps (defScope st)) (m : Nat)
    (hcs : ∀ a, (cs a).length + 1 = ps.length) (hN : N.length = ps.length + m)
    (body : ∀ (A0 : List Addr) (p : Addr) (cdv : Value) (A : Around) (outer : List Env) (s : Shared) (H : Hp) (E : XK), Room k (A.deeper (envOfC qual (defScope st) s.heap.objs.size f cdv)) → A.guards = some [] →
      Dss (XF P w K mg base N qual st f cdv A outer s H E) ⟨A0, [], some p⟩ [0] (fun a : α × τ => some (.list (cb a.2)) :: ((cs a.1).map some ++ List.replicate m none)) cr ci owS ΓS (defBody st) G d ow' Γ')
    (hG : ∀ a, GS a → G a) (hd : ∀ a, GS a → ∃ r, d a = .rt r ∧ cr r = c (fS a).1 ∧ ci r = cb (fS a).2) : FnG P w K mg base (k + 1) f fd ps (spS K cs cb c GS fS) := by
  refine fnG F S (fun vs H Q E ⟨A, p, us, ws, a, t, _, _, e, _, _, z, _⟩ => by rw [e, List.length_cons, z.length, hcs]) fun cdv A outer s H vs Q E hr hg ⟨A0, p, us, ws, a, t, tr, hp, e, hq, zi, z, g, q⟩ => ?_
  subst e
  refine ⟨_, (body A0 p cdv A outer s H E hr hg).pss, H, (a, t), rel_startS tr hp hq zi z (by rw [hN, ← hcs a]), hG _ g, ?_⟩
  obtain ⟨r, e1, e2, e3⟩ := hd _ g
  rw [e1]
  intro v H' ex
  obtain ⟨us', h1, h2⟩ := ex.2.2 p rfl
  have eb : (⟨A0, [], some p⟩ : Bd).base ++ (some p).toList = A0 ++ [p] := by simp [Bd.base]
  have z1 := ex.2.1
  rw [eb, e2] at z1
  have h2' : FzL K ((⟨A0, [], some p⟩ : Bd).base ++ (some p).toList) H' us' (ci r) := h2
  rw [eb, e3] at h2'
  exact q v H' us' ex.1 h1.1 h1.2 h2' z1
end
end Y
namespace Y
open PySem PySem.Spec PyProof.Rows L2

/-! ### comprehensions whose items change the state -/
section
variable {τ α β : Type}
def lcS (f : τ → α → β × τ) : τ → List α → List β × τ
  | s, [] => ([], s)
  | s, x :: xs => ((f s x).1 :: (lcS f (f s x).2 xs).1, (lcS f (f s x).2 xs).2)
def lcG (g : τ → α → Prop) (f : τ → α → β × τ) : τ → List α → Prop
  | _, [] => True
  | s, x :: xs => g s x ∧ lcG g f (f s x).2 xs
theorem lcS_app (f : τ → α → β × τ) : ∀ (xs ys : List α) (s : τ), lcS f s (xs ++ ys) = ((lcS f s xs).1 ++ (lcS f (lcS f s xs).2 ys).1, (lcS f (lcS f s xs).2 ys).2)
  | [], ys, s => rfl
  | x :: xs, ys, s => by
    show lcS f s (x :: (xs ++ ys)) = _
    simp only [lcS]
    rw [lcS_app f xs ys]
    rfl
theorem lcS_length (f : τ → α → β × τ) : ∀ (xs : List α) (s : τ), (lcS f s xs).1.length = xs.length
  | [], s => rfl
  | x :: xs, s => by simp only [lcS, List.length_cons, lcS_length f xs]
theorem lcG_app (g : τ → α → Prop) (f : τ → α → β × τ) : ∀ (xs ys : List α) (s : τ), lcG g f s (xs ++ ys) → lcG g f (lcS f s xs).2 ys
  | [], ys, s, h => h
  | x :: xs, ys, s, h => lcG_app g f xs ys _ h.2
end
section
variable {X : Cx} {B : Bd} {ow : List Nat} {E α β τ : Type} {Γ : E → List (Option D)} {pos : Pos} {tg e elt : Expr} {c : α → D} {ce : β → D} {G : E → Prop} {xs : E → List α} {ui : E → E} {js : List Nat} {g : TG} {ft : α → List (Option D) → List (Option D)} {Ge : E × α → Prop} {de : E × α → β} {us : E × α → τ} {own : List (Str × Nat)} {scope : Scope} {p pe : Bool}
def tTBs {E : Type} (K : Frag) (ow : List Nat) (Γ : E → List (Option D)) : TT := fun σ H Q => ∃ B', tTs K B' ow Γ true (fun _ => True) (fun _ => true) (fun q => q) σ H Q
def tSBs {E β : Type} (K : Frag) (ow : List Nat) (Γ : E → List (Option D)) (ce : β → D) (G : E → Prop) (d : E → β) (u : E → E) : TE := fun σ H Q => ∃ B', tS K B' ow Γ false true ce G d u σ H Q
/-- what a target leaves as it was -/
def TgF {α : Type} (js : List Nat) (f : α → List (Option D) → List (Option D)) : Prop := ∀ a γ i, i ∉ js → (f a γ)[i]? = γ[i]?
theorem tgf_name {α : Type} {c : α → D} (j : Nat) : TgF [j] fun a γ => γ.set j (some (c a)) := fun a γ i hi => List.getElem?_set_ne fun e => hi (by simp [e])
theorem tgf_pair {α β : Type} {ca : α → D} {cb : β → D} (j k : Nat) : TgF (α := α × β) [j, k] fun q γ => (γ.set j (some (ca q.1))).set k (some (cb q.2)) := fun a γ i hi => by
  rw [List.getElem?_set_ne fun e => hi (by simp [e]), List.getElem?_set_ne fun e => hi (by simp [e])]
theorem wipeG_out {γ : List (Option D)} {i : Nat} : ∀ {vs : List Nat}, i ∉ vs → (wipeG γ vs)[i]? = γ[i]?
  | [], _ => rfl
  | v :: vs, h => by
    unfold wipeG
    rw [List.getElem?_set_ne fun e => h (by simp [e])]
    exact wipeG_out fun z => h (List.mem_cons_of_mem _ z)
theorem lc_state (st : E → τ) (put : E → τ → E) (hpp : ∀ ε t t', put (put ε t) t' = put ε t') (hps : ∀ ε, put ε (st ε) = ε) (hsp : ∀ ε t, st (put ε t) = t) (ht : TgR X.K c js g ft) (hft : TgF js ft) (hlenE : ∀ ε t t', (Γ (put ε t)).length = (Γ (put ε t')).length) (hfz : ∀ ε t t' i d, i ∉ ow → (Γ (put ε t))[i]? = some (some d) → (Γ (put ε t'))[i]? = some (some d)) (hjv : ∀ j ∈ js, j ∈ own.map (·.2)) (hvo : ∀ j ∈ own.map (·.2), j ∉ ow) {σ : L2.St} {H : Hp} {Q : VK}
    (h : tFs X.K B ow Γ false ce (fun ε => G ε ∧ lcG (fun s x => Ge (put (ui ε) s, x)) (fun s x => (de (put (ui ε) s, x), us (put (ui ε) s, x))) (st (ui ε)) (xs ε)) (fun ε => (lcS (fun s x => (de (put (ui ε) s, x), us (put (ui ε) s, x))) (st (ui ε)) (xs ε)).1) (fun ε => put (ui ε) (lcS (fun s x => (de (put (ui ε) s, x), us (put (ui ε) s, x))) (st (ui ε)) (xs ε)).2) σ H Q) :
    tLc (tIs X.K B ow Γ p c G xs ui) g (tTBs X.K ow (fun q : E × α => ft q.2 (wipeG (Γ q.1) (own.map (·.2))))) (tSBs X.K ow (fun q : E × α => ft q.2 (wipeG (Γ q.1) (own.map (·.2)))) ce Ge de (fun q => (put q.1 (us q), q.2))) (own.map (·.2)) σ H Q := by
    obtain ⟨H0, ε, rl, ⟨g1, g2⟩, k⟩ := h
    refine ⟨H0, ε, rl, g1, fun J H1 f1 r1 w hsz Dl hD => ?_⟩
    have h0 : H0 Dl = none := (r1.h0 hD).resolve_right (r1.notio hD)
    let F : τ → α → β × τ := fun s x => (de (put (ui ε) s, x), us (put (ui ε) s, x))
    have fown : Fr (oa σ ow) H H1 := by
      cases p with
      | true => exact Fr.nil f1
      | false => exact f1
    have hDf0 : Dl ∉ oa σ ow := fun z => by
      obtain ⟨xs', e2⟩ := r1.trk Dl z
      rw [e2] at hD; cases hD
    refine lc_it w (g := g) (vs := own.map (·.2)) (σ := σ) (Qd := fun H => Q (.ref Dl) H) (fun i H' => Rel X.K (B.plus Dl) H0 ow σ H' (Γ (put (ui ε) (lcS F (st (ui ε)) ((xs ε).take i)).2)) ∧ Fr (oa σ ow) H1 H' ∧ ∃ ws, H' Dl = some (.lst ws) ∧ FzL X.K ((B.plus Dl).full σ ow) H' ws ((lcS F (st (ui ε)) ((xs ε).take i)).1.map ce))
      ⟨by rw [List.take_zero]; show Rel X.K (B.plus Dl) H0 ow σ _ (Γ (put (ui ε) (st (ui ε)))); rw [hps]; exact r1.plus hD, Fr.new hD, [], upd_same, by rw [List.take_zero]; exact .nil⟩ (fun i H' _ q => q.2.1.mono fun b hb => mem_full.mpr (.inr hb)) ?_ ?_
    · rintro i x H' H2 hlt ⟨r', f', ws, hw, hz⟩ ⟨fy, a, ea, hy⟩
      have hA : ∀ b ∈ (B.plus Dl).full σ ow, b ∈ B.full σ ow ∨ H1 b = none := fun b hb => by
        simp only [Bd.full, Bd.base, Bd.plus, List.mem_append, List.mem_cons] at hb ⊢
        rcases hb with (h | h | h) | h
        · exact .inl (.inl (.inl h))
        · rw [h]; exact .inr hD
        · exact .inl (.inl (.inr h))
        · exact .inl (.inr h)
      have zx := hy _ hA (f'.mono fun b hb => List.mem_append_left _ (mem_full.mpr (.inr hb))) r'.tracked
      have r2 := r'.grow fy
      have ew : oa (wipe σ (own.map (·.2))) ow = oa σ ow := oa_congr fun i hi => wipe_out fun z => hvo i z hi
      have ef : (B.plus Dl).full (wipe σ (own.map (·.2))) ow = (B.plus Dl).full σ ow := by unfold Bd.full; rw [ew]
      refine ht (B.plus Dl) H0 ow (wipe σ (own.map (·.2))) H2 (wipeG (Γ (put (ui ε) (lcS F (st (ui ε)) ((xs ε).take i)).2)) (own.map (·.2))) x a _ (fun j hj => hvo j (hjv j hj)) (r2.wipe hvo) (by rw [ef]; exact zx) fun σ2 r3 hs2 hl2 => ?_
      refine ⟨wipe_eq (by rw [hl2, wipe_length]) hjv hs2, B.plus Dl, H0, (put (ui ε) (lcS F (st (ui ε)) ((xs ε).take i)).2, a), r3, trivial, fun H3 f3 r4 => ?_⟩
      have f3' : Fr [] H2 H3 := f3
      have fall : Fr [] H' H3 := fy.trans f3'
      have eo2 : oa σ2 ow = oa σ ow := (oa_congr fun i hi => hs2 i fun z => hvo i (hjv i z) hi).trans ew
      have hd : (xs ε).drop i = a :: (xs ε).drop (i + 1) := by
        obtain ⟨hl, e⟩ := List.getElem?_eq_some_iff.mp ea
        rw [List.drop_eq_getElem_cons hl, e]
      have hta : (xs ε).take (i + 1) = (xs ε).take i ++ [a] := by rw [List.take_add_one, ea]; rfl
      have hga : Ge (put (ui ε) (lcS F (st (ui ε)) ((xs ε).take i)).2, a) := by
        have := lcG_app _ F ((xs ε).take i) ((xs ε).drop i) (st (ui ε)) (by rw [List.take_append_drop]; exact g2)
        rw [hd] at this
        exact this.1
      have hlen : ws.length ≤ i := by
        have h1 := hz.length
        rw [List.length_map, lcS_length] at h1
        rw [h1, List.length_take]; exact Nat.min_le_left _ _
      show (if true = true then _ else _)
      rw [if_pos rfl]
      refine ⟨B.plus Dl, H0, (put (ui ε) (lcS F (st (ui ε)) ((xs ε).take i)).2, a), r4, hga, fun v H4 f4 r5 z5 => ⟨ws, ?_, ?_, ?_⟩⟩
      · have f4' : Fr (oa σ2 ow) H3 H4 := f4
        exact f4' _ _ (fall _ _ hw (by simp)) (by rw [eo2]; exact hDf0)
      · rw [sizeLine_eq]
        have : (xs ε).length ≤ 16777216 := hsz
        omega
      · have f4' : Fr (oa σ ow) H3 H4 := by
          have f4' : Fr (oa σ2 ow) H3 H4 := f4
          rw [eo2] at f4'; exact f4'
        have fa : Fr (oa σ ow) H' H4 := (fall.mono (by simp)).trans f4'
        have hDx : Dl ∈ (B.plus Dl).ex := by simp [Bd.plus]
        have hDf : Dl ∈ (B.plus Dl).full σ ow := List.mem_append_left _ (List.mem_append_right _ hDx)
        have e6 : lcS F (st (ui ε)) ((xs ε).take (i + 1)) = ((lcS F (st (ui ε)) ((xs ε).take i)).1 ++ [de (put (ui ε) (lcS F (st (ui ε)) ((xs ε).take i)).2, a)], us (put (ui ε) (lcS F (st (ui ε)) ((xs ε).take i)).2, a)) := by
          rw [hta, lcS_app]; rfl
        rw [e6]
        have r6 : Rel X.K (B.plus Dl) H0 ow σ H4 (Γ (put (ui ε) (us (put (ui ε) (lcS F (st (ui ε)) ((xs ε).take i)).2, a)))) := by
          have hσ2 : ∀ i ∈ ow, σ2[i]? = σ[i]? := fun i hi => (hs2 i fun z => hvo i (hjv i z) hi).trans (wipe_out fun z => hvo i z hi)
          refine ⟨by rw [r'.len]; exact hlenE _ _ _, r'.one, fun i d hi h => ?_, fun i d hi h => ?_, ?_, r5.fr, ?_, r5.a0, ?_, r'.io⟩
          · obtain ⟨v', e1, z1⟩ := r'.fz i d hi (hfz _ _ _ _ _ hi h)
            exact ⟨v', e1, z1.fr (fa.mono fun b hb => mem_full.mpr (.inr hb))⟩
          · obtain ⟨a', vs', ds', e1, e2, e3, e4⟩ := r5.own i d hi (by
              show (ft a (wipeG (Γ (put (put (ui ε) _) (us (put (ui ε) _, a)))) (own.map (·.2))))[i]? = _
              rw [hft _ _ _ fun z => hvo i (hjv i z) hi, wipeG_out fun z => hvo i z hi, hpp]
              exact h)
            refine ⟨a', vs', ds', by rw [← hσ2 i hi]; exact e1, e2, e3, ?_⟩
            unfold Bd.full at e4 ⊢
            rw [eo2] at e4
            exact e4
          · rw [← eo2]; exact r5.trk
          · rw [← eo2]; exact r5.new
          · rw [← eo2]; exact r5.xt
        refine ⟨r6.writeEx hDx (r1.notio hD) h0, fun b o eb nb => ?_, ws ++ [v], upd_same, ?_⟩
        · have hbD : b ≠ Dl := fun z => by rw [z, hD] at eb; cases eb
          rw [upd_ne hbD]
          exact (f'.trans fa) b o eb nb
        · rw [List.map_append]
          have z5' : Fz X.K ((B.plus Dl).full σ ow) H4 v (ce (de (put (ui ε) (lcS F (st (ui ε)) ((xs ε).take i)).2, a))) := by
            have z6 : Fz X.K ((B.plus Dl).full σ2 ow) H4 v (ce (de (put (ui ε) (lcS F (st (ui ε)) ((xs ε).take i)).2, a))) := z5
            unfold Bd.full at z6 ⊢
            rw [eo2] at z6
            exact z6
          exact ((hz.fr (fa.mono fun b hb => mem_full.mpr (.inr hb))).fr (Fr.at hDf)).append (.cons (z5'.fr (Fr.at hDf)) .nil)
    · rintro H' ⟨r', f', ws, hw, hz⟩
      rw [List.take_length] at hz r'
      have hb : H Dl = none := by
        cases e : H Dl with
        | none => rfl
        | some o =>
          have := fown Dl o e hDf0
          rw [hD] at this; cases this
      refine k Dl H' ws hb (fown.trans f') r' hw ?_ hz
      have h1 := hz.length
      rw [List.length_map, lcS_length] at h1
      have : (xs ε).length ≤ 16777216 := hsz
      show ws.length ≤ 16777216
      omega
theorem d_lcS (st : E → τ) (put : E → τ → E) (hpp : ∀ ε t t', put (put ε t) t' = put ε t') (hps : ∀ ε, put ε (st ε) = ε) (hsp : ∀ ε t, st (put ε t) = t) (ht : TgR X.K c js g ft) (hft : TgF js ft) (hlenE : ∀ ε t t', (Γ (put ε t)).length = (Γ (put ε t')).length) (hfz : ∀ ε t t' i d, i ∉ ow → (Γ (put ε t))[i]? = some (some d) → (Γ (put ε t'))[i]? = some (some d)) (hi : DI X B ow Γ p tg e c G xs ui) (ok : BlkOk X.N X.env.scope scope own)
    (hg : ∀ (s : Shared) (H : Hp) (C : Addr) (cl : List (Str × Addr)) (fp : List Addr), PG (X.blk s H scope (compEnvC scope cl C X.env) fp) tg g)
    (hE : ∀ (s : Shared) (H : Hp) (C : Addr) (cl : List (Str × Addr)) (fp : List Addr) (B' : Bd), De (X.blk s H scope (compEnvC scope cl C X.env) fp) B' ow (fun q : E × α => ft q.2 (wipeG (Γ q.1) (own.map (·.2)))) false true elt ce Ge de (fun q => (put q.1 (us q), q.2)))
    (hjv : ∀ j ∈ js, j ∈ own.map (·.2) := by decide) (hvo : ∀ j ∈ own.map (·.2), j ∉ ow := by decide) (hN : X.N.Nodup := by assumption) (hc : X.calm = true := by rfl) (hs : ∀ x, foldedSetIterable e X.env x = pure x := by intro _; rfl) :
    DL X B ow Γ false (.ListComp elt [⟨tg, e, [], 0⟩] scope pos) ce (fun ε => G ε ∧ lcG (fun s x => Ge (put (ui ε) s, x)) (fun s x => (de (put (ui ε) s, x), us (put (ui ε) s, x))) (st (ui ε)) (xs ε))
      (fun ε => (lcS (fun s x => (de (put (ui ε) s, x), us (put (ui ε) s, x))) (st (ui ε)) (xs ε)).1) (fun ε => put (ui ε) (lcS (fun s x => (de (put (ui ε) s, x), us (put (ui ε) s, x))) (st (ui ε)) (xs ε)).2) :=
  ⟨(pe_lc (tt := tTBs X.K ow (fun q : E × α => ft q.2 (wipeG (Γ q.1) (own.map (·.2))))) (te := tSBs X.K ow (fun q : E × α => ft q.2 (wipeG (Γ q.1) (own.map (·.2)))) ce Ge de (fun q => (put q.1 (us q), q.2))) hc hN hi.pi ok hg
      (fun s H C cl fp => ⟨fun pins s' σ H' Q I ⟨B', H0, ε, r, _, k⟩ => pts_nil.run pins s' σ H' Q I (k H' (Fr.refl _ _) r)⟩) (fun s H C cl fp => ⟨fun pins s' σ H' Q I ⟨B', q⟩ => (hE s H C cl fp B').pe.run pins s' σ H' Q I q⟩) hs).weaken fun σ H Q h => lc_state st put hpp hps hsp ht hft hlenE hfz hjv hvo h⟩
variable {owS : List Nat} {R S : Type} {ΓS : S → List (Option D)} {cr : R → D} {ci : R → List D} {spos py : Pos} {y : Str}
theorem s_asgLcS (i : Nat) (hsw : swapsWith (.ListComp elt [⟨tg, e, [], 0⟩] scope pos) (some (.Name y py)) spos.line X.env = pure true) (st : E → τ) (put : E → τ → E) (hpp : ∀ ε t t', put (put ε t) t' = put ε t') (hps : ∀ ε, put ε (st ε) = ε) (hsp : ∀ ε t, st (put ε t) = t) (ht : TgR X.K c js g ft) (hft : TgF js ft) (hlenE : ∀ ε t t', (Γ (put ε t)).length = (Γ (put ε t')).length) (hfz : ∀ ε t t' i d, i ∉ ow → (Γ (put ε t))[i]? = some (some d) → (Γ (put ε t'))[i]? = some (some d)) (hi : DI X B ow Γ p tg e c G xs ui) (ok : BlkOk X.N X.env.scope scope own)
    (hg : ∀ (s : Shared) (H : Hp) (C : Addr) (cl : List (Str × Addr)) (fp : List Addr), PG (X.blk s H scope (compEnvC scope cl C X.env) fp) tg g)
    (hE : ∀ (s : Shared) (H : Hp) (C : Addr) (cl : List (Str × Addr)) (fp : List Addr) (B' : Bd), De (X.blk s H scope (compEnvC scope cl C X.env) fp) B' ow (fun q : E × α => ft q.2 (wipeG (Γ q.1) (own.map (·.2)))) false true elt ce Ge de (fun q => (put q.1 (us q), q.2)))
    (hio : i ∉ ow := by decide) (hjv : ∀ j ∈ js, j ∈ own.map (·.2) := by decide) (hvo : ∀ j ∈ own.map (·.2), j ∉ ow := by decide) (hy : X.N[i]? = some y := by rfl) (hyl : X.env.scope.names.lookup y = some .local := by rfl) (hN : X.N.Nodup := by assumption) (hc : X.calm = true := by rfl) (hs : ∀ x, foldedSetIterable e X.env x = pure x := by intro _; rfl) :
    Ds X B ow Γ cr ci owS ΓS (.Assign [.Name y py] (.ListComp elt [⟨tg, e, [], 0⟩] scope pos) spos) (fun ε => G ε ∧ lcG (fun s x => Ge (put (ui ε) s, x)) (fun s x => (de (put (ui ε) s, x), us (put (ui ε) s, x))) (st (ui ε)) (xs ε))
      (fun ε => .nx (put (ui ε) (lcS (fun s x => (de (put (ui ε) s, x), us (put (ui ε) s, x))) (st (ui ε)) (xs ε)).2, (lcS (fun s x => (de (put (ui ε) s, x), us (put (ui ε) s, x))) (st (ui ε)) (xs ε)).1)) ow (fun q : E × List β => (Γ q.1).set i (some (cL ce q.2))) :=
  ⟨(ps_setLc (tt := tTBs X.K ow (fun q : E × α => ft q.2 (wipeG (Γ q.1) (own.map (·.2))))) (te := tSBs X.K ow (fun q : E × α => ft q.2 (wipeG (Γ q.1) (own.map (·.2)))) ce Ge de (fun q => (put q.1 (us q), q.2))) hc hN hy hyl hsw hi.pi ok hg
      (fun s H C cl fp => ⟨fun pins s' σ H' Q I ⟨B', H0, ε, r, _, k⟩ => pts_nil.run pins s' σ H' Q I (k H' (Fr.refl _ _) r)⟩) (fun s H C cl fp => ⟨fun pins s' σ H' Q I ⟨B', q⟩ => (hE s H C cl fp B').pe.run pins s' σ H' Q I q⟩) hs).weaken fun Dn σ H ⟨H0, ε, rl, g, k⟩ => by
    refine lc_state (Q := fun x H1 => Dn.nx (σ.set i (some x)) H1) st put hpp hps hsp ht hft hlenE hfz hjv hvo ⟨H0, ε, rl, g, fun q H' vs hq f r hv hz z => ?_⟩
    have z2 : Fz X.K (B.full σ ow) H' (.ref q) (cL ce (lcS (fun s x => (de (put (ui ε) s, x), us (put (ui ε) s, x))) (st (ui ε)) (xs ε)).1) := by
      refine .lst ⟨⟨fun h => ?_, hv⟩, hz⟩ (z.sub full_plus)
      rcases mem_full.mp h with h | h
      · exact rl.base_trk q h hq
      · exact (r.xt q (by simp [Bd.plus])).2 h
    exact k _ H' (r.unplus.set hio z2)⟩
theorem s_ownLcS (i : Nat) (hsw : swapsWith (.ListComp elt [⟨tg, e, [], 0⟩] scope pos) (some (.Name y py)) spos.line X.env = pure true) (st : E → τ) (put : E → τ → E) (hpp : ∀ ε t t', put (put ε t) t' = put ε t') (hps : ∀ ε, put ε (st ε) = ε) (hsp : ∀ ε t, st (put ε t) = t) (ht : TgR X.K c js g ft) (hft : TgF js ft) (hlenE : ∀ ε t t', (Γ (put ε t)).length = (Γ (put ε t')).length) (hfz : ∀ ε t t' i d, i ∉ ow → (Γ (put ε t))[i]? = some (some d) → (Γ (put ε t'))[i]? = some (some d)) (hi : DI X B ow Γ p tg e c G xs ui) (ok : BlkOk X.N X.env.scope scope own)
    (hg : ∀ (s : Shared) (H : Hp) (C : Addr) (cl : List (Str × Addr)) (fp : List Addr), PG (X.blk s H scope (compEnvC scope cl C X.env) fp) tg g)
    (hE : ∀ (s : Shared) (H : Hp) (C : Addr) (cl : List (Str × Addr)) (fp : List Addr) (B' : Bd), De (X.blk s H scope (compEnvC scope cl C X.env) fp) B' ow (fun q : E × α => ft q.2 (wipeG (Γ q.1) (own.map (·.2)))) false true elt ce Ge de (fun q => (put q.1 (us q), q.2)))
    {ow' : List Nat} (hl : ∀ ε, i < (Γ ε).length) (h' : ∀ j, j ∈ ow' ↔ j ∈ ow ∨ j = i) (h0 : B.io ≠ none → i ≠ 0) (hjv : ∀ j ∈ js, j ∈ own.map (·.2) := by decide) (hvo : ∀ j ∈ own.map (·.2), j ∉ ow := by decide) (hy : X.N[i]? = some y := by rfl) (hyl : X.env.scope.names.lookup y = some .local := by rfl) (hN : X.N.Nodup := by assumption) (hc : X.calm = true := by rfl) (hs : ∀ x, foldedSetIterable e X.env x = pure x := by intro _; rfl) :
    Ds X B ow Γ cr ci owS ΓS (.Assign [.Name y py] (.ListComp elt [⟨tg, e, [], 0⟩] scope pos) spos) (fun ε => G ε ∧ lcG (fun s x => Ge (put (ui ε) s, x)) (fun s x => (de (put (ui ε) s, x), us (put (ui ε) s, x))) (st (ui ε)) (xs ε))
      (fun ε => .nx (put (ui ε) (lcS (fun s x => (de (put (ui ε) s, x), us (put (ui ε) s, x))) (st (ui ε)) (xs ε)).2, (lcS (fun s x => (de (put (ui ε) s, x), us (put (ui ε) s, x))) (st (ui ε)) (xs ε)).1)) ow' (fun q : E × List β => (Γ q.1).set i (some (.list (q.2.map ce)))) :=
  ⟨(ps_setLc (tt := tTBs X.K ow (fun q : E × α => ft q.2 (wipeG (Γ q.1) (own.map (·.2))))) (te := tSBs X.K ow (fun q : E × α => ft q.2 (wipeG (Γ q.1) (own.map (·.2)))) ce Ge de (fun q => (put q.1 (us q), q.2))) hc hN hy hyl hsw hi.pi ok hg
      (fun s H C cl fp => ⟨fun pins s' σ H' Q I ⟨B', H0, ε, r, _, k⟩ => pts_nil.run pins s' σ H' Q I (k H' (Fr.refl _ _) r)⟩) (fun s H C cl fp => ⟨fun pins s' σ H' Q I ⟨B', q⟩ => (hE s H C cl fp B').pe.run pins s' σ H' Q I q⟩) hs).weaken fun Dn σ H ⟨H0, ε, rl, g, k⟩ =>
    lc_state (Q := fun x H1 => Dn.nx (σ.set i (some x)) H1) st put hpp hps hsp ht hft hlenE hfz hjv hvo ⟨H0, ε, rl, g, fun q H' vs hq f r hv hz z => k _ H' (r.setOwn hv hz ((rl.h0 hq).resolve_right (rl.notio hq)) (fun h => rl.base_trk q h hq) z (hl _) h' h0)⟩⟩
end
end Y
namespace Y
open PySem PySem.Spec L2

section
variable {E M R S α : Type}
@[reducible] def Out.keep (o : Out M R S) (ε : E) : Out (E × M) R S := match o with
  | .nx m => .nx (ε, m)
  | .rt r => .rt r
  | .bk s => .bk s
  | .ct s => .ct s
def Out.ret : Out Empty R Empty → R
  | .rt r => r
  | .nx e => nomatch e
  | .bk e => nomatch e
  | .ct e => nomatch e
def Out.und : Out M Unit Empty → Unit := fun _ => ()
def forN (g : M × α → Prop) (f : M × α → M) : M → List α → Prop
  | _, [] => True
  | t, x :: xs => g (t, x) ∧ forN g f (f (t, x)) xs
theorem forG_nx {g : M × α → Prop} {f : M × α → M} : ∀ (xs : List α) (t : M), forN g f t xs → forG (R := R) g (fun q => .nx (f q)) t xs
  | [], _, _ => trivial
  | x :: xs, t, h => ⟨h.1, forG_nx xs _ h.2⟩
/-- an invariant of the loop -/
theorem forN_of {g : M × α → Prop} {f : M × α → M} (P : M → List α → Prop) (hg : ∀ t x xs, P t (x :: xs) → g (t, x) ∧ P (f (t, x)) xs) : ∀ (xs : List α) (t : M), P t xs → forN g f t xs
  | [], _, _ => trivial
  | x :: xs, t, h => ⟨(hg t x xs h).1, forN_of P hg xs _ (hg t x xs h).2⟩
end
section
variable {X : Cx} {B : Bd} {ow ow' owS : List Nat} {E M N L R S α : Type} {Γ : E → List (Option D)} {ΓL : E → M → List (Option D)} {ΓS : S → List (Option D)} {Γ' : N → List (Option D)} {cr : R → D} {ci : R → List D} {st : Stmt} {body a b : List Stmt} {pos : Pos} {tg e : Expr} {p : Bool} {c : α → D} {G : E → Prop} {u : E → E}
  {xs : E → List α} {js : List Nat} {g : TG} {ft : α → List (Option D) → List (Option D)}
theorem Ds.is {d d' : E → Out N R S} {G' : E → Prop} (h : Ds X B ow Γ cr ci owS ΓS st G d ow' Γ') (hg : ∀ ε, G' ε → G ε) (hd : ∀ ε, G' ε → d ε = d' ε) : Ds X B ow Γ cr ci owS ΓS st G' d' ow' Γ' :=
  ⟨h.ps.weaken fun Dn σ H ⟨H0, ε, rl, g, k⟩ => ⟨H0, ε, rl, hg ε g, by rw [hd ε g]; exact k⟩⟩
theorem s_forP {gb : E → M × α → Prop} {db : E → M × α → Out M R M} (m0 : E → M) (hi : DI X B ow Γ p tg e c G xs u) (hc0 : ∀ (H0 : Hp) ε σ H, Rel X.K B H0 ow σ H (Γ ε) → Rel X.K B H0 ow σ H (ΓL ε (m0 ε))) (hg : PG X tg g) (ht : TgR X.K c js g ft)
    (hb : ∀ ε, Dss X B ow (fun q : M × α => ft q.2 (ΓL ε q.1)) cr ci ow (ΓL ε) body (gb ε) (db ε) ow (ΓL ε)) (hp : PassesOwn (model X.prog X.w) X.A X.env X.xe) (hjs : ∀ j ∈ js, j ∉ ow := by decide) (hcalm : X.calm = true := by rfl) (hs : ∀ x, foldedSetIterable e X.env x = pure x := by intro _; rfl) :
    Ds X B ow Γ cr ci owS ΓS (.For tg e body [] pos) (fun ε => G ε ∧ forG (gb (u ε)) (db (u ε)) (m0 (u ε)) (xs ε)) (fun ε => (forO (db (u ε)) (m0 (u ε)) (xs ε)).keep (u ε)) ow (fun n : E × M => ΓL n.1 n.2) :=
  ⟨(ps_for (tb := fun Dn σ H => ∃ ε, tSS X.K B ow (fun q : M × α => ft q.2 (ΓL ε q.1)) cr ci ow (ΓL ε) (gb ε) (db ε) ow (ΓL ε) Dn σ H) hp hcalm hi.pi hg ⟨fun pins s σ H Dn I ⟨ε, q⟩ => (hb ε).pss.run pins s σ H Dn I q⟩ hs).weaken fun Dn σ H ⟨H0, ε, rl, ⟨g1, g2⟩, k⟩ => ⟨H0, ε, rl, g1, fun J H1 f1 r1 w hsz => by
    have kn : ∀ n, forO (S := S) (db (u ε)) (m0 (u ε)) (xs ε) = .nx n → ∀ σ' H', Rel X.K B H0 ow σ' H' (ΓL (u ε) n) → Dn.nx σ' H' := fun n e => by
      have k' := k
      simp only [e] at k'
      exact k'
    have kr : ∀ n, forO (S := S) (db (u ε)) (m0 (u ε)) (xs ε) = .rt n → ∀ v H', EX X.K B cr ci H0 n v H' → Dn.rt v H' := fun n e => by
      have k' := k
      simp only [e] at k'
      exact k'
    refine for_it w (g := g) (D := Dn) (tb := fun Dn σ H => ∃ ε, tSS X.K B ow (fun q : M × α => ft q.2 (ΓL ε q.1)) cr ci ow (ΓL ε) (gb ε) (db ε) ow (ΓL ε) Dn σ H) (fun i σ' H' => ∃ t, Rel X.K B (hid (oa σ ow) H1) ow σ' H' (ΓL (u ε) t) ∧ forG (gb (u ε)) (db (u ε)) t ((xs ε).drop i) ∧ forO (S := S) (db (u ε)) t ((xs ε).drop i) = forO (db (u ε)) (m0 (u ε)) (xs ε)) ⟨m0 (u ε), hc0 _ _ _ _ r1.rest, g2, rfl⟩ ?_ ?_ ?_
    · rintro i σ' H' _ ⟨t, r', _, _⟩
      exact r1.since r'
    · rintro i x σ' H' H2 hlt ⟨t, r', hg', ho'⟩ ⟨fy, a, ea, hz⟩
      have hz' := hz (B.full σ' ow) (r1.newer r') ((r1.since r').mono fun b hb => List.mem_append_left _ hb) r'.tracked
      have hd : (xs ε).drop i = a :: (xs ε).drop (i + 1) := by
        obtain ⟨hl, e⟩ := List.getElem?_eq_some_iff.mp ea
        rw [List.drop_eq_getElem_cons hl, e]
      rw [hd] at hg' ho'
      refine ht B _ ow σ' H2 _ x a _ hjs (r'.grow fy) hz' fun σ2 r2 _ _ => ⟨u ε, _, (t, a), r2, hg'.1, ?_⟩
      have hg2 := hg'.2
      cases hdb : db (u ε) (t, a) with
      | nx t' =>
        rw [hdb] at hg2
        have ho2 : forO (S := S) (db (u ε)) t' ((xs ε).drop (i + 1)) = forO (db (u ε)) (m0 (u ε)) (xs ε) := by rw [← ho', forO, hdb]
        exact fun σ3 H3 r3 => ⟨t', r3, hg2, ho2⟩
      | ct t' =>
        rw [hdb] at hg2
        have ho2 : forO (S := S) (db (u ε)) t' ((xs ε).drop (i + 1)) = forO (db (u ε)) (m0 (u ε)) (xs ε) := by rw [← ho', forO, hdb]
        exact fun σ3 H3 r3 => ⟨t', r3, hg2, ho2⟩
      | bk t' =>
        have k' := kn t' (by rw [← ho', forO, hdb])
        exact fun σ3 H3 r3 => k' σ3 H3 (r1.rebase r3)
      | rt q =>
        have k' := kr q (by rw [← ho', forO, hdb])
        exact fun v H3 ex => k' v H3 (EX.rebase r1 ex)
    · rintro σ' H' ⟨t, r', _, ho'⟩
      rw [List.drop_length] at ho'
      have k' := kn t ho'.symm
      exact k' σ' H' (r1.rebase r')⟩⟩
theorem s_forN {gb : E → M × α → Prop} {db : E → M × α → Out M R M} {fb : E → M × α → M} (m0 : E → M) (hi : DI X B ow Γ p tg e c G xs u) (hc0 : ∀ (H0 : Hp) ε σ H, Rel X.K B H0 ow σ H (Γ ε) → Rel X.K B H0 ow σ H (ΓL ε (m0 ε))) (hg : PG X tg g) (ht : TgR X.K c js g ft)
    (hb : ∀ ε, Dss X B ow (fun q : M × α => ft q.2 (ΓL ε q.1)) cr ci ow (ΓL ε) body (gb ε) (db ε) ow (ΓL ε)) (hfb : ∀ ε q, db ε q = .nx (fb ε q)) (hp : PassesOwn (model X.prog X.w) X.A X.env X.xe) (hjs : ∀ j ∈ js, j ∉ ow := by decide) (hcalm : X.calm = true := by rfl) (hs : ∀ x, foldedSetIterable e X.env x = pure x := by intro _; rfl) :
    Ds X B ow Γ cr ci owS ΓS (.For tg e body [] pos) (fun ε => G ε ∧ forN (gb (u ε)) (fb (u ε)) (m0 (u ε)) (xs ε)) (fun ε => .nx (u ε, (xs ε).foldl (fun m x => fb (u ε) (m, x)) (m0 (u ε)))) ow (fun n : E × M => ΓL n.1 n.2) :=
  (s_forP m0 hi hc0 hg ht hb hp hjs hcalm hs).is (fun ε h => ⟨h.1, by
    have e : db (u ε) = fun q => .nx (fb (u ε) q) := funext (hfb (u ε))
    rw [e]
    exact forG_nx _ _ h.2⟩) fun ε _ => by
    have e : db (u ε) = fun q => .nx (fb (u ε) q) := funext (hfb (u ε))
    show Out.keep (forO (db (u ε)) _ _) _ = _
    rw [e, forO_nx]
/-- while -/
theorem s_whileP {gt gw : E → M → Prop} {tst : E → M → Bool} {dw : E → M → Out M R M} (m0 : E → M) (fuel : E → M → Nat) (hc0 : ∀ (H0 : Hp) ε σ H, Rel X.K B H0 ow σ H (Γ ε) → Rel X.K B H0 ow σ H (ΓL ε (m0 ε))) (ht : ∀ ε, Dt X B ow (ΓL ε) p e (gt ε) (tst ε) (fun q => q))
    (hb : ∀ ε, Dss X B ow (ΓL ε) cr ci ow (ΓL ε) body (gw ε) (dw ε) ow (ΓL ε)) (hp : PassesOwn (model X.prog X.w) X.A X.env X.xe) :
    Ds X B ow Γ cr ci owS ΓS (.While e body [] pos) (fun ε => whG (gt ε) (tst ε) (gw ε) (dw ε) (fuel ε (m0 ε)) (m0 ε)) (fun ε => (whO (tst ε) (dw ε) (fuel ε (m0 ε)) (m0 ε)).keep ε) ow (fun n : E × M => ΓL n.1 n.2) :=
  ⟨(ps_while (tc := fun σ H Q => ∃ ε, tTs X.K B ow (ΓL ε) p (gt ε) (tst ε) (fun q => q) σ H Q) (tb := fun Dn σ H => ∃ ε, tSS X.K B ow (ΓL ε) cr ci ow (ΓL ε) (gw ε) (dw ε) ow (ΓL ε) Dn σ H) hp ⟨fun pins s σ H Q I ⟨ε, q⟩ => (ht ε).pt.run pins s σ H Q I q⟩ ⟨fun pins s σ H Dn I ⟨ε, q⟩ => (hb ε).pss.run pins s σ H Dn I q⟩).weaken fun Dn σ H ⟨H0, ε, rl, g0, k⟩ => by
    have kn : ∀ n, whO (S := S) (tst ε) (dw ε) (fuel ε (m0 ε)) (m0 ε) = .nx n → ∀ σ' H', Rel X.K B H0 ow σ' H' (ΓL ε n) → Dn.nx σ' H' := fun n e => by
      have k' := k
      simp only [e] at k'
      exact k'
    have kr : ∀ n, whO (S := S) (tst ε) (dw ε) (fuel ε (m0 ε)) (m0 ε) = .rt n → ∀ v H', EX X.K B cr ci H0 n v H' → Dn.rt v H' := fun n e => by
      have k' := k
      simp only [e] at k'
      exact k'
    refine ⟨fun m σ' H' => ∃ n t, m = n ∧ Rel X.K B H0 ow σ' H' (ΓL ε t) ∧ whG (gt ε) (tst ε) (gw ε) (dw ε) n t ∧ whO (S := S) (tst ε) (dw ε) n t = whO (tst ε) (dw ε) (fuel ε (m0 ε)) (m0 ε), ⟨fuel ε (m0 ε), fuel ε (m0 ε), m0 ε, rfl, hc0 _ _ _ _ rl, g0, rfl⟩, ?_⟩
    rintro m σ' H' ⟨n, t, rfl, r, hg, ho⟩
    have hgt : gt ε t := by cases m with | zero => exact hg.1 | succ m => exact hg.1
    refine ⟨ε, H0, t, r, hgt, fun H2 f2 r2 => ?_⟩
    cases ht : tst ε t with
    | false =>
      rw [if_neg Bool.false_ne_true]
      have k' := kn t (by
        rw [← ho]
        cases m with
        | zero => rfl
        | succ m => rw [whO, ht, if_neg Bool.false_ne_true])
      exact k' σ' H2 r2
    | true =>
      rw [if_pos rfl]
      cases m with
      | zero => rw [hg.2] at ht; cases ht
      | succ m =>
        obtain ⟨hgw, hg2⟩ := hg.2 ht
        rw [whO, ht, if_pos rfl] at ho
        refine ⟨fun σ3 H3 => ∃ t', Rel X.K B H0 ow σ3 H3 (ΓL ε t') ∧ whG (gt ε) (tst ε) (gw ε) (dw ε) m t' ∧ whO (S := S) (tst ε) (dw ε) m t' = whO (tst ε) (dw ε) (fuel ε (m0 ε)) (m0 ε), fun σ3 H3 ⟨t', a, b, c⟩ => ⟨m, Nat.lt_succ_self _, m, t', rfl, a, b, c⟩, ε, H0, t, r2, hgw, ?_⟩
        cases hd : dw ε t with
        | nx t' => rw [hd] at hg2 ho; exact fun σ3 H3 r3 => ⟨t', r3, hg2, ho⟩
        | ct t' => rw [hd] at hg2 ho; exact fun σ3 H3 r3 => ⟨t', r3, hg2, ho⟩
        | bk t' =>
          rw [hd] at ho
          exact fun σ3 H3 r3 => kn t' ho.symm σ3 H3 r3
        | rt q =>
          rw [hd] at ho
          exact fun v H3 ex => kr q ho.symm v H3 ex⟩
/-- the end of a list of statements, told otherwise -/
theorem s_end {ow2 : List Nat} {N2 : Type} {Γ2 : N2 → List (Option D)} (cv : E → N2) (hc : ∀ (H0 : Hp) ε σ H, Rel X.K B H0 ow σ H (Γ ε) → Rel X.K B H0 ow2 σ H (Γ2 (cv ε))) : Dss X B ow Γ cr ci owS ΓS [] (fun _ => True) (fun ε => .nx (cv ε)) ow2 Γ2 :=
  ⟨pss_nil.weaken fun Dn σ H ⟨H0, ε, rl, _, k⟩ => k σ H (hc _ _ _ _ rl)⟩
variable {G1 Ga Gb : E → Prop} {t : E → Bool} {fa fb : E → M} {ΓM : E × M → List (Option D)}
/-- if, both ways going on, joined -/
theorem s_ifJ {da db : E → Out (E × M) R S} (ht : Dt X B ow Γ p e G t u) (ha : Dss X B ow Γ cr ci owS ΓS a Ga da ow' ΓM) (hb : Dss X B ow Γ cr ci owS ΓS b Gb db ow' ΓM) (hka : ∀ ε, da ε = .nx (ε, fa ε)) (hkb : ∀ ε, db ε = .nx (ε, fb ε)) :
    Ds X B ow Γ cr ci owS ΓS (.If e a b pos) (fun ε => G ε ∧ (t ε = true → Ga (u ε)) ∧ (t ε = false → Gb (u ε))) (fun ε => .nx (u ε, if t ε = true then fa (u ε) else fb (u ε))) ow' ΓM :=
  (s_ifM ht ha hb).is (fun _ h => h) fun ε _ => by
    rw [hka, hkb]
    cases t ε <;> rfl
end
end Y
namespace Y
open PySem PySem.Spec PyProof.Rows L2

/-! ### a op b op c op d -/
section
variable {X : Cx} {a b c d : Expr} {ta tb tc td : TE} {pos : Pos}
def tChn3 (r r' r'' : R2) (ta tb tc td : TE) : TE := fun σ H Q => ta σ H fun x H1 => tb σ H1 fun y H2 => r x y H2 fun z H3 => ∃ k, z = .bl k ∧
  (if k = true then tc σ H3 fun w H4 => r' y w H4 fun z' H5 => ∃ k', z' = .bl k' ∧ (if k' = true then td σ H5 fun u H6 => r'' w u H6 Q else Q (.bl false) H5) else Q (.bl false) H3)
theorem pe_chn3 {op op' op'' : CmpOp} {r r' r'' : R2} (ho : OpR X (compareOp op) r) (ho' : OpR X (compareOp op') r') (ho'' : OpR X (compareOp op'') r'') (ha : PE X a ta) (hb : PE X b tb) (hc : PE X c tc) (hd : PE X d td)
    (hm : lastMarks [op, op', op''] [b, c, d] = false := by with_unfolding_all rfl) : PE X (.Compare a [op, op', op''] [b, c, d] pos) (tChn3 r r' r'' ta tb tc td) := by
  refine ⟨fun pins s σ H Q I h => ?_⟩
  refine Compare_chain (thn (ha.run pins s σ H _ I h) fun v s1 ⟨x, H1, I1, r1, q1⟩ => chain_link (thn (hb.run pins s1 σ H1 _ I1 q1) fun u s2 ⟨y, H2, I2, r2, q2⟩ =>
    thn (ho pins s2 σ H2 x y v u _ I2 r1 r2 q2) fun e3 s3 ⟨z, H3, I3, r3, k, e, q3⟩ => ?_)) hm
  subst e
  cases r3
  refine wpAny_truthy_bool ?_
  cases k with
  | false => exact ite_ff ⟨.bl false, H3, I3, rfl, q3⟩
  | true =>
    refine ite_tt (chain_link (thn (hc.run pins s3 σ H3 _ I3 q3) fun w' s4 ⟨z', H4, I4, r4, q4⟩ => thn (ho' pins s4 σ H4 y z' u w' _ I4 r2 r4 q4) fun e5 s5 ⟨z2, H5, I5, r5, k2, e2, q5⟩ => ?_))
    subst e2
    cases r5
    refine wpAny_truthy_bool ?_
    cases k2 with
    | false => exact ite_ff ⟨.bl false, H5, I5, rfl, q5⟩
    | true => exact ite_tt (chain_last (thn (hd.run pins s5 σ H5 _ I5 q5) fun w6 s6 ⟨z6, H6, I6, r6, q6⟩ => ho'' pins s6 σ H6 z' z6 w' w6 Q I6 r4 r6 q6))
theorem pt_chn3 {op op' op'' : CmpOp} {r r' r'' : R2} (ho : OpR X (compareOp op) r) (ho' : OpR X (compareOp op') r') (ho'' : OpR X (compareOp op'') r'') (ha : PE X a ta) (hb : PE X b tb) (hc : PE X c tc) (hd : PE X d td)
    (hm : lastMarks [op, op', op''] [b, c, d] = false := by with_unfolding_all rfl) : PT X (.Compare a [op, op', op''] [b, c, d] pos) (tTest (tChn3 r r' r'' ta tb tc td)) := by
  refine ⟨fun pins s σ H Q I h => ?_⟩
  refine isTrue_chain (thn (ha.run pins s σ H _ I h) fun v s1 ⟨x, H1, I1, r1, q1⟩ => test_link (thn (hb.run pins s1 σ H1 _ I1 q1) fun u s2 ⟨y, H2, I2, r2, q2⟩ =>
    thn (ho pins s2 σ H2 x y v u _ I2 r1 r2 q2) fun e3 s3 ⟨z, H3, I3, r3, k, e, q3⟩ => ?_)) hm
  subst e
  cases r3
  refine wpAny_truthy_bool ?_
  cases k with
  | false =>
    obtain ⟨k', e', q'⟩ := q3
    cases e'
    exact ite_ff ⟨H3, I3, q'⟩
  | true =>
    refine ite_tt (test_link (thn (hc.run pins s3 σ H3 _ I3 q3) fun w' s4 ⟨z', H4, I4, r4, q4⟩ => thn (ho' pins s4 σ H4 y z' u w' _ I4 r2 r4 q4) fun e5 s5 ⟨z2, H5, I5, r5, k2, e2, q5⟩ => ?_))
    subst e2
    cases r5
    refine wpAny_truthy_bool ?_
    cases k2 with
    | false =>
      obtain ⟨k', e', q'⟩ := q5
      cases e'
      exact ite_ff ⟨H5, I5, q'⟩
    | true =>
      refine ite_tt (test_last (thn (hd.run pins s5 σ H5 _ I5 q5) fun w6 s6 ⟨z6, H6, I6, r6, q6⟩ => thn (ho'' pins s6 σ H6 z' z6 w' w6 _ I6 r4 r6 q6) fun d' s7 ⟨z7, H7, I7, r7, k7, e7, q7⟩ => ?_))
      subst e7
      cases r7
      exact wpAny_truthy_bool ⟨H7, I7, q7⟩
end
section
variable {X : Cx} {B : Bd} {ow : List Nat} {E α β : Type} {Γ : E → List (Option D)} {p s : Bool} {e1 e2 e3 e4 : Expr} {pos : Pos} {G1 G2 G3 G4 : E → Prop}
theorem chn3_of {K : Frag} {r r' r'' : R2} {f f' f'' : Int → Int → Bool} {a b b' b'' : E → Int} (hv : Op2 K r cI cI cB (fun _ _ => True) f) (hv' : Op2 K r' cI cI cB (fun _ _ => True) f') (hv'' : Op2 K r'' cI cI cB (fun _ _ => True) f'') {σ : L2.St} {H : Hp} {Q : VK}
    (h : tS K B ow Γ true s cB (fun ε => G1 ε ∧ G2 ε ∧ (f (a ε) (b ε) = true → G3 ε ∧ (f' (b ε) (b' ε) = true → G4 ε))) (fun ε => f (a ε) (b ε) && (f' (b ε) (b' ε) && f'' (b' ε) (b'' ε))) (fun ε => ε) σ H Q) :
    tChn3 r r' r'' (tS K B ow Γ true s cI G1 a (fun ε => ε)) (tS K B ow Γ true s cI G2 b (fun ε => ε)) (tS K B ow Γ true s cI G3 b' (fun ε => ε)) (tS K B ow Γ true s cI G4 b'' (fun ε => ε)) σ H Q := by
  obtain ⟨H0, ε, rl, ⟨g1, g2, g3⟩, k⟩ := h
  refine ⟨H0, ε, rl, g1, fun v H1 f1 r1 z1 => ⟨H0, ε, r1, g2, fun w H2 f2 r2 z2 => ?_⟩⟩
  have f1' : Fr [] H H1 := f1
  have f2' : Fr [] H1 H2 := f2
  refine hv _ H2 (a ε) (b ε) v w _ (r2.tr s) (z1.fr f2'.nil) z2 trivial fun z H3 f3 z3 => ⟨_, z3.bl_inv, ?_⟩
  have r3 := r2.grow f3
  cases h : f (a ε) (b ε) with
  | false =>
    rw [if_neg Bool.false_ne_true]
    refine k _ H3 ((f1'.trans f2').trans f3) r3 ?_
    simp only [h, Bool.false_and]
    exact .bl _
  | true =>
    rw [if_pos rfl]
    obtain ⟨g3, g4⟩ := g3 h
    refine ⟨H0, ε, r3, g3, fun w' H4 f4 r4 z4 => ?_⟩
    have f4' : Fr [] H3 H4 := f4
    refine hv' _ H4 (b ε) (b' ε) w w' _ (r4.tr s) ((z2.fr f3.nil).fr f4'.nil) z4 trivial fun z' H5 f5 z5 => ⟨_, z5.bl_inv, ?_⟩
    have r5 := r4.grow f5
    have fa := ((((f1'.trans f2').trans f3).trans f4').trans f5)
    cases h' : f' (b ε) (b' ε) with
    | false =>
      rw [if_neg Bool.false_ne_true]
      refine k _ H5 fa r5 ?_
      simp only [h, h', Bool.false_and, Bool.and_false]
      exact .bl _
    | true =>
      rw [if_pos rfl]
      refine ⟨H0, ε, r5, g4 h', fun w6 H6 f6 r6 z6 => ?_⟩
      have f6' : Fr [] H5 H6 := f6
      refine hv'' _ H6 (b' ε) (b'' ε) w' w6 _ (r6.tr s) ((z4.fr f5.nil).fr f6'.nil) z6 trivial fun z7 H7 f7 z7' => k _ H7 ((fa.trans f6').trans f7) (r6.grow f7) ?_
      simpa [h, h'] using z7'
theorem d_chn3 {op op' op'' : CmpOp} {r r' r'' : R2} {f f' f'' : Int → Int → Bool} {a b b' b'' : E → Int} (ho : OpR X (compareOp op) r) (ho' : OpR X (compareOp op') r') (ho'' : OpR X (compareOp op'') r'') (hv : Op2 X.K r cI cI cB (fun _ _ => True) f) (hv' : Op2 X.K r' cI cI cB (fun _ _ => True) f') (hv'' : Op2 X.K r'' cI cI cB (fun _ _ => True) f'')
    (h1 : De X B ow Γ true s e1 cI G1 a (fun ε => ε)) (h2 : De X B ow Γ true s e2 cI G2 b (fun ε => ε)) (h3 : De X B ow Γ true s e3 cI G3 b' (fun ε => ε)) (h4 : De X B ow Γ true s e4 cI G4 b'' (fun ε => ε)) (hm : lastMarks [op, op', op''] [e2, e3, e4] = false := by with_unfolding_all rfl) :
    De X B ow Γ true s (.Compare e1 [op, op', op''] [e2, e3, e4] pos) cB (fun ε => G1 ε ∧ G2 ε ∧ (f (a ε) (b ε) = true → G3 ε ∧ (f' (b ε) (b' ε) = true → G4 ε))) (fun ε => f (a ε) (b ε) && (f' (b ε) (b' ε) && f'' (b' ε) (b'' ε))) (fun ε => ε) :=
  ⟨(pe_chn3 ho ho' ho'' h1.pe h2.pe h3.pe h4.pe hm).weaken fun _ _ _ h => chn3_of hv hv' hv'' h⟩
theorem t_chn3 {op op' op'' : CmpOp} {r r' r'' : R2} {f f' f'' : Int → Int → Bool} {a b b' b'' : E → Int} (ho : OpR X (compareOp op) r) (ho' : OpR X (compareOp op') r') (ho'' : OpR X (compareOp op'') r'') (hv : Op2 X.K r cI cI cB (fun _ _ => True) f) (hv' : Op2 X.K r' cI cI cB (fun _ _ => True) f') (hv'' : Op2 X.K r'' cI cI cB (fun _ _ => True) f'')
    (h1 : De X B ow Γ true s e1 cI G1 a (fun ε => ε)) (h2 : De X B ow Γ true s e2 cI G2 b (fun ε => ε)) (h3 : De X B ow Γ true s e3 cI G3 b' (fun ε => ε)) (h4 : De X B ow Γ true s e4 cI G4 b'' (fun ε => ε)) (hm : lastMarks [op, op', op''] [e2, e3, e4] = false := by with_unfolding_all rfl) :
    Dt X B ow Γ true (.Compare e1 [op, op', op''] [e2, e3, e4] pos) (fun ε => G1 ε ∧ G2 ε ∧ (f (a ε) (b ε) = true → G3 ε ∧ (f' (b ε) (b' ε) = true → G4 ε))) (fun ε => f (a ε) (b ε) && (f' (b ε) (b' ε) && f'' (b' ε) (b'' ε))) (fun ε => ε) :=
  ⟨(pt_chn3 ho ho' ho'' h1.pe h2.pe h3.pe h4.pe hm).weaken fun σ H Q ⟨H0, ε, rl, g, k⟩ => chn3_of hv hv' hv'' ⟨H0, ε, rl, g, fun v H' f r' z => ⟨_, z.bl_inv, k H' f r'⟩⟩⟩
end

/-! ### comprehensions without tests -/
section
variable {X : Cx} {B : Bd} {ow owS : List Nat} {E R S α β : Type} {Γ : E → List (Option D)} {ΓS : S → List (Option D)} {cr : R → D} {ci : R → List D} {pos spos py : Pos} {tg e elt : Expr} {c : α → D} {ce : β → D} {G : E → Prop}
  {xs : E → List α} {js : List Nat} {g : TG} {ft : α → List (Option D) → List (Option D)} {Ge : E × α → Prop} {de : E × α → β} {own : List (Str × Nat)} {scope : Scope} {y : Str}
theorem filt_true {f : α → β} (l : List α) : ((l.filter fun _ => true).map f) = l.map f := congrArg (List.map f) (List.filter_eq_self.mpr fun _ _ => rfl)
theorem DL.is {d d' : E → List β} {G G' : E → Prop} {p : Bool} {u : E → E} (h : DL X B ow Γ p e ce G d u) (hg : ∀ ε, G' ε → G ε) (hd : ∀ ε, G' ε → d ε = d' ε) : DL X B ow Γ p e ce G' d' u :=
  ⟨h.pe.weaken fun σ H Q ⟨H0, ε, r, g, k⟩ => ⟨H0, ε, r, hg ε g, fun q H' vs hq f r' hv hz z => k q H' vs hq f r' hv hz (by rw [← hd ε g]; exact z)⟩⟩
theorem d_lc0 (hi : DI X B ow Γ true tg e c G xs (fun ε => ε)) (ok : BlkOk X.N X.env.scope scope own) (ht : TgR X.K c js g ft) (hg : ∀ (s : Shared) (H : Hp) (C : Addr) (cl : List (Str × Addr)) (fp : List Addr), PG (X.blk s H scope (compEnvC scope cl C X.env) fp) tg g)
    (hE : ∀ (s : Shared) (H : Hp) (C : Addr) (cl : List (Str × Addr)) (fp : List Addr) (B' : Bd), De (X.blk s H scope (compEnvC scope cl C X.env) fp) B' ow (fun q : E × α => ft q.2 (wipeG (Γ q.1) (own.map (·.2)))) true true elt ce Ge de (fun q => q))
    (hjv : ∀ j ∈ js, j ∈ own.map (·.2) := by decide) (hvo : ∀ j ∈ own.map (·.2), j ∉ ow := by decide) (hN : X.N.Nodup := by assumption) (hc : X.calm = true := by rfl) (hs : ∀ x, foldedSetIterable e X.env x = pure x := by intro _; rfl) :
    DL X B ow Γ true (.ListComp elt [⟨tg, e, [], 0⟩] scope pos) ce (fun ε => G ε ∧ ∀ x ∈ xs ε, Ge (ε, x)) (fun ε => (xs ε).map fun x => de (ε, x)) (fun ε => ε) :=
  (d_lc (pos := pos) hi ok ht hg (fun _ _ _ _ _ => dt_nil) hE hjv hvo hN hc hs).is (fun _ h => ⟨h.1, fun x hx => ⟨trivial, fun _ => h.2 x hx⟩⟩) fun _ _ => filt_true _
theorem s_asgLc0 (i : Nat) (hsw : swapsWith (.ListComp elt [⟨tg, e, [], 0⟩] scope pos) (some (.Name y py)) spos.line X.env = pure true) (hi : DI X B ow Γ true tg e c G xs (fun ε => ε)) (ok : BlkOk X.N X.env.scope scope own) (ht : TgR X.K c js g ft)
    (hg : ∀ (s : Shared) (H : Hp) (C : Addr) (cl : List (Str × Addr)) (fp : List Addr), PG (X.blk s H scope (compEnvC scope cl C X.env) fp) tg g)
    (hE : ∀ (s : Shared) (H : Hp) (C : Addr) (cl : List (Str × Addr)) (fp : List Addr) (B' : Bd), De (X.blk s H scope (compEnvC scope cl C X.env) fp) B' ow (fun q : E × α => ft q.2 (wipeG (Γ q.1) (own.map (·.2)))) true true elt ce Ge de (fun q => q))
    (hio : i ∉ ow := by decide) (hjv : ∀ j ∈ js, j ∈ own.map (·.2) := by decide) (hvo : ∀ j ∈ own.map (·.2), j ∉ ow := by decide) (hy : X.N[i]? = some y := by rfl) (hyl : X.env.scope.names.lookup y = some .local := by rfl)
    (hN : X.N.Nodup := by assumption) (hc : X.calm = true := by rfl) (hs : ∀ x, foldedSetIterable e X.env x = pure x := by intro _; rfl) :
    Ds X B ow Γ cr ci owS ΓS (.Assign [.Name y py] (.ListComp elt [⟨tg, e, [], 0⟩] scope pos) spos) (fun ε => G ε ∧ ∀ x ∈ xs ε, Ge (ε, x)) (fun ε => .nx (ε, (xs ε).map fun x => de (ε, x))) ow
      (fun q : E × List β => (Γ q.1).set i (some (cL ce q.2))) :=
  (s_asgLc i hsw hi ok ht hg (fun _ _ _ _ _ => dt_nil) hE hio hjv hvo hy hyl hN hc hs).is (fun _ h => ⟨h.1, fun x hx => ⟨trivial, fun _ => h.2 x hx⟩⟩) fun _ _ => by rw [filt_true]
theorem s_ownLc0 (i : Nat) (hsw : swapsWith (.ListComp elt [⟨tg, e, [], 0⟩] scope pos) (some (.Name y py)) spos.line X.env = pure true) (hi : DI X B ow Γ true tg e c G xs (fun ε => ε)) (ok : BlkOk X.N X.env.scope scope own) (ht : TgR X.K c js g ft)
    (hg : ∀ (s : Shared) (H : Hp) (C : Addr) (cl : List (Str × Addr)) (fp : List Addr), PG (X.blk s H scope (compEnvC scope cl C X.env) fp) tg g)
    (hE : ∀ (s : Shared) (H : Hp) (C : Addr) (cl : List (Str × Addr)) (fp : List Addr) (B' : Bd), De (X.blk s H scope (compEnvC scope cl C X.env) fp) B' ow (fun q : E × α => ft q.2 (wipeG (Γ q.1) (own.map (·.2)))) true true elt ce Ge de (fun q => q))
    {ow' : List Nat} (hl : ∀ ε, i < (Γ ε).length) (h' : ∀ j, j ∈ ow' ↔ j ∈ ow ∨ j = i) (h0 : B.io ≠ none → i ≠ 0) (hjv : ∀ j ∈ js, j ∈ own.map (·.2) := by decide) (hvo : ∀ j ∈ own.map (·.2), j ∉ ow := by decide) (hy : X.N[i]? = some y := by rfl)
    (hyl : X.env.scope.names.lookup y = some .local := by rfl) (hN : X.N.Nodup := by assumption) (hc : X.calm = true := by rfl) (hs : ∀ x, foldedSetIterable e X.env x = pure x := by intro _; rfl) :
    Ds X B ow Γ cr ci owS ΓS (.Assign [.Name y py] (.ListComp elt [⟨tg, e, [], 0⟩] scope pos) spos) (fun ε => G ε ∧ ∀ x ∈ xs ε, Ge (ε, x)) (fun ε => .nx (ε, (xs ε).map fun x => de (ε, x))) ow'
      (fun q : E × List β => (Γ q.1).set i (some (.list (q.2.map ce)))) :=
  (s_ownLc i hsw hi ok ht hg (fun _ _ _ _ _ => dt_nil) hE hl h' h0 hjv hvo hy hyl hN hc hs).is (fun _ h => ⟨h.1, fun x hx => ⟨trivial, fun _ => h.2 x hx⟩⟩) fun _ _ => by rw [filt_true]

/-! ### targets within targets -/
theorem tg_nest {K : Frag} {γ' : Type} {ca : α → D} {cb : β → D} {cc : γ' → D} (i j l : Nat) : TgR K (c2 ca (c2 cb cc)) [i, j, l] (gTup K 2 (gCons (gName i) (gCons (gTup K 2 (gCons (gName j) (gCons (gName l) gNil))) gNil))) fun q γ => ((γ.set i (some (ca q.1))).set j (some (cb q.2.1))).set l (some (cc q.2.2)) := fun B H0 ow σ H γ v q Q hj r z k => by
  obtain ⟨a, xs, rfl, n, lz⟩ := z.tup_inv
  obtain ⟨x, y, rfl, z1, z2⟩ := fzl2 (ds := []) lz
  have e1 : ∀ u : Option V, oa (σ.set i u) ow = oa σ ow := fun u => oa_set (hj i (by simp))
  have r1 := r.set (hj i (by simp)) z1
  refine ⟨a, _, rfl, n.sq, rfl, x, _, rfl, y, [], rfl, ?_⟩
  refine (tg_pair (K := K) (ca := cb) (cb := cc) j l) B H0 ow _ H _ y q.2 _ (fun m hm => hj m (List.mem_cons_of_mem _ hm)) r1 (by unfold Bd.full; rw [e1]; exact z2) fun σ' r' h1 h2 => ⟨rfl, k σ' r' (fun m hm => ?_) (by rw [h2]; simp)⟩
  rw [h1 m fun z => hm (List.mem_cons_of_mem _ z), List.getElem?_set_ne fun e => hm (by simp [e])]
end
/-- room for what sorts, compares -/
theorem room_un {k : Nat} {A : Around} (r : Room k A) : A.units + 200 < cLine := by have := r.un; omega
theorem room_65 {k : Nat} {A : Around} (r : Room k A) : A.units + 65 < cLine := by have := r.un; omega
end Y
namespace Y
open PySem PySem.Spec PyProof.Rows L2

@[reducible] def c5 {α β γ δ η : Type} (a : α → D) (b : β → D) (c : γ → D) (d : δ → D) (e : η → D) : α × β × γ × δ × η → D := fun p => .tuple [a p.1, b p.2.1, c p.2.2.1, d p.2.2.2.1, e p.2.2.2.2]
@[reducible] def c6 {α β γ δ η θ : Type} (a : α → D) (b : β → D) (c : γ → D) (d : δ → D) (e : η → D) (f : θ → D) : α × β × γ × δ × η × θ → D := fun p => .tuple [a p.1, b p.2.1, c p.2.2.1, d p.2.2.2.1, e p.2.2.2.2.1, f p.2.2.2.2.2]
section
variable {X : Cx} {B : Bd} {ow : List Nat} {E α β γ δ η θ : Type} {Γ : E → List (Option D)} {p s : Bool} {es : List Expr} {pos : Pos} {a : α → D} {b : β → D} {c : γ → D} {d : δ → D} {e : η → D} {f : θ → D} {G : E → Prop} {u : E → E} {x1 : Nat}
/-- fixed tuples -/
theorem d_tp0 : De X B ow Γ true s (.Tuple [] x1 pos) (cT a) (fun _ => True) (fun _ => []) (fun ε => ε) :=
  (d_tup (cs := an) (ct := fun _ => .tuple []) (fun _ => rfl) (fun _ => Nat.zero_le _) a_nil).as (c' := cT a) (g := fun _ => []) fun _ => rfl
theorem d_tp1 {v : E → α × Unit} (h : DA X B ow Γ p s es (ac a an) G v u) : De X B ow Γ p s (.Tuple es x1 pos) (c1 a) G (fun ε => (v ε).1) u :=
  (d_tup (ct := fun q : α × Unit => .tuple (ac a an q)) (fun _ => rfl) (fun _ => Nat.le_of_ble_eq_true rfl) h).as (c' := c1 a) (g := fun q : α × Unit => q.1) fun _ => rfl
theorem d_tp2 {v : E → α × β × Unit} (h : DA X B ow Γ p s es (ac a (ac b an)) G v u) : De X B ow Γ p s (.Tuple es x1 pos) (c2 a b) G (fun ε => ((v ε).1, (v ε).2.1)) u :=
  (d_tup (ct := fun q : α × β × Unit => .tuple (ac a (ac b an) q)) (fun _ => rfl) (fun _ => Nat.le_of_ble_eq_true rfl) h).as (c' := c2 a b) (g := fun q : α × β × Unit => (q.1, q.2.1)) fun _ => rfl
theorem d_tp3 {v : E → α × β × γ × Unit} (h : DA X B ow Γ p s es (ac a (ac b (ac c an))) G v u) : De X B ow Γ p s (.Tuple es x1 pos) (c3 a b c) G (fun ε => ((v ε).1, (v ε).2.1, (v ε).2.2.1)) u :=
  (d_tup (ct := fun q : α × β × γ × Unit => .tuple (ac a (ac b (ac c an)) q)) (fun _ => rfl) (fun _ => Nat.le_of_ble_eq_true rfl) h).as (c' := c3 a b c) (g := fun q : α × β × γ × Unit => (q.1, q.2.1, q.2.2.1)) fun _ => rfl
theorem d_tp4 {v : E → α × β × γ × δ × Unit} (h : DA X B ow Γ p s es (ac a (ac b (ac c (ac d an)))) G v u) : De X B ow Γ p s (.Tuple es x1 pos) (c4 a b c d) G (fun ε => ((v ε).1, (v ε).2.1, (v ε).2.2.1, (v ε).2.2.2.1)) u :=
  (d_tup (ct := fun q : α × β × γ × δ × Unit => .tuple (ac a (ac b (ac c (ac d an))) q)) (fun _ => rfl) (fun _ => Nat.le_of_ble_eq_true rfl) h).as (c' := c4 a b c d) (g := fun q : α × β × γ × δ × Unit => (q.1, q.2.1, q.2.2.1, q.2.2.2.1)) fun _ => rfl
theorem d_tp5 {v : E → α × β × γ × δ × η × Unit} (h : DA X B ow Γ p s es (ac a (ac b (ac c (ac d (ac e an))))) G v u) : De X B ow Γ p s (.Tuple es x1 pos) (c5 a b c d e) G (fun ε => ((v ε).1, (v ε).2.1, (v ε).2.2.1, (v ε).2.2.2.1, (v ε).2.2.2.2.1)) u :=
  (d_tup (ct := fun q : α × β × γ × δ × η × Unit => .tuple (ac a (ac b (ac c (ac d (ac e an)))) q)) (fun _ => rfl) (fun _ => Nat.le_of_ble_eq_true rfl) h).as (c' := c5 a b c d e) (g := fun q : α × β × γ × δ × η × Unit => (q.1, q.2.1, q.2.2.1, q.2.2.2.1, q.2.2.2.2.1)) fun _ => rfl
/-- tuples, lists of one kind -/
theorem d_tpT {cs : β → List D} {v : E → β} (g : β → List α) (hc : ∀ x, cs x = (g x).map a) (hl : ∀ x, (g x).length ≤ 1000) (h : DA X B ow Γ p s es cs G v u) : De X B ow Γ p s (.Tuple es x1 pos) (cT a) G (fun ε => g (v ε)) u :=
  (d_tup (ct := fun q => .tuple (cs q)) (fun _ => rfl) (fun q => by rw [hc, List.length_map]; exact hl q) h).as (c' := cT a) (g := g) fun q => by
    show PyData.tuple (cs q) = .tuple ((g q).map a)
    rw [hc]
theorem l_nil : DL X B ow Γ true (.List [] pos) a (fun _ => True) (fun _ => []) (fun ε => ε) := l_disp (cs := an) (g := fun _ => []) (fun _ => rfl) (fun _ => Nat.zero_le _) a_nil
theorem l_dispE {cs : β → List D} {v : E → β} (g : β → List α) (hc : ∀ x, cs x = (g x).map a) (hl : ∀ x, (g x).length ≤ 1000) (h : DA X B ow Γ false true es cs G v u) : De X B ow Γ false true (.List es pos) (cL a) G (fun ε => g (v ε)) u :=
  l_dispX hc hl h
end
section
variable {M R S α β : Type}
theorem ends_ret {c : β → D} {cr : R → D} (g : R → β) (hg : ∀ r, cr r = c (g r)) (o : Out Empty R Empty) : Ends cr c o (g o.ret) := by
  cases o with
  | rt r => exact hg r
  | nx e => exact nomatch e
  | bk e => exact nomatch e
  | ct e => exact nomatch e
theorem ends_und (o : Out M Unit Empty) : Ends cN cN o () := by
  cases o with
  | rt r => rfl
  | nx e => rfl
  | bk e => exact nomatch e
  | ct e => exact nomatch e
theorem ret_ex {c : β → D} {τ : Type} {cb : τ → List D} (o : Out Empty (β × τ) Empty) : ∃ r, o = .rt r ∧ (fun q : β × τ => c q.1) r = c o.ret.1 ∧ (fun q : β × τ => cb q.2) r = cb o.ret.2 := by
  cases o with
  | rt r => exact ⟨r, rfl, rfl, rfl⟩
  | nx e => exact nomatch e
  | bk e => exact nomatch e
  | ct e => exact nomatch e
@[simp] theorem ret_rt (r : R) : (Out.rt r : Out Empty R Empty).ret = r := rfl
@[simp] theorem ret_ite {c : Prop} [Decidable c] (a b : Out Empty R Empty) : (if c then a else b).ret = if c then a.ret else b.ret := by split <;> rfl
@[simp] theorem bind_ite {N : Type} {c : Prop} [Decidable c] (a b : Out M R S) (k : M → Out N R S) : (if c then a else b).bind k = if c then a.bind k else b.bind k := by split <;> rfl
end
/-- the state of a law -/
abbrev St4 := List Int × Int × Int × Int
abbrev cSt : St4 → List D := fun t => [.list (t.1.map cI), .int t.2.1, .int t.2.2.1, .int t.2.2.2]
end Y
namespace Y
open PySem PySem.Spec PyProof.Rows L2
instance {N R S : Type} [Inhabited R] : Inhabited (Out N R S) := ⟨.rt default⟩
theorem keep_nx {E M R S : Type} {o : Out M R S} {ε : E} {n : E × M} (e : o.keep ε = .nx n) (P : E × M → Prop) (h : ∀ m, o = .nx m → P (ε, m)) : P n := by
  cases o with
  | nx m =>
    cases e
    exact h m rfl
  | rt r => cases e
  | bk r => cases e
  | ct r => cases e
section
variable {X : Cx} {B : Bd} {ow ow1 ow' owS : List Nat} {E M N R S : Type} {Γ : E → List (Option D)} {Γ1 : E × M → List (Option D)} {Γ' : N → List (Option D)} {ΓS : S → List (Option D)} {cr : R → D} {ci : R → List D} {st : Stmt} {sts a b : List Stmt} {G1 G Ga Gb : E → Prop} {G2 : E × M → Prop} {oL : E → Out M R S} {ue : E → E} {d2 : E × M → Out N R S} {e : Expr} {pos : Pos} {p : Bool} {t : E → Bool} {u : E → E}
/-- a loop that may leave, the rest -/
theorem s_consK (h1 : Ds X B ow Γ cr ci owS ΓS st G1 (fun ε => (oL ε).keep (ue ε)) ow1 Γ1) (h2 : Dss X B ow1 Γ1 cr ci owS ΓS sts G2 d2 ow' Γ') :
    Dss X B ow Γ cr ci owS ΓS (st :: sts) (fun ε => G1 ε ∧ ∀ m, oL ε = .nx m → G2 (ue ε, m)) (fun ε => (oL ε).bind fun m => d2 (ue ε, m)) ow' Γ' :=
  (s_consM h1 h2).is (fun ε h => ⟨h.1, fun n e => keep_nx e G2 h.2⟩) fun ε _ => by
    show (Out.keep (oL ε) (ue ε)).bind d2 = _
    cases oL ε <;> rfl
/-- if that may leave, the rest -/
theorem s_ifK {da db : E → Out (E × M) R S} {oa ob : E → Out M R S} (ht : Dt X B ow Γ p e G t u) (ha : Dss X B ow Γ cr ci owS ΓS a Ga da ow1 Γ1) (hb : Dss X B ow Γ cr ci owS ΓS b Gb db ow1 Γ1) (hka : ∀ ε, da ε = (oa ε).keep ε) (hkb : ∀ ε, db ε = (ob ε).keep ε) :
    Ds X B ow Γ cr ci owS ΓS (.If e a b pos) (fun ε => G ε ∧ (t ε = true → Ga (u ε)) ∧ (t ε = false → Gb (u ε))) (fun ε => (if t ε = true then oa (u ε) else ob (u ε)).keep (u ε)) ow1 Γ1 :=
  (s_ifM ht ha hb).is (fun _ h => h) fun ε _ => by
    rw [hka, hkb]
    cases t ε <;> rfl
variable {τ : Type} {p1 p2 : Bool} {e1 e2 : Expr} {es : List Expr} {t1 t2 : E → Bool} {u1 u2 : E → E} {s1 s2 : E → τ} {H1 H2 : E → Prop}
theorem Dw.un {u' : E → E} (h : Dw X B ow Γ p e G t u) (hu : ∀ ε, u ε = u' ε) : Dw X B ow Γ p e G t u' := by
  have : u = u' := funext hu
  rw [← this]; exact h
theorem w_andS (put : E → τ → E) (h1 : Dt X B ow Γ p1 e1 H1 t1 u1) (h2 : Dw X B ow Γ p2 (.BoolOp .And (e2 :: es) pos) H2 t2 u2) (q1 : ∀ ε, u1 ε = put ε (s1 ε)) (q2 : ∀ ε, u2 (u1 ε) = put ε (s2 ε)) :
    Dw X B ow Γ (p1 && p2) (.BoolOp .And (e1 :: e2 :: es) pos) (fun ε => H1 ε ∧ (t1 ε = true → H2 (u1 ε))) (fun ε => t1 ε && t2 (u1 ε)) (fun ε => put ε (if t1 ε = true then s2 ε else s1 ε)) :=
  (w_and h1 h2).un fun ε => by
    cases t1 ε
    · exact q1 ε
    · exact q2 ε
theorem w_orS (put : E → τ → E) (h1 : Dt X B ow Γ p1 e1 H1 t1 u1) (h2 : Dw X B ow Γ p2 (.BoolOp .Or (e2 :: es) pos) H2 t2 u2) (q1 : ∀ ε, u1 ε = put ε (s1 ε)) (q2 : ∀ ε, u2 (u1 ε) = put ε (s2 ε)) :
    Dw X B ow Γ (p1 && p2) (.BoolOp .Or (e1 :: e2 :: es) pos) (fun ε => H1 ε ∧ (t1 ε = false → H2 (u1 ε))) (fun ε => t1 ε || t2 (u1 ε)) (fun ε => put ε (if t1 ε = true then s1 ε else s2 ε)) :=
  (w_or h1 h2).un fun ε => by
    cases t1 ε
    · exact q2 ε
    · exact q1 ε
end
end Y
namespace Y
open PySem PySem.Spec PyProof.Rows L2

/-! ### repr -/
def rRepr (K : Frag) : List V → Hp → VK → Prop := fun vs H Q => ∃ (v : V) (d : D), vs = [v] ∧ Dp K H v d ∧ d.showable = true ∧ d.hasDict = false ∧ d.depth ≤ 64 ∧ d.shown.length ≤ sizeLine ∧ Q (.str d.shown) H
section
variable {X : Cx}
theorem cr_repr (hgd : X.A.guards = some []) (hu : X.A.units + 200 < cLine) : CallR X (.builtin "repr") (rRepr X.K) := by
  intro pins s σ H vs us Q I r h
  obtain ⟨v, d, rfl, hd, h1, h2, h3, h4, q⟩ := h
  obtain ⟨u, rfl, ru⟩ := vals1 r
  have fin : ∀ (tk : Nat), EP X pins σ Q (.str d.shown tk) { s with toks := tk + 1 } := fun tk => ⟨.str _, H, I.tok _, ⟨_, rfl⟩, q⟩
  cases d with
  | none =>
    cases hd
    obtain rfl : u = Value.none := ru
    exact PySem.P.repr_of_none (fin _)
  | bool b =>
    cases hd
    obtain rfl : u = Value.bool b := ru
    exact PySem.P.repr_of_bool (fin _)
  | int i =>
    cases hd
    obtain ⟨t, rfl⟩ := ru
    exact PySem.P.repr_of_int (by simpa [PyData.showable] using h1) (fin _)
  | str x =>
    cases hd
    obtain ⟨t, rfl⟩ := ru
    exact PySem.P.repr_of_str (fin _) h4
  | list ds =>
    obtain ⟨as, rd⟩ := Dp.reads I _ v u hd ru
    cases hd with
    | lst hs ha =>
      cases ru
      exact repr_of_reads' rd h1 (fun e => by rw [h2] at e; cases e) hgd (by omega) (fun _ _ e => e) (fun h' t tk hk => ⟨.str _, H, I.kept hk, ⟨_, rfl⟩, q⟩) h4
  | tuple ds =>
    obtain ⟨as, rd⟩ := Dp.reads I _ v u hd ru
    cases hd with
    | tup hs ha =>
      cases ru
      exact repr_of_reads' rd h1 (fun e => by rw [h2] at e; cases e) hgd (by omega) (fun _ _ e => e) (fun h' t tk hk => ⟨.str _, H, I.kept hk, ⟨_, rfl⟩, q⟩) h4
  | dict kvs => cases hd
end
/-- what may be shown -/
def Shw (d : D) : Prop := d.showable = true ∧ d.hasDict = false ∧ d.depth ≤ 64 ∧ d.shown.length ≤ 16777216
theorem v_repr {K : Frag} {α : Type} {c : α → D} : OpL K (rRepr K) (ac c an) cS (fun q => Shw (c q.1)) (fun q => (c q.1).shown) := fun A H q vs Q _ z hc k => by
  obtain ⟨v, rfl, z1⟩ := fzl1 (ds := []) z
  exact ⟨v, _, rfl, z1.dp, hc.1, hc.2.1, hc.2.2.1, by rw [sizeLine_eq]; exact hc.2.2.2, k _ H (Fr.refl _ _) (.str _)⟩

/-! ### a list of a known form, one's own: parts read and written -/
section
variable {X : Cx} {B : Bd} {ow owS : List Nat} {E R S α β τ : Type} {Γ : E → List (Option D)} {ΓS : S → List (Option D)} {cr : R → D} {ci : R → List D} {p s : Bool} {e : Expr} {pos px py : Pos} {G : E → Prop} {d : E → α} {u : E → E} {y : Str} {c : α → D}
theorem d_prjL {b : Expr} (n : Int) {cb : β → D} (g : α → β) (hc : ∀ x, ∃ ds, c x = .list ds ∧ atI ds n = some (cb (g x))) (h : De X B ow Γ p s e c G d u)
    (hb : De X B ow Γ true true b cI (fun _ => True) (fun _ => n) (fun ε => ε)) (hx : PlainIx b := by exact fun _ _ => rfl) : De X B ow Γ p s (.Subscript e b pos) cb G (fun ε => g (d ε)) u :=
  ⟨(pe_ix (pos := pos) ix_list h.pe hb.pe hx).weaken fun σ H Q ⟨H0, ε, rl, g1, k⟩ => ⟨H0, ε, rl, g1, fun v H1 f1 r1 z1 => ⟨H0, u ε, r1, trivial, fun w H2 f2 r2 z2 => by
    obtain ⟨ds, e1, e2⟩ := hc (d ε)
    rw [e1] at z1
    obtain ⟨a, vs, rfl, nd, l⟩ := z1.lst_inv
    cases z2.int_inv
    obtain ⟨v', e3, z⟩ := l.atI e2
    have f2' : Fr [] H1 H2 := f2
    exact ⟨a, vs, n, v', rfl, rfl, (nd.fr f2'.nil).sq, e3, k _ H2 (f1.trans f2'.nil) r2 (z.fr f2'.nil)⟩⟩⟩⟩
theorem s_setF {cs : τ → List D} (j : Nat) (n : Nat) (gt : E → τ) (new : τ → α → τ) (hnew : ∀ t a, cs (new t a) = (cs t).set n (c a)) (hn : ∀ t, n < (cs t).length) (hget : ∀ ε, (Γ ε)[j]? = some (some (.list (cs (gt ε))))) (he : De X B ow Γ p true e c G d u) {p1 : Pos} {k1 : Nat} (hj : j ∈ ow := by decide) (hN : X.N[j]? = some y := by rfl)
    (hv : Vis X.env.scope y := by first | exact Or.inl rfl | exact Or.inr (Or.inl rfl) | exact Or.inr (Or.inr rfl)) (hd : (y == ("__debug__" : Str)) = false := by decide) (hcd : (y == ("__classdict__" : Str)) = false := by decide)
    (ha : ∀ v, assign (.Subscript (.Name y py) (.Constant (.int (n : Nat)) k1 p1) px) X.env v = (do
      let ov ← holding [v] (eval (.Name y py) X.env)
      let iv ← holding [v, ov] (eval (.Constant (.int (n : Nat)) k1 p1) X.env)
      standAt px
      holding [v, ov, iv] (setItem ov iv v)
      release [v, ov, iv] []) := by intro _; rfl)
    (hs : swapsWithSole [.Subscript (.Name y py) (.Constant (.int (n : Nat)) k1 p1) px] e pos.line X.env = pure false := by rfl) (hw : swappedStores [.Subscript (.Name y py) (.Constant (.int (n : Nat)) k1 p1) px] e X.env = pure none := by rfl)
    (h1 : (assignEach [.Subscript (.Name y py) (.Constant (.int (n : Nat)) k1 p1) px] X.env).map (·.2) = [assign (.Subscript (.Name y py) (.Constant (.int (n : Nat)) k1 p1) px) X.env] := by rfl) :
    Ds X B ow Γ cr ci owS ΓS (.Assign [.Subscript (.Name y py) (.Constant (.int (n : Nat)) k1 p1) px] e pos) G (fun ε => .nx (u ε, new (gt (u ε)) (d ε))) ow (fun q : E × τ => (Γ q.1).set j (some (.list (cs q.2)))) :=
  ⟨(ps_asg he.pe (pg_sub (pe_var hN hv hd hcd) pe_int set_list ha) hs hw h1).weaken fun Dn σ H ⟨H0, ε, rl, g, k⟩ => ⟨H0, ε, rl, g, fun v H1 f1 r1 z1 => by
    obtain ⟨a, vs, ds, e1, e2, e3, e4⟩ := r1.own j _ hj (hget (u ε))
    injection e2 with e2
    subst e2
    have hl : vs.length = (cs (gt (u ε))).length := e4.length
    refine ⟨_, e1, a, vs, n, n, rfl, rfl, e3.1, ?_, ?_⟩
    · unfold ixN
      rw [if_pos (by omega), if_pos (by have := hn (gt (u ε)); omega)]
      simp
    · have ha : a ∈ B.full σ ow := mem_full.mpr (.inr (mem_oa.mpr ⟨j, hj, e1⟩))
      refine k _ _ (r1.write hj e1 (Fr.at (by simp)) upd_same (by rw [List.length_set]; exact e3.2) ?_)
      rw [hnew]
      exact (e4.fr (Fr.at ha)).set n (z1.fr (Fr.at ha))⟩⟩
end

theorem hfz_of {ow : List Nat} {γ γ' : List (Option D)} {x : Option D} (j : Nat) (hj : j ∈ ow) (h : γ' = γ.set j x) {i : Nat} {d : D} (hi : i ∉ ow) (e : γ[i]? = some (some d)) : γ'[i]? = some (some d) := by
  rw [h, List.getElem?_set_ne fun z => hi (by rw [← z]; exact hj)]
  exact e
theorem int_at {ns : List Int} {i : Nat} {x : V} (h : (ns.map V.int)[i]? = some x) : ∃ z, ns[i]? = some z ∧ x = .int z := by
  rw [List.getElem?_map] at h
  cases e : ns[i]? with
  | none => rw [e] at h; cases h
  | some z => rw [e] at h; injection h with h; exact ⟨z, rfl, h.symm⟩
/-! ### the law's start -/
def seedF (ns : List Int) : Int := ns.foldl (fun z c => (z * 48271 + c) % 2147483629 + 1) 7
def spStart (K : Frag) : Sp := fun vs H Q _ => ∃ (a : Addr) (ns : List Int), vs = [.ref a] ∧ SqL K H a (ns.map V.int) ∧ ns.length ≤ 63 ∧
  ∀ (q l : Addr) (H' : Hp), H q = none → H l = none → l ≠ q → Fr [] H H' → H' q = some (.lst [.ref l, .int 0, .int 0, .int (seedF ns)]) → H' l = some (.lst (ns.map V.int)) → Q (.ref q) H'
def spLaw (K : Frag) : Sp := fun vs H Q _ => ∃ (a : Addr) (ns : List Int), vs = [.ref a] ∧ SqL K H a (ns.map V.int) ∧ ns.length ≤ 63 ∧ ∀ H', Q (.bl true) H'
/-- the state as it may stand -/
def Wf (t : St4) : Prop := t.1.length ≤ 63 ∧ 0 ≤ t.2.1 ∧ 0 ≤ t.2.2.1 ∧ t.2.2.1 ≤ t.1.length ∧ 0 ≤ t.2.2.2 ∧ t.2.2.2 ≤ 2147483629
theorem seedF_ok (ns : List Int) : 0 ≤ seedF ns ∧ seedF ns ≤ 2147483629 := by
  unfold seedF
  have h : ∀ (xs : List Int) (z : Int), 0 ≤ z ∧ z ≤ 2147483629 → 0 ≤ xs.foldl (fun z c => (z * 48271 + c) % 2147483629 + 1) z ∧ xs.foldl (fun z c => (z * 48271 + c) % 2147483629 + 1) z ≤ 2147483629 := by
    intro xs
    induction xs with
    | nil => intro z h; exact h
    | cons x xs ih =>
      intro z h
      exact ih _ (by
        show 0 ≤ (z * 48271 + x) % 2147483629 + 1 ∧ (z * 48271 + x) % 2147483629 + 1 ≤ 2147483629
        omega)
  exact h ns 7 (by omega)
theorem seedF_take {ns : List Int} {i : Nat} {z : Int} (h : ns[i]? = some z) : seedF (ns.take (i + 1)) = (seedF (ns.take i) * 48271 + z) % 2147483629 + 1 := by
  unfold seedF
  rw [List.take_add_one, h, List.foldl_append]
  rfl
section
variable {P : Program} {w : World} {K : Frag} {mg : Str → Option Value} {base : Heap} {k : Nat} {f fS : Addr} {fd fdS : FuncData} {qual : Str} {st : Stmt} {N : List Str} {N' S' : Type}
theorem fn_law {owS ow' : List Nat} {ΓS : S' → List (Option D)} {Γ' : N' → List (Option D)} {G : St4 → Prop} {d : St4 → Out N' Bool S'} {px p1 p2 p3 p4 : Pos} {rest : List Stmt} (F : Fun K "law" qual st f fd) (m : Nat) (hN : N.length = m + 2) (S : FnScope N ["script"] (defScope st))
    (hbody : defBody st = .Assign [.Name "state" px] (.Call (.Name "_law_start" p1) [.Name "script" p2] [] p3) p4 :: rest) (GS : FnG P w K mg base k fS fdS ["script"] (spStart K)) (hm : mg "_law_start" = some (.ref fS)) (hk : PySem.W.keepIn K (.ref fS) = true) (hb : Binds K fdS ["script"] [])
    (body : ∀ (cdv : Value) (A : Around) (outer : List Env) (s : Shared) (H : Hp) (E : XK), Room k (A.deeper (envOfC qual (defScope st) s.heap.objs.size f cdv)) → A.guards = some [] →
      (∃ t, PS (XF P w K mg base N qual st f cdv A outer s H E) (.Assign [.Name "state" px] (.Call (.Name "_law_start" p1) [.Name "script" p2] [] p3) p4) t ∧ ∀ (a : Addr) (D : L2.Ends) (σ : L2.St) (H : Hp), σ = L2.start N [.ref a] → spStart K [.ref a] H (fun v H' => D.nx (σ.set 1 (some v)) H') E0 → t D σ H) ∧
      Dss (XF P w K mg base N qual st f cdv A outer s H E) ⟨[], [], none⟩ [1] (fun t : St4 => none :: some (.list (cSt t)) :: List.replicate m none) cB (fun _ => []) owS ΓS rest G d ow' Γ')
    (hG : ∀ t, Wf t → G t) (hd : ∀ t, Wf t → d t = .rt true) : FnG P w K mg base (k + 1) f fd ["script"] (spLaw K) := by
  refine fnG F S (fun vs H Q E ⟨a, ns, e, _⟩ => by rw [e]; rfl) fun cdv A outer s H vs Q E hr hg ⟨a, ns, e, hS, hlen, q⟩ => ?_
  subst e
  obtain ⟨⟨t, ht, hq⟩, hb2⟩ := body cdv A outer s H E hr hg
  rw [hbody]
  refine ⟨_, pss_cons ht hb2.pss, hq a _ _ _ rfl ⟨a, ns, rfl, hS, hlen, fun q' l H' h1 h2 h3 h4 h5 h6 => ?_⟩⟩
  have hw : Wf (ns, 0, 0, seedF ns) := ⟨hlen, Int.le_refl _, Int.le_refl _, (by show (0 : Int) ≤ (ns.length : Int); omega), seedF_ok ns⟩
  have es : L2.start N [V.ref a] = some (.ref a) :: none :: List.replicate m none := by
    unfold L2.start
    rw [hN]
    show some (V.ref a) :: List.replicate (m + 2 - 1) none = _
    rw [show m + 2 - 1 = m + 1 from rfl, List.replicate_succ]
  have eσ : (L2.start N [V.ref a]).set 1 (some (.ref q')) = some (.ref a) :: some (.ref q') :: List.replicate m none := by rw [es]; rfl
  refine ⟨H, (ns, 0, 0, seedF ns), ?_, hG _ hw, ?_⟩
  · rw [eσ]
    have ea : oa (some (V.ref a) :: some (V.ref q') :: List.replicate m none) [1] = [q'] := by simp [oa]
    have ef : (⟨[], [], none⟩ : Bd).full (some (V.ref a) :: some (V.ref q') :: List.replicate m none) [1] = [q'] := by simp [Bd.full, Bd.base, ea]
    refine ⟨by simp, fun i j a' hi hj _ _ => by rw [List.mem_singleton.mp hi, List.mem_singleton.mp hj], fun i d hi e => ?_, fun i d hi e => ?_, fun a' h => ?_, fun b o e _ => h4 b o e (by simp), fun a' h => ?_, fun a' h => absurd h (by simp), fun a' h => absurd h (by simp), fun p h => absurd h (by simp)⟩
    · match i with
      | 0 => simp at e
      | 1 => exact absurd (by simp) hi
      | i + 2 =>
        have e' : (List.replicate m (none : Option D))[i]? = some (some d) := by simpa using e
        have := List.eq_of_mem_replicate (List.mem_of_getElem? e')
        cases this
    · rw [List.mem_singleton.mp hi] at e ⊢
      have e' : PyData.list (cSt (ns, 0, 0, seedF ns)) = d := by simpa using e
      refine ⟨q', _, _, rfl, e'.symm, ⟨h5, by show 4 ≤ szN; decide⟩, ?_⟩
      rw [ef]
      exact .cons (.lst ⟨⟨by simp; exact h3, h6⟩, by rw [List.length_map]; show _ ≤ 16777216; omega⟩ (ints_fzl ns)) (.cons (.int _) (.cons (.int _) (.cons (.int _) .nil)))
    · rw [ea, List.mem_singleton] at h
      rw [h]
      exact ⟨_, h5⟩
    · rw [ea, List.mem_singleton] at h
      rw [h]
      exact .inl h1
  · rw [hd _ hw]
    intro v H' ex
    cases ex.2.1
    exact q H'
end
end Y
namespace Y
open PySem PySem.Spec PyProof.Rows L2

/-! ### the end of a law -/
theorem hp_law {P : Program} {w : World} {K : Frag} {mg mb : Str → Option Value} {k : Nat} {fa a : Addr} {fd : FuncData} {x : Str} {sp : Sp} {t1 : Shared} {vs : List Value} {ns : List Int} (KX : K.In t1.heap) (hns : t1.heap.Ns mainGlobals mg)
    (hb : t1.heap.Ns builtinsNs mb) (hbb : ∀ x : Str, x ≠ "__name__" → mb x = bootBuiltins x) (hlim : t1.heap.NoLimit) (hg : t1.gens = #[]) (ha : t1.heap.get? a = some { cls := .type "list", data := .seq vs.toArray }) (hl : ns.length ≤ sizeLine) (hr : Room k callerA)
    (F : ∀ base : Heap, K.In base → base.Ns mainGlobals mg → FnG P w K mg base k fa fd [x] sp) (hbind : ∀ (s : Shared) (u : Value), BindsTo s fd ⟨[u], []⟩ [(x, u)]) {H : Hp} (hO : Only H) (hsp : sp [.ref a] H (fun v _ => v = .bl true) E0)
    (hok : HOk P w H t1.heap) (hA : ∀ b, H b ≠ none → b = a) (hK : H a ≠ none → K.lookup a = none) :
    codeAny (model P w) callerA (.call (.ref fa) ⟨[.ref a], []⟩) (fun r s' => r = .ok (.ret (.bool true)) ∧ OldK t1.heap s'.heap ∧ s'.os = t1.os ∧ AllBare s'.gens) t1 := by
  have is_a : ∀ {b : Addr}, H b ≠ none → b = a := fun {b} h => hA b h
  have keepN : ∀ {b : Addr} {o : Obj} {es : Array DictEntry} {ep : Nat}, t1.heap.get? b = some o → o.data = .dict es ep → H b = none := fun {b o es ep} e d => Classical.byContradiction fun q => by
    have q2 := is_a q
    subst q2
    rw [ha] at e
    cases e
    have d2 : Data.seq vs.toArray _ = Data.dict es ep := d
    cases d2
  have nsK : ∀ {b : Addr} {m : Str → Option Value}, t1.heap.Ns b m → (hidT t1.heap H).Ns b m := fun {b m} h => by
    obtain ⟨o, es, ep, e, d, r⟩ := h
    exact ⟨o, es, ep, hidT_get e (keepN e d), d, r⟩
  have hKb : K.In (hidT t1.heap H) := fun b o e => hidT_get (KX b o e) (Classical.byContradiction fun q => by
    have q2 := is_a q
    subst q2
    rw [hK q] at e
    cases e)
  have hM : Mod K mg (hidT t1.heap H) := ⟨hKb, nsK hns, ⟨mb, nsK hb, hbb⟩, by obtain ⟨mc, h1, h2⟩ := hlim; exact ⟨mc, nsK h1, h2⟩⟩
  have env0 : Env0 P w K mg (hidT t1.heap H) callerA [] t1 H := ⟨rfl, hM, fun b o e => of_hidT e, Nat.le_of_eq (hidT_size _ _), trivial, fun b hb => absurd (show b ∈ ([] : List Addr) from hb) (by simp), hok, .of_eq hg⟩
  refine codeAny_mono ((F _ hKb (nsK hns)).run callerA [] t1 H ⟨[.ref a], []⟩ [.ref a] [.ref a] _ _ hr rfl env0 (hbind t1 (.ref a)) (.cons rfl .nil) hsp) fun r s' h => ?_
  match r, h with
  | .error e, h => exact (show False from h).elim
  | .ok .next, h => exact False.elim h
  | .ok .brk, h => exact False.elim h
  | .ok .cont, h => exact False.elim h
  | .ok (.ret u), h =>
    obtain ⟨v, H', os, bare, un, hok', r', q⟩ := h
    have q' : v = .bl true := q
    subst q'
    obtain rfl : u = Value.bool true := r'
    refine ⟨rfl, OldK.of_keep fun b o e => ?_, os, bare⟩
    rcases hO b with z | ⟨ob, xs, z⟩
    · exact un.keep b o e z (fun z => absurd (show b ∈ ([] : List Addr) from z) (by simp)) (by simp)
    · obtain ⟨e1, _⟩ := hok b _ z
      obtain ⟨e2, _⟩ := hok' b _ (un.frzs b ob _ z)
      rw [e] at e1
      cases e1
      exact e2
theorem fin_law {P : Program} {w : World} {K : Frag} {mg mb : Str → Option Value} {k : Nat} {fa a : Addr} {fd : FuncData} {x : Str} {t1 : Shared} {vs : List Value} {ns : List Int} (KX : K.In t1.heap) (hns : t1.heap.Ns mainGlobals mg)
    (hb : t1.heap.Ns builtinsNs mb) (hbb : ∀ x : Str, x ≠ "__name__" → mb x = bootBuiltins x) (hlim : t1.heap.NoLimit) (hg : t1.gens = #[]) (ha : t1.heap.get? a = some { cls := .type "list", data := .seq vs.toArray }) (hi : IntsAre vs ns) (hl : ns.length ≤ 63) (hr : Room k callerA)
    (F : ∀ base : Heap, K.In base → base.Ns mainGlobals mg → FnG P w K mg base k fa fd [x] (spLaw K)) (hbind : ∀ (s : Shared) (u : Value), BindsTo s fd ⟨[u], []⟩ [(x, u)]) :
    codeAny (model P w) callerA (.call (.ref fa) ⟨[.ref a], []⟩) (fun r s' => r = .ok (.ret (.bool true)) ∧ OldK t1.heap s'.heap ∧ s'.os = t1.os ∧ AllBare s'.gens) t1 := by
  have rv := vals_ints hi
  have lenV := hi.length
  have hz : ns.length ≤ sizeLine := by rw [sizeLine_eq]; omega
  cases hk : K.lookup a with
  | some o =>
    have e := KX a o hk
    rw [ha] at e
    cases e
    have hS : SqL K (fun _ => none) a (ns.map V.int) := .inr ⟨_, vs.toArray, _, hk, rfl, rfl, rfl, by rw [List.size_toArray, lenV]; exact hz, by simpa using rv⟩
    exact hp_law (H := fun _ => none) KX hns hb hbb hlim hg ha hz hr F hbind (fun _ => .inl rfl) ⟨a, ns, rfl, hS, hl, fun _ => rfl⟩ (fun b u z => by cases z) (fun b z => absurd rfl z) fun z => absurd rfl z
  | none =>
    have at_a : ∀ {b : Addr} {u : HO}, (if b = a then some (HO.frz { cls := .type "list", data := .seq vs.toArray } (.lst (ns.map V.int))) else none) = some u → b = a ∧ u = .frz { cls := .type "list", data := .seq vs.toArray } (.lst (ns.map V.int)) := fun {b u} z => by
      by_cases h : b = a
      · rw [if_pos h] at z
        injection z with z
        exact ⟨h, z.symm⟩
      · rw [if_neg h] at z
        cases z
    refine hp_law (H := fun b => if b = a then some (.frz { cls := .type "list", data := .seq vs.toArray } (.lst (ns.map V.int))) else none) KX hns hb hbb hlim hg ha hz hr F hbind (fun b => ?_) ⟨a, ns, rfl, .inl (.inr ⟨_, if_pos rfl⟩), hl, fun _ => rfl⟩ (fun b u z => ?_) (fun b z => ?_) fun _ => hk
    · by_cases h : b = a
      · exact .inr ⟨_, _, if_pos h⟩
      · exact .inl (if_neg h)
    · obtain ⟨h1, h2⟩ := at_a z
      subst h1 h2
      exact ⟨ha, by rw [List.length_map]; exact hz, vs, _, rv, ha⟩
    · by_cases h : b = a
      · exact h
      · exact absurd (if_neg h) z
theorem walk_law {l : PySem.W.OpenLaw} {k : Nat} {q : Program} {loose : List Str} {XP : (Str → Option Value) → Heap → Prop} {YP : World → Heap → Prop} {d : DefRec} {K : Params → Frag} {x : Str} (hn : l.most = some 63) (hdf : d.params.defaults = []) (hr : Room k callerA)
    (hY : ∀ (w : World) (h : Heap), YP w h → (K w.params).In h)
    (F : ∀ (w : World) (mg : Str → Option Value) (fa : Addr) (h : Heap), (K w.params).In h → h.Ns mainGlobals mg → mg d.name = some (.ref fa) →
      ∃ fd : FuncData, (∀ (s : Shared) (u : Value), BindsTo s fd ⟨[u], []⟩ [(x, u)]) ∧ ∀ base : Heap, (K w.params).In base → base.Ns mainGlobals mg → FnG l.prog w (K w.params) mg base k fa fd [x] (spLaw (K w.params))) :
    PySem.W.WalkO q loose XP YP l.row.toRowW d [] (fun f vs => PySem.call f vs) := by
  refine Att.attach_call hn hdf fun w s0 t1 mg mb fa o pm cd doc a vs ns G Z ho hd hcd hmg hobj hints hlen hg => ?_
  have KX := hY w _ Z
  obtain ⟨fd, hbd, hF⟩ := F w mg fa _ KX G.T.g hmg
  exact fin_law KX G.T.g G.T.b G.T.builtins G.T.nolimit hg hobj hints hlen hr hF hbd
end Y
namespace Y
open PySem PySem.Spec PyProof.Rows L2

/-! ### plain facts of the mirrors' words -/
section
variable {α β τ : Type}
theorem ixD_of [Inhabited α] {xs : List α} {k : Nat} {v : α} (h : xs[k]? = some v) : ixD xs (k : Int) = v := by
  unfold ixD
  rw [atI_nat h]
  rfl
theorem ixD_get [Inhabited α] {xs : List α} {k : Nat} (h : k < xs.length) : ixD xs (k : Int) = xs[k] := ixD_of (List.getElem?_eq_getElem h)
theorem cix_nat {xs : List α} {k : Nat} (h : k < xs.length) : CIx xs (k : Int) := ⟨by omega, by omega⟩
theorem cix_of {xs : List α} {i : Int} (h0 : 0 ≤ i) (h1 : i < xs.length) : CIx xs i := ⟨by omega, h1⟩
theorem ixD_mem [Inhabited α] {xs : List α} {i : Int} (h0 : 0 ≤ i) (h1 : i < xs.length) : ixD xs i ∈ xs := by
  obtain ⟨k, rfl⟩ := Int.eq_ofNat_of_zero_le h0
  have h : k < xs.length := by omega
  rw [ixD_get h]
  exact List.getElem_mem h
theorem mem_rng {a b x : Int} : x ∈ rng a b ↔ a ≤ x ∧ x < b := by
  unfold rng
  rw [List.mem_map]
  constructor
  · rintro ⟨i, h, rfl⟩
    rw [List.mem_range] at h
    omega
  · intro h
    exact ⟨(x - a).toNat, by rw [List.mem_range]; omega, by omega⟩
theorem rng_eq (n : Nat) : rng 0 (n : Int) = (List.range n).map fun (i : Nat) => (i : Int) := by
  unfold rng
  have e : ((n : Int) - 0).toNat = n := by omega
  rw [e]
  exact List.map_congr_left fun i _ => by omega
theorem cut_take {xs : List α} {i : Int} (h : 0 ≤ i) : cut xs none (some i) = xs.take i.toNat := by
  obtain ⟨k, rfl⟩ := Int.eq_ofNat_of_zero_le h
  unfold cut
  rw [HT.sIx_none, HT.sIx_nat, List.drop_zero, Nat.sub_zero, Int.toNat_natCast]
  rcases Nat.le_total k xs.length with h | h
  · rw [Nat.min_eq_left h]
  · rw [Nat.min_eq_right h, List.take_length, List.take_of_length_le h]
theorem cut_drop {xs : List α} {i : Int} (h : 0 ≤ i) : cut xs (some i) none = xs.drop i.toNat := by
  obtain ⟨k, rfl⟩ := Int.eq_ofNat_of_zero_le h
  unfold cut
  rw [HT.sIx_none, HT.sIx_nat, Int.toNat_natCast]
  rcases Nat.le_total k xs.length with h | h
  · rw [Nat.min_eq_left h, List.take_of_length_le (by simp)]
  · rw [Nat.min_eq_right h, List.drop_of_length_le h, List.drop_length]
    simp
theorem enum_eq (xs : List α) (k : Nat) (h : k < (enum xs).length) : (enum xs)[k] = ((k : Int), xs[k]'(by rw [enum_length] at h; exact h)) := by
  have h' : k < xs.length := by rw [enum_length] at h; exact h
  have e := enum_get xs k
  rw [List.getElem?_eq_getElem h, List.getElem?_eq_getElem h'] at e
  exact Option.some.inj e
/-- a loop by what holds at each turn, no turn leaving -/
theorem for_inv {R S T : Type} {g : T × α → Prop} {f : T × α → Out T R T} (P : T → Prop) : ∀ (xs : List α) (t : T), P t → (∀ t x, P t → x ∈ xs → g (t, x) ∧ ∃ t', f (t, x) = .nx t' ∧ P t') → forG g f t xs ∧ ∃ t', forO (S := S) f t xs = .nx t' ∧ P t'
  | [], t, h, _ => ⟨trivial, t, rfl, h⟩
  | x :: xs, t, h, k => by
    obtain ⟨h1, t', h2, h3⟩ := k t x h List.mem_cons_self
    obtain ⟨i1, t2, i2, i3⟩ := for_inv P xs t' h3 fun t y p m => k t y p (List.mem_cons_of_mem _ m)
    refine ⟨⟨h1, ?_⟩, t2, ?_, i3⟩
    · rw [h2]; exact i1
    · rw [forO, h2]; exact i2
theorem for_use {R S T : Type} {g : T × α → Prop} {f : T × α → Out T R T} {xs : List α} {t : T} (P : T → Prop) {G' : T → Prop} {Z : Out T R S → Prop} (h0 : P t) (k : ∀ t x, P t → x ∈ xs → g (t, x) ∧ ∃ t', f (t, x) = .nx t' ∧ P t') (rest : ∀ t', P t' → G' t' ∧ Z (.nx t')) :
    (forG g f t xs ∧ ∀ l, forO (S := S) f t xs = .nx l → G' l) ∧ Z (forO f t xs) := by
  obtain ⟨h1, t', h2, h3⟩ := for_inv (S := S) P xs t h0 k
  obtain ⟨r1, r2⟩ := rest t' h3
  rw [h2]
  exact ⟨⟨h1, fun l e => by injection e with e; rw [← e]; exact r1⟩, r2⟩
theorem forO_use {R S T : Type} {f : T × α → Out T R T} {xs : List α} {t : T} (P : T → Prop) {Z : Out T R S → Prop} (h0 : P t) (k : ∀ t x, P t → x ∈ xs → ∃ t', f (t, x) = .nx t' ∧ P t') (rest : ∀ t', P t' → Z (.nx t')) : Z (forO f t xs) := by
  obtain ⟨_, t', h2, h3⟩ := for_inv (g := fun _ => True) (S := S) P xs t h0 fun t x p m => ⟨trivial, k t x p m⟩
  rw [h2]
  exact rest t' h3
theorem forG_use {R T : Type} {g : T × α → Prop} {f : T × α → Out T R T} {xs : List α} {t : T} (P : T → Prop) (h0 : P t) (k : ∀ t x, P t → x ∈ xs → g (t, x) ∧ ∃ t', f (t, x) = .nx t' ∧ P t') : forG g f t xs := (for_inv (S := Unit) P xs t h0 k).1
/-- items drawn one by one -/
theorem lcS_inv {g : τ → α → Prop} {f : τ → α → β × τ} (P : τ → Prop) (Q : β → Prop) : ∀ (xs : List α) (s : τ), P s → (∀ s x, P s → x ∈ xs → g s x ∧ Q (f s x).1 ∧ P (f s x).2) → lcG g f s xs ∧ (∀ y ∈ (lcS f s xs).1, Q y) ∧ P (lcS f s xs).2 ∧ (lcS f s xs).1.length = xs.length
  | [], s, h, _ => ⟨trivial, fun _ z => (by cases z), h, rfl⟩
  | x :: xs, s, h, k => by
    obtain ⟨h1, h2, h3⟩ := k s x h List.mem_cons_self
    obtain ⟨i1, i2, i3, i4⟩ := lcS_inv P Q xs (f s x).2 h3 fun s y p m => k s y p (List.mem_cons_of_mem _ m)
    refine ⟨⟨h1, i1⟩, fun y hy => ?_, i3, by simp only [lcS, List.length_cons, i4]⟩
    rcases List.mem_cons.mp hy with rfl | hy
    · exact h2
    · exact i2 y hy
end

/-! ### what is shown -/
structure Sw (n k : Nat) (x : D) : Prop where
  s : x.showable = true
  h : x.hasDict = false
  d : x.depth ≤ k
  l : x.shown.length ≤ n
theorem Sw.shw {n k : Nat} {d : D} (x : Sw n k d) (hn : n ≤ 16777216) (hk : k ≤ 64) : Shw d := ⟨x.s, x.h, Nat.le_trans x.d hk, Nat.le_trans x.l hn⟩
theorem sw_int {i : Int} (h : i.natAbs.log2 < 200) : Sw 201 0 (.int i) :=
  ⟨by simp only [PyData.showable, decide_eq_true_eq]; omega, by simp [PyData.hasDict], by simp [PyData.depth], by
    have e := int_text_length_le (k := 200) (by decide) h
    show (Str.ofString (toString i)).length ≤ 201
    rw [PySem.ofString_length]; exact e⟩
theorem log2_lt {i : Int} {k : Nat} (h : i.natAbs < 2 ^ (k + 1)) : i.natAbs.log2 < k + 1 := by
  by_cases h0 : i.natAbs = 0
  · rw [h0, Nat.log2_zero]; omega
  · exact (Nat.log2_lt h0).mpr h
theorem sw_bool (b : Bool) : Sw 5 0 (.bool b) := ⟨by simp [PyData.showable], by simp [PyData.hasDict], by simp [PyData.depth], by cases b <;> decide⟩
theorem sw_none : Sw 4 0 .none := ⟨by simp [PyData.showable], by simp [PyData.hasDict], by simp [PyData.depth], by decide⟩
theorem Sw.mono {n k n' k' : Nat} {d : D} (x : Sw n k d) (hn : n ≤ n') (hk : k ≤ k') : Sw n' k' d := ⟨x.s, x.h, Nat.le_trans x.d hk, Nat.le_trans x.l hn⟩
theorem sw_all {n k : Nat} : ∀ (xs : List D), (∀ x ∈ xs, Sw n k x) → PyData.showableAll xs = true ∧ PyData.hasDictAll xs = false ∧ PyData.depthAll xs ≤ k ∧ ((PyData.shownAll xs).map (·.length)).sum ≤ xs.length * n ∧ (PyData.shownAll xs).length = xs.length
  | [], _ => ⟨by simp [PyData.showableAll], by simp [PyData.hasDictAll], by simp [PyData.depthAll], by simp [PyData.shownAll], by simp [PyData.shownAll]⟩
  | x :: xs, h => by
    have a := h x List.mem_cons_self
    obtain ⟨h1, h2, h3, h4, h5⟩ := sw_all xs fun y hy => h y (List.mem_cons_of_mem _ hy)
    refine ⟨by simp [PyData.showableAll, a.s, h1], by simp [PyData.hasDictAll, a.h, h2], ?_, ?_, by simp [PyData.shownAll, h5]⟩
    · have := a.d
      simp only [PyData.depthAll]; omega
    · have := a.l
      simp only [PyData.shownAll, List.map_cons, List.sum_cons, List.length_cons, Nat.add_mul]
      omega
theorem sw_tup {n k m : Nat} {xs : List D} (h : ∀ x ∈ xs, Sw n k x) (hl : xs.length ≤ m) : Sw (m * (n + 2) + 3) (k + 1) (.tuple xs) := by
  obtain ⟨h1, h2, h3, h4, h5⟩ := sw_all xs h
  refine ⟨by simp only [PyData.showable]; exact h1, by simp only [PyData.hasDict]; exact h2, by simp only [PyData.depth]; omega, ?_⟩
  have := tupleText_len_le (PyData.shownAll xs)
  rw [h5] at this
  have a1 : xs.length * (n + 2) ≤ m * (n + 2) := Nat.mul_le_mul_right _ hl
  have a2 : xs.length * (n + 2) = xs.length * n + xs.length * 2 := Nat.mul_add ..
  simp only [PyData.shown]
  omega
theorem sw_lst {n k m : Nat} {xs : List D} (h : ∀ x ∈ xs, Sw n k x) (hl : xs.length ≤ m) : Sw (m * (n + 2) + 3) (k + 1) (.list xs) := by
  obtain ⟨h1, h2, h3, h4, h5⟩ := sw_all xs h
  refine ⟨by simp only [PyData.showable]; exact h1, by simp only [PyData.hasDict]; exact h2, by simp only [PyData.depth]; omega, ?_⟩
  have := listText_len_le (PyData.shownAll xs)
  rw [h5] at this
  have a1 : xs.length * (n + 2) ≤ m * (n + 2) := Nat.mul_le_mul_right _ hl
  have a2 : xs.length * (n + 2) = xs.length * n + xs.length * 2 := Nat.mul_add ..
  simp only [PyData.shown]
  omega
theorem shw_TI {xs : List Int} (hl : xs.length ≤ 1000) (h : ∀ x ∈ xs, x.natAbs < 2 ^ 200) : Shw (cT cI xs) :=
  (sw_tup (n := 201) (k := 0) (m := 1000) (fun d hd => by
    obtain ⟨x, hx, rfl⟩ := List.mem_map.mp hd
    exact sw_int (log2_lt (k := 199) (h x hx))) (by rw [List.length_map]; exact hl)).shw (by decide) (by decide)
theorem eqv_T {α : Type} {c : α → D} {n : Nat} (h : Cq n c) (x : α) : PyData.eqv (c x) (c x) = true := PySem.SeqAt.eqv_refl _ (h.lay x)
end Y
namespace Y
open PySem PySem.Spec PyProof.Rows L2

/-! ### data of more than one form -/
section
variable {X : Cx} {B : Bd} {ow : List Nat} {E α β : Type} {Γ : E → List (Option D)} {p s : Bool} {e : Expr} {pos : Pos} {c : α → D} {c' : β → D} {G : E → Prop} {d : E → α} {u : E → E}
/-- told by another codec where it is of that form -/
theorem De.cast (g : α → β) (h : De X B ow Γ p s e c G d u) : De X B ow Γ p s e c' (fun ε => G ε ∧ c (d ε) = c' (g (d ε))) (fun ε => g (d ε)) u :=
  ⟨h.pe.weaken fun σ H Q ⟨H0, ε, r, ⟨gg, ge⟩, k⟩ => ⟨H0, ε, r, gg, fun v H' f r' z => k v H' f r' (by
    show Fz _ _ _ _ (c' (g (d ε)))
    rw [← ge]; exact z)⟩⟩
def asI : D → Int
  | .int i => i
  | _ => 0
def asB : D → Bool
  | .bool i => i
  | _ => false
def asS : D → Str
  | .str i => i
  | _ => default
def asT {α : Type} (f : D → α) : D → List α
  | .tuple ds => ds.map f
  | _ => []
def asL {α : Type} (f : D → α) : D → List α
  | .list ds => ds.map f
  | _ => []
def asO {α : Type} (f : D → α) : D → Option α
  | .none => none
  | d => some (f d)
def dnth (d : D) (n : Int) : D := match d with
  | .tuple ds => (atI ds n).getD .none
  | .list ds => (atI ds n).getD .none
  | _ => .none
def as2 {α β : Type} (f : D → α) (g : D → β) : D → α × β := fun d => (f (dnth d 0), g (dnth d 1))
def as3 {α β γ : Type} (f : D → α) (g : D → β) (h : D → γ) : D → α × β × γ := fun d => (f (dnth d 0), g (dnth d 1), h (dnth d 2))
/-- a part of a tuple of any form -/
def NthT (d : D) (n : Int) : Prop := ∃ ds x, d = .tuple ds ∧ atI ds n = some x
theorem d_nth {b : Expr} (n : Int) {dd : E → D} (h : De X B ow Γ p s e cD G dd u) (hb : De X B ow Γ true true b cI (fun _ => True) (fun _ => n) (fun ε => ε)) (hx : PlainIx b := by exact fun _ _ => rfl) :
    De X B ow Γ p s (.Subscript e b pos) cD (fun ε => G ε ∧ NthT (dd ε) n) (fun ε => dnth (dd ε) n) u :=
  ⟨(pe_ix (pos := pos) ix_tup h.pe hb.pe hx).weaken fun σ H Q ⟨H0, ε, rl, ⟨g1, g2⟩, k⟩ => ⟨H0, ε, rl, g1, fun v H1 f1 r1 z1 => ⟨H0, u ε, r1, trivial, fun w H2 f2 r2 z2 => by
    obtain ⟨ds, x, e1, e2⟩ := g2
    have z1' : Fz X.K (cond s (B.full σ ow) B.base) H1 v (.tuple ds) := by rw [← e1]; exact z1
    obtain ⟨a, vs, rfl, nd, l⟩ := z1'.tup_inv
    cases z2.int_inv
    obtain ⟨v', e3, z⟩ := l.atI e2
    have f2' : Fr [] H1 H2 := f2
    refine ⟨a, vs, n, v', rfl, rfl, (nd.fr f2'.nil).sq, e3, k _ H2 (f1.trans f2'.nil) r2 ?_⟩
    show Fz _ _ _ _ (dnth (dd ε) n)
    rw [e1]
    show Fz _ _ _ _ ((atI ds n).getD .none)
    rw [e2]
    exact z.fr f2'.nil⟩⟩⟩
/-- not, by truth -/
theorem d_notT {b : α → Bool} (h : De X B ow Γ p s e c G d u) (hb : ∀ (A : List Addr) (H : Hp) (v : V) (x : α), Fz X.K A H v (c x) → TruV X.K v H (b x)) : De X B ow Γ p s (.UnaryOp .Not e pos) cB G (fun ε => !b (d ε)) u :=
  ⟨(pe_notT h.pe).weaken fun σ H Q ⟨H0, ε, rl, g, k⟩ => ⟨H0, ε, rl, g, fun v H1 f1 r1 z1 => ⟨_, hb _ _ _ _ z1, k _ H1 f1 r1 (.bl _)⟩⟩⟩
end
/-- name, name = [] , e -/
theorem s_parN {X : Cx} {B : Bd} {ow ow' owS : List Nat} {E R S α β : Type} {Γ : E → List (Option D)} {ΓS : S → List (Option D)} {cr : R → D} {ci : R → List D} {pos px py pt pl : Pos} {x y : Str} {b : Expr} {ca : α → D} {cb : β → D} {G : E → Prop} {db : E → β} {kt k2 pt2} (i j : Nat)
    (h : ∀ B', De X B' ow Γ true true b cb G db (fun ε => ε)) (hl : ∀ ε, i < (Γ ε).length) (h' : ∀ m, m ∈ ow' ↔ m ∈ ow ∨ m = i) (h0 : B.io ≠ none → i ≠ 0)
    (hw : swappedStores [.Tuple [.Name x px, .Name y py] kt pt] (.Tuple [.List [] pl, b] k2 pt2) X.env = pure (some [x, y])) (hij : i ≠ j := by decide) (hjo : j ∉ ow := by decide) (hi : X.N[i]? = some x := by rfl) (hj : X.N[j]? = some y := by rfl)
    (hx : X.env.scope.names.lookup x = some .local := by rfl) (hy : X.env.scope.names.lookup y = some .local := by rfl) (hN : X.N.Nodup := by assumption) (hc : X.calm = true := by rfl)
    (hst1 : starEach [.List [] pl, b] X.env = (false, eval (.List [] pl) X.env) :: starEach [b] X.env := by rfl) (hst2 : starEach [b] X.env = (false, eval b X.env) :: starEach [] X.env := by rfl)
    (hs : swapsWithSole [.Tuple [.Name x px, .Name y py] kt pt] (.Tuple [.List [] pl, b] k2 pt2) pos.line X.env = pure false := by rfl) :
    Ds X B ow Γ cr ci owS ΓS (.Assign [.Tuple [.Name x px, .Name y py] kt pt] (.Tuple [.List [] pl, b] k2 pt2) pos) G (fun ε => .nx ((ε, ([] : List α)), db ε)) ow' (fun q : (E × List α) × β => ((Γ q.1.1).set i (some (.list (q.1.2.map ca)))).set j (some (cb q.2))) :=
  ⟨(ps_par hc hN hi hj hij hx hy (pa_cons (pe_lst pa_nil) (pa_cons (te := fun σ H Q => ∃ B', tS X.K B' ow Γ true true cb G db (fun ε => ε) σ H Q) ⟨fun pins s σ H Q I ⟨B', q⟩ => (h B').pe.run pins s σ H Q I q⟩ pa_nil hst2) hst1) hw hs).weaken fun Dn σ H ⟨H0, ε, rl, g, k⟩ => by
    refine ⟨Nat.zero_le _, fun q hq => ⟨B.plus q, H0, ε, rl.plus hq, g, fun w H' f r z => ⟨.ref q, w, rfl, ?_⟩⟩⟩
    have f' : Fr [] (upd H q (.lst [])) H' := f
    have r1 := (r.set hjo z)
    have z1 : FzL X.K ((B.plus q).full (σ.set j (some w)) ow) H' [] [] := .nil
    have hbq : q ∉ B.base := fun z => rl.base_trk q z hq
    have r2 := r1.setOwn (i := i) (ow' := ow') (f' _ _ upd_same (by simp)) (Nat.zero_le _) ((rl.h0 hq).resolve_right (rl.notio hq)) hbq z1 (by rw [List.length_set]; exact hl ε) h' h0
    have e1 : (σ.set j (some w)).set i (some (.ref q)) = (σ.set i (some (.ref q))).set j (some w) := (List.set_comm _ _ hij.symm)
    have e2 : ((Γ ε).set j (some (cb (db ε)))).set i (some (.list [])) = ((Γ ε).set i (some (.list []))).set j (some (cb (db ε))) := (List.set_comm _ _ hij.symm)
    rw [e1, e2] at r2
    exact k _ H' r2⟩
/-- name, name, name = e, e, e -/
theorem s_par3 {X : Cx} {B : Bd} {ow owS : List Nat} {E R S α β γ τ : Type} {Γ : E → List (Option D)} {ΓS : S → List (Option D)} {cr : R → D} {ci : R → List D} {pos px py pz pt : Pos} {x y z : Str} {a b c : Expr} {p : Bool} {u : E → E} {cs : τ → List D} {ca : α → D} {cb : β → D} {cc : γ → D} {dv : E → τ} {ga : τ → α} {gb : τ → β} {gc : τ → γ} {G : E → Prop} {kt k2 pt2} (i j l : Nat)
    (h : DA X B ow Γ p true [a, b, c] cs G dv u) (hcs : ∀ t, cs t = [ca (ga t), cb (gb t), cc (gc t)]) (hw : swappedStores [.Tuple [.Name x px, .Name y py, .Name z pz] kt pt] (.Tuple [a, b, c] k2 pt2) X.env = pure (some [x, y, z]))
    (hij : i ≠ j := by decide) (hil : i ≠ l := by decide) (hjl : j ≠ l := by decide) (hio : i ∉ ow := by decide) (hjo : j ∉ ow := by decide) (hlo : l ∉ ow := by decide) (hi : X.N[i]? = some x := by rfl) (hj : X.N[j]? = some y := by rfl) (hl : X.N[l]? = some z := by rfl)
    (hx : X.env.scope.names.lookup x = some .local := by rfl) (hy : X.env.scope.names.lookup y = some .local := by rfl) (hz : X.env.scope.names.lookup z = some .local := by rfl) (hN : X.N.Nodup := by assumption) (hc : X.calm = true := by rfl)
    (hs : swapsWithSole [.Tuple [.Name x px, .Name y py, .Name z pz] kt pt] (.Tuple [a, b, c] k2 pt2) pos.line X.env = pure false := by rfl) :
    Ds X B ow Γ cr ci owS ΓS (.Assign [.Tuple [.Name x px, .Name y py, .Name z pz] kt pt] (.Tuple [a, b, c] k2 pt2) pos) G (fun ε => .nx (((u ε, ga (dv ε)), gb (dv ε)), gc (dv ε))) ow
      (fun q : ((E × α) × β) × γ => (((Γ q.1.1.1).set i (some (ca q.1.1.2))).set j (some (cb q.1.2))).set l (some (cc q.2))) :=
  ⟨(ps_par3 hc hN hi hj hl hij hil hjl hx hy hz h.pa hw hs).weaken fun Dn σ H ⟨H0, ε, rl, g, k⟩ => ⟨H0, ε, rl, g, fun vs H' f r q => by
    have q' : FzL X.K (B.full σ ow) H' vs [ca (ga (dv ε)), cb (gb (dv ε)), cc (gc (dv ε))] := by rw [← hcs]; exact q
    obtain ⟨v, w, m, rfl, z1, z2, z3⟩ := fzl3 q'
    have r1 := r.set hio z1
    have e1 : oa (σ.set i (some v)) ow = oa σ ow := oa_set hio
    have r2 := r1.set (i := j) (v := w) (d := cb (gb (dv ε))) hjo (by unfold Bd.full; rw [e1]; exact z2)
    have e2 : oa ((σ.set i (some v)).set j (some w)) ow = oa σ ow := by rw [oa_set hjo, e1]
    exact ⟨v, w, m, rfl, k _ H' (r2.set hlo (by unfold Bd.full; rw [e2]; exact z3))⟩⟩⟩
end Y
namespace Y
open PySem PySem.Spec PyProof.Rows L2

/-! ### lists of one's own, read as if frozen -/
theorem Rel.plusTo {K : Frag} {B : Bd} {H0 H H' : Hp} {ow : List Nat} {σ : L2.St} {γ : List (Option D)} {q : Addr} {o : HO} (r : Rel K B H0 ow σ H γ) (hq : H q = none) (f : Fr [] H H') (h : H' q = some o) : Rel K (B.plus q) H0 ow σ H' γ :=
  (r.plus hq (o := o)).grow fun b u e _ => by
    by_cases hb : b = q
    · rw [hb, upd_same] at e
      rw [hb, h, e]
    · rw [upd_ne hb] at e
      exact f b u e (by simp)
theorem lfs_map {α : Type} {c : α → D} (h : ∀ x, lf (c x) = true) : ∀ xs : List α, lf.lfs (xs.map c) = true
  | [] => by simp [lf.lfs]
  | x :: xs => by simp [lf.lfs, h x, lfs_map h xs]
section
variable {X : Cx} {B : Bd} {ow ow2 owS : List Nat} {E R S α β : Type} {Γ : E → List (Option D)} {ΓS : S → List (Option D)} {cr : R → D} {ci : R → List D} {pos spos py : Pos} {tg e elt : Expr} {ifs : List Expr} {c : α → D} {ce : β → D} {s : Bool} {G : E → Prop} {dl : E → List β} {dv : E → β}
theorem tFs_thaw {K : Frag} {σ : L2.St} {H : Hp} {Q : VK} (hs : ∀ i ∈ ow2, i ∈ ow) (hio : B.io ≠ none → 0 ∈ ow2) (hl : ∀ x, lf (ce x) = true) (h : tFs K B ow Γ true ce G dl (fun ε => ε) σ H Q) : tFs K B ow2 Γ true ce G dl (fun ε => ε) σ H Q := by
  obtain ⟨H0, ε, rl, g, k⟩ := h
  refine ⟨H0, ε, rl.freeze hs hio, g, fun q H' vs hq f r hv hz z => ?_⟩
  have f' : Fr [] H H' := f
  have r1 := rl.plusTo hq f' hv
  refine k q H' vs hq f r1 hv hz ((z.up (A' := oa σ ow) r1.trk (lfs_map hl _)).sub fun a ha => ?_)
  rcases mem_full.mp ha with h | h
  · exact List.mem_append_left _ (mem_full.mpr (.inl h))
  · exact List.mem_append_right _ h
theorem DL.thaw (hs : ∀ i ∈ ow2, i ∈ ow) (hio : B.io ≠ none → 0 ∈ ow2) (hl : ∀ x, lf (ce x) = true) (h : DL X B ow2 Γ true e ce G dl (fun ε => ε)) : DL X B ow Γ true e ce G dl (fun ε => ε) :=
  ⟨h.pe.weaken fun σ H Q q => tFs_thaw hs hio hl q⟩
theorem De.thaw (hs : ∀ i ∈ ow2, i ∈ ow) (hio : B.io ≠ none → 0 ∈ ow2) (hl : ∀ x, lf (ce x) = true) (h : De X B ow2 Γ true true e ce G dv (fun ε => ε)) : De X B ow Γ true true e ce G dv (fun ε => ε) :=
  ⟨h.pe.weaken fun σ H Q ⟨H0, ε, rl, g, k⟩ => ⟨H0, ε, rl.freeze hs hio, g, fun v H' f r z => by
    have f' : Fr [] H H' := f
    have r1 := rl.grow f'
    refine k v H' f r1 ?_
    have z1 : Fz X.K (B.full σ ow2) H' v (ce (dv ε)) := z
    refine (z1.up (A' := oa σ ow) r1.trk (hl _)).sub fun a ha => ?_
    rcases mem_full.mp ha with h | h
    · exact List.mem_append_left _ (mem_full.mpr (.inl h))
    · exact List.mem_append_right _ h⟩⟩
variable {xs : E → List α} {js : List Nat} {g : TG} {ft : α → List (Option D) → List (Option D)} {tt : E × α → Bool} {Gt Ge : E × α → Prop} {de : E × α → β} {own : List (Str × Nat)} {scope : Scope} {y : Str}
theorem s_asgLcT (i : Nat) (hsw : swapsWith (.ListComp elt [⟨tg, e, ifs, 0⟩] scope pos) (some (.Name y py)) spos.line X.env = pure true) (hs2 : ∀ i ∈ ow2, i ∈ ow) (hio2 : B.io ≠ none → 0 ∈ ow2) (hl : ∀ x, lf (ce x) = true) (hi : DI X B ow2 Γ true tg e c G xs (fun ε => ε)) (ok : BlkOk X.N X.env.scope scope own) (ht : TgR X.K c js g ft)
    (hg : ∀ (s : Shared) (H : Hp) (C : Addr) (cl : List (Str × Addr)) (fp : List Addr), PG (X.blk s H scope (compEnvC scope cl C X.env) fp) tg g)
    (hT : ∀ (s : Shared) (H : Hp) (C : Addr) (cl : List (Str × Addr)) (fp : List Addr), DT (X.blk s H scope (compEnvC scope cl C X.env) fp) ow2 (fun q : E × α => ft q.2 (wipeG (Γ q.1) (own.map (·.2)))) ifs Gt tt)
    (hE : ∀ (s : Shared) (H : Hp) (C : Addr) (cl : List (Str × Addr)) (fp : List Addr) (B' : Bd), De (X.blk s H scope (compEnvC scope cl C X.env) fp) B' ow2 (fun q : E × α => ft q.2 (wipeG (Γ q.1) (own.map (·.2)))) true true elt ce Ge de (fun q => q))
    (hio : i ∉ ow := by decide) (hjv : ∀ j ∈ js, j ∈ own.map (·.2) := by decide) (hvo : ∀ j ∈ own.map (·.2), j ∉ ow2 := by decide) (hy : X.N[i]? = some y := by rfl) (hyl : X.env.scope.names.lookup y = some .local := by rfl)
    (hN : X.N.Nodup := by assumption) (hc : X.calm = true := by rfl) (hs : ∀ x, foldedSetIterable e X.env x = pure x := by intro _; rfl) :
    Ds X B ow Γ cr ci owS ΓS (.Assign [.Name y py] (.ListComp elt [⟨tg, e, ifs, 0⟩] scope pos) spos) (fun ε => G ε ∧ ∀ x ∈ xs ε, Gt (ε, x) ∧ (tt (ε, x) = true → Ge (ε, x))) (fun ε => .nx (ε, ((xs ε).filter fun x => tt (ε, x)).map fun x => de (ε, x))) ow
      (fun q : E × List β => (Γ q.1).set i (some (cL ce q.2))) :=
  ⟨(ps_setLc (te := tSB X.K ow2 (fun q : E × α => ft q.2 (wipeG (Γ q.1) (own.map (·.2)))) ce Ge de) hc hN hy hyl hsw hi.pi ok hg (fun s H C cl fp => (hT s H C cl fp).pts) (fun s H C cl fp => ⟨fun pins s' σ H' Q I ⟨B', q⟩ => (hE s H C cl fp B').pe.run pins s' σ H' Q I q⟩) hs).weaken fun Dn σ H ⟨H0, ε, rl, g, k⟩ => by
    refine lc_pure (Q := fun x H1 => Dn.nx (σ.set i (some x)) H1) ht hjv hvo (tFs_thaw (ow := ow) hs2 hio2 hl ⟨H0, ε, rl, g, fun q H' vs hq f r hv hz z => ?_⟩)
    have z2 : Fz X.K (B.full σ ow) H' (.ref q) (cL ce (((xs ε).filter fun x => tt (ε, x)).map fun x => de (ε, x))) := by
      refine .lst ⟨⟨fun h => ?_, hv⟩, hz⟩ (z.sub full_plus)
      rcases mem_full.mp h with h | h
      · exact rl.base_trk q h hq
      · exact (r.xt q (by simp [Bd.plus])).2 h
    exact k _ H' (r.unplus.set hio z2)⟩
theorem s_asgLcT0 (i : Nat) (hsw : swapsWith (.ListComp elt [⟨tg, e, [], 0⟩] scope pos) (some (.Name y py)) spos.line X.env = pure true) (hs2 : ∀ i ∈ ow2, i ∈ ow) (hio2 : B.io ≠ none → 0 ∈ ow2) (hl : ∀ x, lf (ce x) = true) (hi : DI X B ow2 Γ true tg e c G xs (fun ε => ε)) (ok : BlkOk X.N X.env.scope scope own) (ht : TgR X.K c js g ft)
    (hg : ∀ (s : Shared) (H : Hp) (C : Addr) (cl : List (Str × Addr)) (fp : List Addr), PG (X.blk s H scope (compEnvC scope cl C X.env) fp) tg g)
    (hE : ∀ (s : Shared) (H : Hp) (C : Addr) (cl : List (Str × Addr)) (fp : List Addr) (B' : Bd), De (X.blk s H scope (compEnvC scope cl C X.env) fp) B' ow2 (fun q : E × α => ft q.2 (wipeG (Γ q.1) (own.map (·.2)))) true true elt ce Ge de (fun q => q))
    (hio : i ∉ ow := by decide) (hjv : ∀ j ∈ js, j ∈ own.map (·.2) := by decide) (hvo : ∀ j ∈ own.map (·.2), j ∉ ow2 := by decide) (hy : X.N[i]? = some y := by rfl) (hyl : X.env.scope.names.lookup y = some .local := by rfl)
    (hN : X.N.Nodup := by assumption) (hc : X.calm = true := by rfl) (hs : ∀ x, foldedSetIterable e X.env x = pure x := by intro _; rfl) :
    Ds X B ow Γ cr ci owS ΓS (.Assign [.Name y py] (.ListComp elt [⟨tg, e, [], 0⟩] scope pos) spos) (fun ε => G ε ∧ ∀ x ∈ xs ε, Ge (ε, x)) (fun ε => .nx (ε, (xs ε).map fun x => de (ε, x))) ow
      (fun q : E × List β => (Γ q.1).set i (some (cL ce q.2))) :=
  (s_asgLcT i hsw hs2 hio2 hl hi ok ht hg (fun _ _ _ _ _ => dt_nil) hE hio hjv hvo hy hyl hN hc hs).is (fun _ h => ⟨h.1, fun x hx => ⟨trivial, fun _ => h.2 x hx⟩⟩) fun _ _ => by rw [filt_true]
end
theorem lf_T {α : Type} {c : α → D} (h : ∀ x, lf (c x) = true) (xs : List α) : lf (cT c xs) = true := by
  simp only [lf]
  exact lfs_map h xs
theorem lf_O {α : Type} {c : α → D} (h : ∀ x, lf (c x) = true) (o : Option α) : lf (cO c o) = true := by
  cases o with
  | none => rfl
  | some x => exact h x
theorem lf_1 {α : Type} {a : α → D} (h : ∀ x, lf (a x) = true) (x : α) : lf (c1 a x) = true := by simp [lf, lf.lfs, h]
theorem lf_2 {α β : Type} {a : α → D} {b : β → D} (h : ∀ x, lf (a x) = true) (h2 : ∀ x, lf (b x) = true) (x : α × β) : lf (c2 a b x) = true := by simp [lf, lf.lfs, h, h2]
theorem lf_3 {α β γ : Type} {a : α → D} {b : β → D} {c : γ → D} (h : ∀ x, lf (a x) = true) (h2 : ∀ x, lf (b x) = true) (h3 : ∀ x, lf (c x) = true) (x : α × β × γ) : lf (c3 a b c x) = true := by simp [lf, lf.lfs, h, h2, h3]
theorem lf_4 {α β γ δ : Type} {a : α → D} {b : β → D} {c : γ → D} {d : δ → D} (h : ∀ x, lf (a x) = true) (h2 : ∀ x, lf (b x) = true) (h3 : ∀ x, lf (c x) = true) (h4 : ∀ x, lf (d x) = true) (x : α × β × γ × δ) : lf (c4 a b c d x) = true := by simp [lf, lf.lfs, h, h2, h3, h4]
theorem dss_eq {X : Cx} {B : Bd} {ow ow' owS : List Nat} {E N R S : Type} {Γ : E → List (Option D)} {Γ' : N → List (Option D)} {ΓS : S → List (Option D)} {cr : R → D} {ci : R → List D} {sts : List Stmt} {G G' : E → Prop} {d d' : E → Out N R S} (h : Dss X B ow Γ cr ci owS ΓS sts G d ow' Γ') (hg : G' = G) (hd : d' = d) : Dss X B ow Γ cr ci owS ΓS sts G' d' ow' Γ' := by
  subst hg hd; exact h
end Y
namespace Y
open PySem PySem.Spec PyProof.Rows PySem.W L2

/-! ### plain facts of loops that seek -/
section
variable {α β R S T : Type}
theorem forO_find {f : Unit × α → Out Unit R Unit} (p : α → Bool) (v : α → R) : ∀ (xs : List α), (∀ x ∈ xs, f ((), x) = if p x = true then .rt (v x) else .nx ()) → forO (S := S) f () xs = match xs.find? p with
    | some x => .rt (v x)
    | none => .nx ()
  | [], _ => rfl
  | x :: xs, h => by
    have h1 := h x List.mem_cons_self
    have ih := forO_find p v xs fun y hy => h y (List.mem_cons_of_mem _ hy)
    rw [forO, h1, List.find?_cons]
    cases p x
    · exact ih
    · rfl
theorem forG_all {g : Unit × α → Prop} {f : Unit × α → Out Unit R Unit} : ∀ (xs : List α), (∀ x ∈ xs, g ((), x)) → forG g f () xs
  | [], _ => trivial
  | x :: xs, h => by
    refine ⟨h x List.mem_cons_self, ?_⟩
    have ih := forG_all (g := g) (f := f) xs fun y hy => h y (List.mem_cons_of_mem _ hy)
    cases f ((), x) <;> first | exact ih | trivial
/-- a loop that no turn leaves, by its states -/
theorem forG_inv {g : T × α → Prop} {f : T × α → Out T R T} (P : T → Prop) : ∀ (xs : List α) (t : T), P t → (∀ t x, P t → x ∈ xs → g (t, x) ∧ ∀ t', f (t, x) = .nx t' ∨ f (t, x) = .ct t' → P t') → forG g f t xs
  | [], t, h, _ => trivial
  | x :: xs, t, h, k => by
    obtain ⟨h1, h2⟩ := k t x h List.mem_cons_self
    refine ⟨h1, ?_⟩
    have ih := fun t' (q : P t') => forG_inv (g := g) (f := f) P xs t' q fun t y p m => k t y p (List.mem_cons_of_mem _ m)
    cases e : f (t, x) with
    | nx t' => exact ih t' (h2 t' (.inl e))
    | ct t' => exact ih t' (h2 t' (.inr e))
    | bk t' => trivial
    | rt r => trivial
theorem forN_inv {g : T × α → Prop} {f : T × α → T} (P : T → Prop) : ∀ (xs : List α) (t : T), P t → (∀ t x, P t → x ∈ xs → g (t, x) ∧ P (f (t, x))) → forN g f t xs ∧ P (xs.foldl (fun m x => f (m, x)) t)
  | [], t, h, _ => ⟨trivial, h⟩
  | x :: xs, t, h, k => by
    obtain ⟨h1, h2⟩ := k t x h List.mem_cons_self
    obtain ⟨i1, i2⟩ := forN_inv P xs _ h2 fun t y p m => k t y p (List.mem_cons_of_mem _ m)
    exact ⟨⟨h1, i1⟩, i2⟩
theorem forN_rest {g : T × α → Prop} {f : T × α → T} (P : T → List α → Prop) (k : ∀ t x xs, P t (x :: xs) → g (t, x) ∧ P (f (t, x)) xs) : ∀ (xs : List α) (t : T), P t xs → forN g f t xs ∧ P (xs.foldl (fun m x => f (m, x)) t) []
  | [], t, h => ⟨trivial, h⟩
  | x :: xs, t, h => by
    obtain ⟨h1, h2⟩ := k t x xs h
    obtain ⟨i1, i2⟩ := forN_rest P k xs _ h2
    exact ⟨⟨h1, i1⟩, i2⟩
theorem forN_all {g : T × α → Prop} {f : T × α → T} (xs : List α) (t : T) (h : ∀ t, ∀ x ∈ xs, g (t, x)) : forN g f t xs := (forN_inv (fun _ => True) xs t trivial fun t x _ m => ⟨h t x m, trivial⟩).1
theorem srt_map {c : α → D} {c' : β → D} {f : α → β} {xs : List α} (h : ∀ a ∈ xs, ∀ b ∈ xs, dataLe false c a b = dataLe false c' (f a) (f b)) : srt c' (xs.map f) = (srt c xs).map f := (List.map_mergeSort h).symm
theorem srt_mem {c : α → D} {xs : List α} {x : α} : x ∈ srt c xs ↔ x ∈ xs := List.mem_mergeSort
theorem srt_length {c : α → D} {xs : List α} : (srt c xs).length = xs.length := List.length_mergeSort _
theorem le_I : dataLe false cI = fun a b : Int => decide (a ≤ b) := dataLe_int (β := Int) id
end
theorem rng_nil {a b : Int} (h : b ≤ a) : rng a b = [] := by
  unfold rng
  have : (b - a).toNat = 0 := by omega
  rw [this]; rfl
theorem rng_cons {a b : Int} (h : a < b) : rng a b = a :: rng (a + 1) b := by
  unfold rng
  obtain ⟨n, hn⟩ : ∃ n, (b - a).toNat = n + 1 := ⟨(b - a).toNat - 1, by omega⟩
  have h2 : (b - (a + 1)).toNat = n := by omega
  rw [hn, h2, List.range_succ_eq_map, List.map_cons, List.map_map]
  congr 1
  · omega
  · exact List.map_congr_left fun i _ => by simp only [Function.comp]; omega
theorem rng_snoc {a b : Int} (h : a ≤ b) : rng a (b + 1) = rng a b ++ [b] := by
  unfold rng
  have h2 : (b + 1 - a).toNat = (b - a).toNat + 1 := by omega
  rw [h2, List.range_succ, List.map_append, List.map_singleton]
  congr 2
  omega
end Y
namespace HT
open PySem PySem.Spec PyProof.Rows
section
variable {prog : Program} {w : World} {A : Around} {E : Value → Shared → Prop} {s : Shared}
theorem sliceApplied_rev {sl : Addr} {vl vu vs : Value} {n : Nat} {Q : Int × Int × Nat → Shared → Prop} (hs : s.heap.IsSliceOf sl vl vu vs) (pl : IsPart vl none) (pu : IsPart vu none) (ps : IsPart vs (some (-1)))
    (h : Q ((n : Int) - 1, -1, n) s) : wpAny (model prog w) A (Builtin.Slice.sliceApplied (.ref sl) (pure (n : Int))) Q E s := by
  obtain ⟨os, hos, hcs, hds⟩ := id hs
  unfold Builtin.Slice.sliceApplied Builtin.Slice.sliceFields
  refine wpAny_bind (wpAny_bind (wpAny_field hos hds (x := vl) rfl (wpAny_bind (wpAny_field hos hds (x := vu) rfl (wpAny_bind (wpAny_field hos hds (x := vs) rfl (wpAny_pure ?_)))))))
  refine wpAny_bind (slicePart_ ps ?_)
  show wpAny _ _ (if ((-1 : Int) == 0) = true then _ else _) _ _ s
  rw [if_neg (by decide)]
  refine wpAny_bind (slicePart_ pl (wpAny_bind (slicePart_ pu (wpAny_bind (wpAny_pure ?_)))))
  show wpAny _ _ (match Builtin.Slice.sliceAdjust none none (-1) (n : Int) with | (lo, hi) => pure (lo, (-1 : Int), Builtin.Slice.slicePlaces lo hi (-1))) _ _ s
  show wpAny _ _ (pure ((n : Int) - 1, (-1 : Int), Builtin.Slice.slicePlaces ((n : Int) - 1) (-1) (-1))) _ _ s
  have e : Builtin.Slice.slicePlaces ((n : Int) - 1) (-1) (-1) = n := by
    unfold Builtin.Slice.slicePlaces
    have h1 : ¬ ((-1 : Int) > 0) := by omega
    simp only [h1, if_false, Int.neg_neg, Int.ediv_one]
    split <;> omega
  rw [e]
  exact wpAny_pure h
theorem filterMap_same {α β : Type} {f g : α → Option β} : ∀ (xs : List α), (∀ x ∈ xs, f x = g x) → xs.filterMap f = xs.filterMap g
  | [], _ => rfl
  | x :: xs, h => by
    rw [List.filterMap_cons, List.filterMap_cons, h x List.mem_cons_self, filterMap_same xs fun y hy => h y (List.mem_cons_of_mem _ hy)]
theorem pick_rev (xs : Array Value) : ((List.range xs.size).filterMap fun (m : Nat) => xs[((xs.size : Int) - 1 + (m : Int) * (-1)).toNat]?).toArray = xs.toList.reverse.toArray := by
  have e : ∀ m ∈ List.range xs.size, (fun (m : Nat) => xs[((xs.size : Int) - 1 + (m : Int) * (-1)).toNat]?) m = (fun m => xs.toList.reverse[m]?) m := fun m hm => by
    rw [List.mem_range] at hm
    show xs[((xs.size : Int) - 1 + (m : Int) * (-1)).toNat]? = xs.toList.reverse[m]?
    have : ((xs.size : Int) - 1 + (m : Int) * (-1)).toNat = xs.size - 1 - m := by omega
    rw [this, List.getElem?_reverse (by simpa using hm), Array.getElem?_toList, Array.length_toList]
  rw [filterMap_same _ e]
  congr 1
  have : ∀ ys : List Value, (List.range ys.length).filterMap (fun m => ys[m]?) = ys := fun ys => by
    induction ys with
    | nil => rfl
    | cons y ys ih =>
      rw [List.length_cons, List.range_succ_eq_map, List.filterMap_cons]
      simp only [List.getElem?_cons_zero, List.filterMap_map]
      congr 1
  have := this xs.toList.reverse
  rw [List.length_reverse, Array.length_toList] at this
  exact this
theorem getItem_tuple_rev {t sl : Addr} {items : Array Value} {vl vu vs : Value} {Q : Value → Shared → Prop} (ht : IsTup s.heap t items) (hs : s.heap.IsSliceOf sl vl vu vs) (pl : IsPart vl none) (pu : IsPart vu none) (ps : IsPart vs (some (-1)))
    (h : Q (.ref s.heap.objs.size) { s with heap := s.heap.push { cls := .type "tuple", data := .seq items.toList.reverse.toArray } })
    (hsz : items.size ≤ sizeLine) : wpAny (model prog w) A (getItem (.ref t) (.ref sl)) Q E s := by
  have htake : sizeOk (.seq items.toList.reverse.toArray) := by
    show items.toList.reverse.toArray.size ≤ sizeLine
    rw [List.size_toArray, List.length_reverse, Array.length_toList]
    omega
  obtain ⟨os, hos, hcs, hds⟩ := id hs
  have hTs : s.TypeIs (.ref sl) "slice" := ⟨os, hos, hcs⟩
  unfold getItem
  try with_reducible refine wpAny_holding ?_
  first | refine wpAny_bind (wpAny_pure ?_) | skip
  refine wpAny_bind (wpAny_sequenceKey ht.typeIs (by decide) ?_)
  refine wpAny_bind (wpAny_callSpecial?_slot (name := Str.ofString "__getitem__") ht.typeIs PyProof.Rows.slot_tuple_getitem
    (wpAny_call_entry PyProof.Rows.slot_tuple_getitem ht.typeIs entry_tuple_getitem ?_ (args_tuple_getitem _ _)))
  show wpAny _ _ (Builtin.Tuple.tupleItemsOf (.ref t) >>= _) _ _ s
  refine wpAny_bind (tupleItemsOf_ ht ?_)
  refine wpAny_bind (wpAny_typeOf hTs ?_)
  rw [if_pos (by decide)]
  refine wpAny_bind (sliceApplied_rev hs pl pu ps ?_)
  have hno : ¬ (((items.size : Int) - 1 == 0 && (-1 : Int) == 1 && items.size == items.size) = true) := by
    intro q
    rw [Bool.and_eq_true, Bool.and_eq_true] at q
    exact absurd q.1.2 (by decide)
  show wpAny _ _ (if ((items.size : Int) - 1 == 0 && (-1 : Int) == 1 && items.size == items.size) = true then _ else _) _ _ s
  rw [if_neg hno, pick_rev]
  first
    | exact wpAny_bind (m := Builtin.Tuple.tupleExact _) (wpAny_newObj_type (wpAny_pure ⟨_, rfl, wpAny_pure h⟩) htake)
    | exact wpAny_bind (m := Builtin.Tuple.tupleExact _) (wpAny_newObj_type (wpAny_bind (wpAny_pure (wpAny_pure ⟨_, rfl, wpAny_pure h⟩))) htake)
    | exact wpAny_bind (wpAny_bind (m := Builtin.Tuple.tupleExact _) (wpAny_newObj_type (wpAny_pure (wpAny_pure ⟨_, rfl, wpAny_pure h⟩)) htake))
    | exact wpAny_bind (wpAny_bind (m := Builtin.Tuple.tupleExact _) (wpAny_newObj_type (wpAny_pure ⟨_, rfl, wpAny_pure h⟩) htake))
end
end HT
namespace Y
open PySem PySem.Spec PyProof.Rows L2
/-! ### xs[::-1] -/
section
variable {X : Cx}
def tRevT (K : PySem.W.Frag) (te : TE) : TE := fun σ H Q => te σ H fun x H1 => ∃ a xs, x = .ref a ∧ SqT K H1 a xs ∧ ∀ p, H1 p = none → Q (.ref p) (upd H1 p (.tup xs.reverse))
theorem pe_revT {e : Expr} {te : TE} {k : Nat} {p1 p2 p3 pos : Pos} (he : PE X e te) : PE X (.Subscript e (.Slice none none (some (.UnaryOp .USub (.Constant (.int 1) k p1) p2)) p3) pos) (tRevT X.K te) := by
  refine ⟨fun pins s σ H Q I h => ?_⟩
  refine Subscript_ (thn (he.run pins s σ H _ I h) fun v s1 ⟨x, H1, I1, r1, q1⟩ => ?_)
  obtain ⟨a, xs, ex, hx, q⟩ := q1
  subst ex
  cases r1
  have hst : PO X (some (.UnaryOp .USub (.Constant (.int 1) k p1) p2)) (tPart (tUn (rU fun i => .int (-i)) (tC (.int 1)))) := po_some (pe_un un_neg pe_int)
  refine wpAny_Slice (thn (po_none.run pins s1 σ H1 (fun o H2 => o = none ∧ H2 = H1) I1 ⟨rfl, rfl⟩) fun vl s2 ⟨l, H2, I2, pl, el, e2⟩ => ?_)
  subst el e2
  refine thn (po_none.run pins s2 σ H2 (fun o H3 => o = none ∧ H3 = H2) I2 ⟨rfl, rfl⟩) fun vu s3 ⟨u, H3, I3, pu, eu, e3⟩ => ?_
  subst eu e3
  refine thn (hst.run pins s3 σ H3 (fun o H4 => o = some (-1) ∧ H4 = H3) I3 ⟨1, rfl, -1, rfl, rfl, rfl⟩) fun vs s4 ⟨o, H4, I4, ps, eo, e4⟩ => ?_
  subst eo e4
  have I5 : Inv X pins σ H4 { s4 with heap := s4.heap.push { cls := .type "slice", data := .fields #[vl, vu, vs] } } := I4.kept (t' := s4.toks) fun b ob q => Heap.get?_push_of_some _ q
  obtain ⟨its, r, ht, hz⟩ := I5.tuple hx
  have hlen := r.length
  show wpAny (model X.prog X.w) X.A (subscriptTail e (.Slice none none (some (.UnaryOp .USub (.Constant (.int 1) k p1) p2)) p3) (.ref a) (.ref s4.heap.objs.size)) (EP X pins σ Q) X.xe { s4 with heap := s4.heap.push { cls := .type "slice", data := .fields #[vl, vu, vs] } }
  refine tail_any (ops := [.ref a, .ref s4.heap.objs.size]) ht.typeIs (PyProof.Rows.slot_tuple_getitem.lookup) ?_ (by with_unfolding_all rfl)
  refine HT.getItem_tuple_rev ht (Heap.IsSliceOf.new _ vl vu vs) pl pu ps ?_ (by rw [List.size_toArray]; omega)
  refine ⟨.ref _, _, I5.laid (t' := s4.toks) (o := .tup xs.reverse) (fun b ob q => Heap.get?_push_of_some _ q) (Nat.le_refl _) ?_, rfl, q _ (I5.hok.fresh (Nat.le_refl _))⟩
  exact ⟨by rw [List.length_reverse]; exact hz, _, r.reverse, IsTup.new _ _⟩
end
section
variable {X : Cx} {B : Bd} {ow : List Nat} {E α β : Type} {Γ : E → List (Option D)} {p s : Bool} {e : Expr} {pos p1 p2 p3 : Pos} {kk : Nat} {c : α → D} {G : E → Prop} {d : E → List α} {u : E → E}
theorem d_revT (h : De X B ow Γ p s e (cT c) G d u) : De X B ow Γ p s (.Subscript e (.Slice none none (some (.UnaryOp .USub (.Constant (.int 1) kk p1) p2)) p3) pos) (cT c) G (fun ε => (d ε).reverse) u :=
  ⟨(pe_revT h.pe).weaken fun σ H Q ⟨H0, ε, rl, g, k⟩ => ⟨H0, ε, rl, g, fun v H1 f1 r1 z1 => by
    obtain ⟨a, vs, rfl, n, l⟩ := z1.tup_inv
    refine ⟨a, vs, rfl, n.sq, fun q hq => k _ _ ((show Fr _ H H1 from f1).trans (Fr.new hq)) (r1.grow (Fr.new hq)) ?_⟩
    refine .tup (.inl ⟨(r1.tr s).new hq, upd_same, by rw [List.length_reverse]; exact n.sz⟩) ?_
    dsimp only
    rw [List.map_reverse]
    exact l.rev.fr (Fr.new hq)⟩⟩
theorem d_revL (h : De X B ow Γ true true e (cL c) G d u) : DL X B ow Γ true (.Subscript e (.Slice none none (some (.UnaryOp .USub (.Constant (.int 1) kk p1) p2)) p3) pos) c G (fun ε => (d ε).reverse) u :=
  ⟨(pe_revL h.pe).weaken fun σ H Q ⟨H0, ε, rl, g, k⟩ => ⟨H0, ε, rl, g, fun v H1 f1 r1 z1 => by
    have f1' : Fr [] H H1 := f1
    obtain ⟨a, vs, rfl, n, l⟩ := z1.lst_inv
    refine ⟨a, vs, rfl, n.sq, fun q hq => k q _ _ (f1'.back hq) (f1'.trans (Fr.new hq)) (r1.plus hq) upd_same (by rw [List.length_reverse]; exact n.2) ?_⟩
    dsimp only
    rw [List.map_reverse]
    exact fzl_plus hq l.rev⟩⟩
end
end Y
namespace Y
open PySem PySem.Spec PyProof.Rows L2

/-! ### what is shown, what is shaped -/
section
variable {α β γ : Type} {n k m l : Nat} {c : α → D} {c' : β → D} {a b d : D}
theorem sw_I {x : Int} (h : -1000000000000000000 ≤ x ∧ x ≤ 1000000000000000000) : Sw 201 0 (cI x) := sw_int (log2_lt (k := 199) (by
  have : x.natAbs ≤ 1000000000000000000 := by omega
  exact Nat.lt_of_le_of_lt this (by decide)))
theorem sw_1 (h1 : Sw n k a) : Sw (1 * (n + 2) + 3) (k + 1) (.tuple [a]) := sw_tup (fun d hd => by
  simp only [List.mem_cons, List.not_mem_nil, or_false] at hd
  rw [hd]; exact h1) (by simp)
theorem sw_2 (h1 : Sw n k a) (h2 : Sw n k b) : Sw (2 * (n + 2) + 3) (k + 1) (.tuple [a, b]) := sw_tup (fun d hd => by
  simp only [List.mem_cons, List.not_mem_nil, or_false] at hd
  rcases hd with rfl | rfl
  · exact h1
  · exact h2) (by simp)
theorem sw_3 {e : D} (h1 : Sw n k a) (h2 : Sw n k b) (h3 : Sw n k e) : Sw (3 * (n + 2) + 3) (k + 1) (.tuple [a, b, e]) := sw_tup (fun d hd => by
  simp only [List.mem_cons, List.not_mem_nil, or_false] at hd
  rcases hd with rfl | rfl | rfl
  · exact h1
  · exact h2
  · exact h3) (by simp)
theorem sw_4 {e f : D} (h1 : Sw n k a) (h2 : Sw n k b) (h3 : Sw n k e) (h4 : Sw n k f) : Sw (4 * (n + 2) + 3) (k + 1) (.tuple [a, b, e, f]) := sw_tup (fun d hd => by
  simp only [List.mem_cons, List.not_mem_nil, or_false] at hd
  rcases hd with rfl | rfl | rfl | rfl
  · exact h1
  · exact h2
  · exact h3
  · exact h4) (by simp)
theorem sw_T {xs : List α} (m : Nat) (hl : xs.length ≤ m) (h : ∀ x ∈ xs, Sw n k (c x)) : Sw (m * (n + 2) + 3) (k + 1) (cT c xs) := sw_tup (fun d hd => by
  obtain ⟨x, hx, rfl⟩ := List.mem_map.mp hd
  exact h x hx) (by rw [List.length_map]; exact hl)
theorem sw_L {xs : List α} (m : Nat) (hl : xs.length ≤ m) (h : ∀ x ∈ xs, Sw n k (c x)) : Sw (m * (n + 2) + 3) (k + 1) (cL c xs) := sw_lst (fun d hd => by
  obtain ⟨x, hx, rfl⟩ := List.mem_map.mp hd
  exact h x hx) (by rw [List.length_map]; exact hl)
theorem sw_O {o : Option α} (h : ∀ x, o = some x → Sw n k (c x)) : Sw (n + 4) k (cO c o) := by
  cases o with
  | none => exact sw_none.mono (by omega) (by omega)
  | some x => exact (h x rfl).mono (by omega) (by omega)
theorem shaped_lay {d : D} (h : SeqAt.shaped d = true) : d.canLay0 = true := SeqAt.canLay_of_shaped h
/-- shaped, by depth -/
structure Sp (k : Nat) (d : D) : Prop where
  l : d.canLay0 = true
  d : d.depth ≤ k
theorem Sp.ok (h : Sp k d) (hk : k ≤ 64 := by decide) : SeqAt.shaped d = true := by
  show (d.canLay0 && decide (d.depth ≤ 64)) = true
  rw [Bool.and_eq_true]
  exact ⟨h.l, decide_eq_true (Nat.le_trans h.d hk)⟩
theorem Sp.mono (h : Sp k d) (hk : k ≤ l) : Sp l d := ⟨h.l, Nat.le_trans h.d hk⟩
theorem sp_int (i : Int) : Sp 0 (.int i) := ⟨by simp [PyData.canLay0], by simp [PyData.depth]⟩
theorem sp_bool (i : Bool) : Sp 0 (.bool i) := ⟨by simp [PyData.canLay0], by simp [PyData.depth]⟩
theorem sp_none : Sp 0 .none := ⟨by simp [PyData.canLay0], by simp [PyData.depth]⟩
theorem sp_str {x : Str} (h : (PyData.str x).canLay0 = true) : Sp 0 (.str x) := ⟨h, by simp [PyData.depth]⟩
theorem sp_all : ∀ (xs : List D), (∀ x ∈ xs, Sp k x) → PyData.canLayAll0 xs = true ∧ PyData.depthAll xs ≤ k
  | [], _ => ⟨by simp [PyData.canLayAll0], by simp [PyData.depthAll]⟩
  | x :: xs, h => by
    obtain ⟨h1, h2⟩ := sp_all xs fun y hy => h y (List.mem_cons_of_mem _ hy)
    have h3 := h x List.mem_cons_self
    refine ⟨by simp [PyData.canLayAll0, h3.l, h1], ?_⟩
    have := h3.d
    simp only [PyData.depthAll]; omega
theorem sp_tup {xs : List D} (h : ∀ x ∈ xs, Sp k x) : Sp (k + 1) (.tuple xs) := ⟨by simp only [PyData.canLay0]; exact (sp_all xs h).1, by have := (sp_all xs h).2; simp only [PyData.depth]; omega⟩
theorem sp_lst {xs : List D} (h : ∀ x ∈ xs, Sp k x) : Sp (k + 1) (.list xs) := ⟨by simp only [PyData.canLay0]; exact (sp_all xs h).1, by have := (sp_all xs h).2; simp only [PyData.depth]; omega⟩
theorem sp_1 (h1 : Sp k a) : Sp (k + 1) (.tuple [a]) := sp_tup fun d hd => by
  simp only [List.mem_cons, List.not_mem_nil, or_false] at hd
  rw [hd]; exact h1
theorem sp_2 (h1 : Sp k a) (h2 : Sp k b) : Sp (k + 1) (.tuple [a, b]) := sp_tup fun d hd => by
  simp only [List.mem_cons, List.not_mem_nil, or_false] at hd
  rcases hd with rfl | rfl
  · exact h1
  · exact h2
theorem sp_3 {e : D} (h1 : Sp k a) (h2 : Sp k b) (h3 : Sp k e) : Sp (k + 1) (.tuple [a, b, e]) := sp_tup fun d hd => by
  simp only [List.mem_cons, List.not_mem_nil, or_false] at hd
  rcases hd with rfl | rfl | rfl
  · exact h1
  · exact h2
  · exact h3
theorem sp_T {xs : List α} (h : ∀ x ∈ xs, Sp k (c x)) : Sp (k + 1) (cT c xs) := sp_tup fun d hd => by
  obtain ⟨x, hx, rfl⟩ := List.mem_map.mp hd
  exact h x hx
theorem sp_L {xs : List α} (h : ∀ x ∈ xs, Sp k (c x)) : Sp (k + 1) (cL c xs) := sp_lst fun d hd => by
  obtain ⟨x, hx, rfl⟩ := List.mem_map.mp hd
  exact h x hx
theorem sp_O {o : Option α} (h : ∀ x, o = some x → Sp k (c x)) : Sp k (cO c o) := by
  cases o with
  | none => exact sp_none.mono (by omega)
  | some x => exact h x rfl
theorem eqv_str (x y : Str) : PyData.eqv (.str x) (.str y) = decide (x = y) := by
  by_cases h : x = y
  · subst h; rw [decide_eq_true rfl]; simp [PyData.eqv]
  · rw [decide_eq_false h]; simp [PyData.eqv, h]
theorem eqv_int (x y : Int) : PyData.eqv (.int x) (.int y) = decide (x = y) := by
  by_cases h : x = y
  · subst h; rw [decide_eq_true rfl]; simp [PyData.eqv]
  · rw [decide_eq_false h]; simp [PyData.eqv, h]
end
theorem ixD_last {α : Type} [Inhabited α] {xs : List α} {a : α} : ixD (xs ++ [a]) (-1) = a := by
  have e : ixN (xs ++ [a]).length (-1) = some xs.length := by
    unfold ixN
    rw [if_neg (by omega), List.length_append, List.length_singleton, if_pos (by omega)]
    congr 1
    omega
  unfold ixD L2.atI
  rw [e]
  simp
theorem ixD_zero {α : Type} [Inhabited α] {xs : List α} {a : α} : ixD (a :: xs) 0 = a := ixD_of (k := 0) rfl
theorem cix_ne {α : Type} {xs : List α} (h : (!xs.isEmpty) = true) : CIx xs 0 := by
  have : 0 < xs.length := List.length_pos_iff.mpr fun e => by rw [e] at h; cases h
  exact ⟨by omega, by omega⟩
theorem cix_ne1 {α : Type} {xs : List α} (h : (!xs.isEmpty) = true) : CIx xs (-1) := by
  have : 0 < xs.length := List.length_pos_iff.mpr fun e => by rw [e] at h; cases h
  exact ⟨by omega, by omega⟩
end Y
namespace Y
open PySem PySem.Spec PyProof.Rows L2
section
variable {X : Cx} {B : Bd} {ow : List Nat} {E α β τ : Type} {Γ : E → List (Option D)} {p p0 p1 p2 s : Bool} {e e1 e2 : Expr} {pos : Pos} {c : α → D} {c' : β → D} {G G1 G2 : E → Prop} {d d1 d2 : E → α} {t : E → Bool} {u u0 u1 u2 : E → E} {s1 s2 : E → τ}
/-- a if c else b, with effects -/
theorem d_ifE (put : E → τ → E) (hc : Dt X B ow Γ p0 e G t u0) (h1 : De X B ow Γ p1 s e1 c G1 d1 u1) (h2 : De X B ow Γ p2 s e2 c G2 d2 u2) (q1 : ∀ ε, u1 (u0 ε) = put ε (s1 ε)) (q2 : ∀ ε, u2 (u0 ε) = put ε (s2 ε)) :
    De X B ow Γ false s (.IfExp e e1 e2 pos) c (fun ε => G ε ∧ (t ε = true → G1 (u0 ε)) ∧ (t ε = false → G2 (u0 ε))) (fun ε => if t ε = true then d1 (u0 ε) else d2 (u0 ε)) (fun ε => put ε (if t ε = true then s1 ε else s2 ε)) :=
  ⟨(pe_ifExp hc.pt h1.pe h2.pe).weaken fun σ H Q ⟨H0, ε, rl, ⟨g, g1, g2⟩, k⟩ => ⟨H0, ε, rl, g, fun H1 f1 r1 => by
    have w : ∀ {q : Bool} {A : List Addr} {H H' : Hp}, Fr (cond q [] A) H H' → Fr A H H' := fun {q A H H'} f => by
      cases q
      · exact f
      · exact Fr.nil f
    cases h : t ε with
    | true =>
      show tS X.K B ow Γ p1 s c G1 d1 u1 σ H1 Q
      simp only [h, if_true] at k
      refine ⟨H0, u0 ε, r1, g1 h, fun v H2 f2 r2 z2 => k v H2 ((w f1).trans (w f2)) ?_ z2⟩
      rw [← q1]; exact r2
    | false =>
      show tS X.K B ow Γ p2 s c G2 d2 u2 σ H1 Q
      simp only [h, Bool.false_eq_true, if_false] at k
      refine ⟨H0, u0 ε, r1, g2 h, fun v H2 f2 r2 z2 => k v H2 ((w f1).trans (w f2)) ?_ z2⟩
      rw [← q2]; exact r2⟩⟩
/-- told by another codec, of that form wherever it stands -/
theorem De.asD (g : α → β) (h : De X B ow Γ p s e c G d u) (hc : ∀ ε, c (d ε) = c' (g (d ε))) : De X B ow Γ p s e c' G (fun ε => g (d ε)) u :=
  ⟨h.pe.weaken fun σ H Q ⟨H0, ε, r, gg, k⟩ => ⟨H0, ε, r, gg, fun v H' f r' z => k v H' f r' (by
    show Fz _ _ _ _ (c' (g (d ε)))
    rw [← hc]; exact z)⟩⟩
end
def fx1 {α : Type} [Inhabited α] : List α → α
  | a :: _ => a
  | _ => default
def fx2 {α : Type} [Inhabited α] : List α → α × α
  | a :: b :: _ => (a, b)
  | _ => default
def fx3 {α : Type} [Inhabited α] : List α → α × α × α
  | a :: b :: c :: _ => (a, b, c)
  | _ => default
def fx4 {α : Type} [Inhabited α] : List α → α × α × α × α
  | a :: b :: c :: d :: _ => (a, b, c, d)
  | _ => default

theorem v_mulW {K : Frag} : Op2 K (rI CMulW fun i j => .int (i * j)) cI cI cI CMulW (fun i j => i * j) := v_I fun _ _ _ _ => .int _
end Y
namespace Y
open PySem PySem.Spec PyProof.Rows PySem.W L2
section
variable {α β R S T : Type}
/-- a loop whose state is told by what was gone through -/
theorem fold_pre {g : T × α → Prop} {f : T × α → T} (st : List α → T) (xs : List α) (h : ∀ l1 x l2, xs = l1 ++ x :: l2 → g (st l1, x) ∧ f (st l1, x) = st (l1 ++ [x])) : forN g f (st []) xs ∧ xs.foldl (fun m x => f (m, x)) (st []) = st xs := by
  have key : ∀ l2 l1, xs = l1 ++ l2 → forN g f (st l1) l2 ∧ l2.foldl (fun m x => f (m, x)) (st l1) = st xs := by
    intro l2
    induction l2 with
    | nil =>
      intro l1 e
      rw [List.append_nil] at e
      subst e
      exact ⟨trivial, rfl⟩
    | cons x l2 ih =>
      intro l1 e
      obtain ⟨h1, h2⟩ := h l1 x l2 e
      obtain ⟨i1, i2⟩ := ih (l1 ++ [x]) (by rw [e, List.append_assoc]; rfl)
      refine ⟨⟨h1, ?_⟩, ?_⟩
      · rw [h2]; exact i1
      · rw [List.foldl_cons, h2]; exact i2
  exact key xs [] rfl
/-- the same over a range -/
theorem fold_rng {g : T × Int → Prop} {f : T × Int → T} (st : Nat → T) (n : Nat) (h : ∀ k, k < n → g (st k, (k : Int)) ∧ f (st k, (k : Int)) = st (k + 1)) : forN g f (st 0) (rng 0 (n : Int)) ∧ (rng 0 (n : Int)).foldl (fun m x => f (m, x)) (st 0) = st n := by
  have key : ∀ d k : Nat, k + d = n → forN g f (st k) (rng (k : Int) n) ∧ (rng (k : Int) n).foldl (fun m x => f (m, x)) (st k) = st n := by
    intro d
    induction d with
    | zero =>
      intro k e
      have : k = n := by omega
      subst this
      rw [rng_nil (Int.le_refl _)]
      exact ⟨trivial, rfl⟩
    | succ d ih =>
      intro k e
      obtain ⟨h1, h2⟩ := h k (by omega)
      obtain ⟨i1, i2⟩ := ih (k + 1) (by omega)
      have e2 : ((k + 1 : Nat) : Int) = (k : Int) + 1 := by omega
      rw [e2] at i1 i2
      rw [rng_cons (by omega)]
      refine ⟨⟨h1, ?_⟩, ?_⟩
      · rw [h2]; exact i1
      · rw [List.foldl_cons, h2]; exact i2
  exact key n 0 (by omega)
/-- a loop that does not leave, whose state is told by what was gone through -/
theorem forO_pre {g : T × α → Prop} {f : T × α → Out T R T} (st : List α → T) (xs : List α) (h : ∀ l1 x l2, xs = l1 ++ x :: l2 → g (st l1, x) ∧ (f (st l1, x) = .nx (st (l1 ++ [x])) ∨ f (st l1, x) = .ct (st (l1 ++ [x])))) : forG g f (st []) xs ∧ forO (S := S) f (st []) xs = .nx (st xs) := by
  have key : ∀ l2 l1, xs = l1 ++ l2 → forG g f (st l1) l2 ∧ forO (S := S) f (st l1) l2 = .nx (st xs) := by
    intro l2
    induction l2 with
    | nil =>
      intro l1 e
      rw [List.append_nil] at e
      subst e
      exact ⟨trivial, rfl⟩
    | cons x l2 ih =>
      intro l1 e
      obtain ⟨h1, h2⟩ := h l1 x l2 e
      obtain ⟨i1, i2⟩ := ih (l1 ++ [x]) (by rw [e, List.append_assoc]; rfl)
      rcases h2 with h2 | h2
      · refine ⟨⟨h1, ?_⟩, ?_⟩
        · rw [h2]; exact i1
        · rw [forO, h2]; exact i2
      · refine ⟨⟨h1, ?_⟩, ?_⟩
        · rw [h2]; exact i1
        · rw [forO, h2]; exact i2
  exact key xs [] rfl
theorem ixD_getLast [Inhabited α] {xs : List α} {a : α} (h : xs.getLast? = some a) : ixD xs (-1) = a := by
  obtain ⟨ys, rfl⟩ := List.getLast?_eq_some_iff.mp h
  exact ixD_last
theorem zip_maps {γ : Type} (f : α → β) (g : α → γ) (l : List α) : (l.map f).zip (l.map g) = l.map fun x => (f x, g x) := by
  induction l with
  | nil => rfl
  | cons x l ih => simp only [List.map_cons, List.zip_cons_cons, ih]
end
end Y
namespace Z
open PySem PySem.Spec PyProof.Rows L2 Y
def topS (i : Nat) : Stmt := PySem.Challenge.pw_ferrybook_k16_rivers_told_otherwise.main.body.getD i (.Pass ⟨0, 0, 0, 0⟩)
structure Tx (K : Y.Frag) (mg : Str → Option Value) (ad : Nat → Addr) (fd : Nat → FuncData) : Prop where
  F4 : Fun K "is_integer" "is_integer" (topS 4) (ad 4) (fd 4)
  M4 : mg "is_integer" = some (.ref (ad 4))
  F9 : Fun K "greatest_divisor" "greatest_divisor" (topS 9) (ad 9) (fd 9)
  M9 : mg "greatest_divisor" = some (.ref (ad 9))
  F10 : Fun K "quotient" "quotient" (topS 10) (ad 10) (fd 10)
  M10 : mg "quotient" = some (.ref (ad 10))
  F11 : Fun K "plus" "plus" (topS 11) (ad 11) (fd 11)
  M11 : mg "plus" = some (.ref (ad 11))
  F12 : Fun K "times" "times" (topS 12) (ad 12) (fd 12)
  M12 : mg "times" = some (.ref (ad 12))
  F13 : Fun K "over" "over" (topS 13) (ad 13) (fd 13)
  M13 : mg "over" = some (.ref (ad 13))
  F14 : Fun K "is_less" "is_less" (topS 14) (ad 14) (fd 14)
  M14 : mg "is_less" = some (.ref (ad 14))
  F15 : Fun K "sum_of" "sum_of" (topS 15) (ad 15) (fd 15)
  M15 : mg "sum_of" = some (.ref (ad 15))
  F16 : Fun K "is_quotient" "is_quotient" (topS 16) (ad 16) (fd 16)
  M16 : mg "is_quotient" = some (.ref (ad 16))
  F17 : Fun K "is_number" "is_number" (topS 17) (ad 17) (fd 17)
  M17 : mg "is_number" = some (.ref (ad 17))
  F19 : Fun K "is_heading" "is_heading" (topS 19) (ad 19) (fd 19)
  M19 : mg "is_heading" = some (.ref (ad 19))
  F20 : Fun K "check_bands" "check_bands" (topS 20) (ad 20) (fd 20)
  M20 : mg "check_bands" = some (.ref (ad 20))
  F21 : Fun K "check_speed" "check_speed" (topS 21) (ad 21) (fd 21)
  M21 : mg "check_speed" = some (.ref (ad 21))
  F22 : Fun K "check_headings" "check_headings" (topS 22) (ad 22) (fd 22)
  M22 : mg "check_headings" = some (.ref (ad 22))
  F23 : Fun K "time_of" "time_of" (topS 23) (ad 23) (fd 23)
  M23 : mg "time_of" = some (.ref (ad 23))
  F24 : Fun K "drift_of" "drift_of" (topS 24) (ad 24) (fd 24)
  M24 : mg "drift_of" = some (.ref (ad 24))
  F25 : Fun K "way_across" "way_across" (topS 25) (ad 25) (fd 25)
  M25 : mg "way_across" = some (.ref (ad 25))
  F26 : Fun K "crossing_in" "crossing_in" (topS 26) (ad 26) (fd 26)
  M26 : mg "crossing_in" = some (.ref (ad 26))
  F27 : Fun K "way_by_bands" "way_by_bands" (topS 27) (ad 27) (fd 27)
  M27 : mg "way_by_bands" = some (.ref (ad 27))
  F28 : Fun K "judge_landing" "judge_landing" (topS 28) (ad 28) (fd 28)
  M28 : mg "judge_landing" = some (.ref (ad 28))
  F29 : Fun K "least_time" "least_time" (topS 29) (ad 29) (fd 29)
  M29 : mg "least_time" = some (.ref (ad 29))
  F30 : Fun K "drift_between" "drift_between" (topS 30) (ad 30) (fd 30)
  M30 : mg "drift_between" = some (.ref (ad 30))
  F31 : Fun K "even_current" "even_current" (topS 31) (ad 31) (fd 31)
  M31 : mg "even_current" = some (.ref (ad 31))
  F32 : Fun K "start_for" "start_for" (topS 32) (ad 32) (fd 32)
  M32 : mg "start_for" = some (.ref (ad 32))
  F34 : Fun K "_law_start" "_law_start" (topS 34) (ad 34) (fd 34)
  M34 : mg "_law_start" = some (.ref (ad 34))
  F35 : Fun K "_law_draw" "_law_draw" (topS 35) (ad 35) (fd 35)
  M35 : mg "_law_draw" = some (.ref (ad 35))
  F36 : Fun K "_law_pick" "_law_pick" (topS 36) (ad 36) (fd 36)
  M36 : mg "_law_pick" = some (.ref (ad 36))
  F37 : Fun K "_law_same" "_law_same" (topS 37) (ad 37) (fd 37)
  M37 : mg "_law_same" = some (.ref (ad 37))
  F38 : Fun K "_law_low" "_law_low" (topS 38) (ad 38) (fd 38)
  M38 : mg "_law_low" = some (.ref (ad 38))
  F39 : Fun K "_law_plus" "_law_plus" (topS 39) (ad 39) (fd 39)
  M39 : mg "_law_plus" = some (.ref (ad 39))
  F40 : Fun K "_law_mul" "_law_mul" (topS 40) (ad 40) (fd 40)
  M40 : mg "_law_mul" = some (.ref (ad 40))
  F41 : Fun K "_law_number" "_law_number" (topS 41) (ad 41) (fd 41)
  M41 : mg "_law_number" = some (.ref (ad 41))
  F42 : Fun K "_law_river" "_law_river" (topS 42) (ad 42) (fd 42)
  M42 : mg "_law_river" = some (.ref (ad 42))
  F43 : Fun K "_law_headings" "_law_headings" (topS 43) (ad 43) (fd 43)
  M43 : mg "_law_headings" = some (.ref (ad 43))
  F44 : Fun K "_law_currents_hold" "_law_currents_hold" (topS 44) (ad 44) (fd 44)
  M44 : mg "_law_currents_hold" = some (.ref (ad 44))
  F45 : Fun K "_law_order_holds" "_law_order_holds" (topS 45) (ad 45) (fd 45)
  M45 : mg "_law_order_holds" = some (.ref (ad 45))
  F46 : Fun K "_law_goals_hold" "_law_goals_hold" (topS 46) (ad 46) (fd 46)
  M46 : mg "_law_goals_hold" = some (.ref (ad 46))
  F47 : Fun K "law" "law" (topS 47) (ad 47) (fd 47)
  M47 : mg "law" = some (.ref (ad 47))
  z_abs : mg "abs" = none
  z_all : mg "all" = none
  z_bool : mg "bool" = none
  z_int : mg "int" = none
  z_isinstance : mg "isinstance" = none
  z_len : mg "len" = none
  z_list : mg "list" = none
  z_range : mg "range" = none
  z_repr : mg "repr" = none
  z_tuple : mg "tuple" = none
  z_zip : mg "zip" = none
  c_MAX_BANDS : ∃ t, mg "MAX_BANDS" = some (.int 6 t)
  c_MAX_HEADING : ∃ t, mg "MAX_HEADING" = some (.int 65 t)
  c_MAX_SIZE : ∃ t, mg "MAX_SIZE" = some (.int 1000000000000 t)
abbrev E0_is_integer : Type := Int × Unit
def o_is_integer (a : E0_is_integer) : Out Empty (Bool) Empty :=
  (let value := a.1; (Out.rt ((true && (!false)))))
def m_is_integer (a : E0_is_integer) : Bool := (o_is_integer a).ret
def g_is_integer (a : E0_is_integer) : Prop :=
  (let value := a.1; (True ∧ (true = true → True)))
theorem sc_is_integer : FnScope ["value"] ["value"] (defScope (topS 4)) := ⟨rfl, rfl, rfl, by decide +kernel, rfl, by decide +kernel, by decide +kernel⟩
theorem b_is_integer {K : Y.Frag} {mg : Str → Option Value} {ad : Nat → Addr} {fd : Nat → FuncData} (T : Tx K mg ad fd) : Binds K (fd 4) ["value"] [] := T.F4.binds (ps := ["value"]) fun _ _ _ _ _ _ us hl => match us, hl with | [_], _ => rfl
theorem f_is_integer {P : Program} {w : World} {K : Y.Frag} {mg : Str → Option Value} {base : Heap} {ad : Nat → Addr} {fd : Nat → FuncData} (T : Tx K mg ad fd) : FnG P w K mg base 1 (ad 4) (fd 4) ["value"] (spP K (ac cI an) cB g_is_integer m_is_integer) :=
  fn_pure T.F4 sc_is_integer 0 (fun _ => rfl) rfl (owS := []) (ow' := []) (ΓS := fun _ : Empty => []) (Γ' := fun _ : Empty => []) (cr := cB) (ci := fun _ => []) (G := g_is_integer) (d := o_is_integer) (fun A0 cdv A outer s H E hr hg => by
    have hu : (A.deeper (envOfC _ (defScope (topS 4)) s.heap.objs.size _ cdv)).units + 64 < cLine := Nat.lt_of_le_of_lt (Nat.add_le_add_left (by decide) _) (room_un hr)
    have key : Dss (XF P w K mg base ["value"] "is_integer" (topS 4) (ad 4) cdv A outer s H E) ⟨A0, [], none⟩ [] (fun a : E0_is_integer => ((ac cI an) a).map some ++ List.replicate 0 none) cB (fun _ => []) [] (fun _ : Empty => []) (defBody (topS 4)) _ _ [] (fun _ : Empty => []) := (s_one (s_ret (r := fun v (_ : E0_is_integer) => v) (fun _ _ => rfl) rfl (d_and (d_isi (C := "int") (b := true) (d_var 0 (fun q : E0_is_integer => q.1) cI (fun _ => rfl)) ty_I T.z_isinstance T.z_int (by decide +kernel) (by decide +kernel)) (d_one (d_not (d_isi (C := "bool") (b := false) (d_var 0 (fun q : E0_is_integer => q.1) cI (fun _ => rfl)) ty_I T.z_isinstance T.z_bool (by decide +kernel) (by decide +kernel)))))))
    exact dss_eq key (by kernel_rfl) (by kernel_rfl)) (fun _ h => h) (fun a _ => ends_ret (fun r => r) (fun _ => rfl) (o_is_integer a))
abbrev E0_greatest_divisor : Type := Int × Int × Unit
abbrev E1_greatest_divisor : Type := Int × Int
abbrev E2_greatest_divisor : Type := E1_greatest_divisor × Int
abbrev E3_greatest_divisor : Type := E2_greatest_divisor × Int
abbrev E4_greatest_divisor : Type := E0_greatest_divisor × E1_greatest_divisor
def k1_greatest_divisor (q2 : E1_greatest_divisor) : Out E1_greatest_divisor Int E1_greatest_divisor :=
  (let first3 : Int := q2.2; let second4 : Int := (q2.1 % q2.2); (Out.nx ((first3, second4))))
def kg1_greatest_divisor (q2 : E1_greatest_divisor) : Prop :=
  ((True ∧ ((True ∧ True ∧ ((0 : Int) < q2.2)) ∧ True)) ∧ (let first3 : Int := q2.2; let second4 : Int := (q2.1 % q2.2); True))
def kt1_greatest_divisor (q2 : E1_greatest_divisor) : Bool :=
  (decide ((0 : Int) < q2.2))
def ktg1_greatest_divisor (q2 : E1_greatest_divisor) : Prop :=
  (True ∧ True ∧ True)
def o_greatest_divisor (a : E0_greatest_divisor) : Out Empty (Int) Empty :=
  (let first := a.1; let second := a.2.1; ((whO kt1_greatest_divisor k1_greatest_divisor (((Int.toNat second) + 1)) (first, second)).bind (fun l5 : E1_greatest_divisor => (Out.rt l5.1))))
def m_greatest_divisor (a : E0_greatest_divisor) : Int := (o_greatest_divisor a).ret
def g_greatest_divisor (a : E0_greatest_divisor) : Prop :=
  (let first := a.1; let second := a.2.1; ((whG ktg1_greatest_divisor kt1_greatest_divisor kg1_greatest_divisor k1_greatest_divisor (((Int.toNat second) + 1)) (first, second)) ∧ (∀ l5 : E1_greatest_divisor, (whO kt1_greatest_divisor k1_greatest_divisor (((Int.toNat second) + 1)) (first, second)) = Out.nx (S := Empty) l5 → True)))
theorem sc_greatest_divisor : FnScope ["first", "second"] ["first", "second"] (defScope (topS 9)) := ⟨rfl, rfl, rfl, by decide +kernel, rfl, by decide +kernel, by decide +kernel⟩
theorem b_greatest_divisor {K : Y.Frag} {mg : Str → Option Value} {ad : Nat → Addr} {fd : Nat → FuncData} (T : Tx K mg ad fd) : Binds K (fd 9) ["first", "second"] [] := T.F9.binds (ps := ["first", "second"]) fun _ _ _ _ _ _ us hl => match us, hl with | [_, _], _ => rfl
theorem f_greatest_divisor {P : Program} {w : World} {K : Y.Frag} {mg : Str → Option Value} {base : Heap} {ad : Nat → Addr} {fd : Nat → FuncData} (T : Tx K mg ad fd) : FnG P w K mg base 1 (ad 9) (fd 9) ["first", "second"] (spP K (ac cI (ac cI an)) cI g_greatest_divisor m_greatest_divisor) :=
  fn_pure T.F9 sc_greatest_divisor 0 (fun _ => rfl) rfl (owS := []) (ow' := []) (ΓS := fun _ : Empty => []) (Γ' := fun _ : Empty => []) (cr := cI) (ci := fun _ => []) (G := g_greatest_divisor) (d := o_greatest_divisor) (fun A0 cdv A outer s H E hr hg => by
    have hu : (A.deeper (envOfC _ (defScope (topS 9)) s.heap.objs.size _ cdv)).units + 64 < cLine := Nat.lt_of_le_of_lt (Nat.add_le_add_left (by decide) _) (room_un hr)
    have key : Dss (XF P w K mg base ["first", "second"] "greatest_divisor" (topS 9) (ad 9) cdv A outer s H E) ⟨A0, [], none⟩ [] (fun a : E0_greatest_divisor => ((ac cI (ac cI an)) a).map some ++ List.replicate 0 none) cI (fun _ => []) [] (fun _ : Empty => []) (defBody (topS 9)) _ _ [] (fun _ : Empty => []) := (s_consK (s_whileP (ΓL := (fun (e1 : E0_greatest_divisor) (m : E1_greatest_divisor) => [some (cI m.1), some (cI m.2)])) (fun q : E0_greatest_divisor => (q.1, q.2.1)) (fun (e1 : E0_greatest_divisor) (m : E1_greatest_divisor) => ((Int.toNat m.2) + 1)) (fun _ _ _ _ r => r) (fun e1 : E0_greatest_divisor => (t_cmp op_gt v_gt (d_var 1 (fun q : E1_greatest_divisor => q.2) cI (fun _ => rfl)) d_int (nomark _))) (fun e1 : E0_greatest_divisor => (s_cons (s_par 0 1 (ca := cI) (cb := cI) (ga := fun x : Int × Int × Unit => x.1) (gb := fun x : Int × Int × Unit => x.2.1) (a_cons (d_var 1 (fun q : E1_greatest_divisor => q.2) cI (fun _ => rfl)) (a_cons (d_op op_mod v_mod (d_var 0 (fun q : E1_greatest_divisor => q.1) cI (fun _ => rfl)) (d_var 1 (fun q : E1_greatest_divisor => q.2) cI (fun _ => rfl))) a_nil)) (fun _ => rfl) rfl (hN := sc_greatest_divisor.nd)) (s_end (ow2 := []) (Γ2 := (fun m : E1_greatest_divisor => [some (cI m.1), some (cI m.2)])) (fun q : E3_greatest_divisor => (q.1.2, q.2)) (fun _ _ _ _ r => r)))) PassesOwn.never) (s_one (s_ret (r := fun v (_ : E4_greatest_divisor) => v) (fun _ _ => rfl) rfl (d_var 0 (fun q : E4_greatest_divisor => q.2.1) cI (fun _ => rfl)))))
    exact dss_eq key (by kernel_rfl) (by kernel_rfl)) (fun _ h => h) (fun a _ => ends_ret (fun r => r) (fun _ => rfl) (o_greatest_divisor a))
abbrev E0_quotient : Type := Int × Int × Unit
abbrev E1_quotient : Type := E0_quotient × Int
abbrev E2_quotient : Type := E1_quotient × Int
abbrev E3_quotient : Type := E0_quotient × (Int × Int)
abbrev E4_quotient : Type := E3_quotient × Int
def o_quotient (a : E0_quotient) : Out Empty (Int × Int) Empty :=
  (let up := a.1; let down := a.2.1; (let j4 : Int × Int := (if (decide (down < (0 : Int))) = true then (let up2 : Int := (-up); let down3 : Int := (-down); (up2, down3)) else (up, down)); (let divisor5 : Int := (m_greatest_divisor ((((j4.1).natAbs : Nat) : Int), j4.2, ())); (Out.rt (((j4.1 / divisor5), (j4.2 / divisor5)))))))
def m_quotient (a : E0_quotient) : Int × Int := (o_quotient a).ret
def g_quotient (a : E0_quotient) : Prop :=
  (let up := a.1; let down := a.2.1; (((True ∧ True ∧ True) ∧ ((decide (down < (0 : Int))) = true → (((True ∧ True) ∧ ((True ∧ True) ∧ True)) ∧ (let up2 : Int := (-up); let down3 : Int := (-down); True))) ∧ ((decide (down < (0 : Int))) = false → True)) ∧ (let j4 : Int × Int := (if (decide (down < (0 : Int))) = true then (let up2 : Int := (-up); let down3 : Int := (-down); (up2, down3)) else (up, down)); (((((True ∧ True) ∧ True) ∧ (True ∧ True)) ∧ (g_greatest_divisor ((((j4.1).natAbs : Nat) : Int), j4.2, ()))) ∧ (let divisor5 : Int := (m_greatest_divisor ((((j4.1).natAbs : Nat) : Int), j4.2, ())); ((True ∧ True ∧ (CDivW j4.1 divisor5)) ∧ ((True ∧ True ∧ (CDivW j4.2 divisor5)) ∧ True)))))))
theorem sc_quotient : FnScope ["up", "down", "divisor"] ["up", "down"] (defScope (topS 10)) := ⟨rfl, rfl, rfl, by decide +kernel, rfl, by decide +kernel, by decide +kernel⟩
theorem b_quotient {K : Y.Frag} {mg : Str → Option Value} {ad : Nat → Addr} {fd : Nat → FuncData} (T : Tx K mg ad fd) : Binds K (fd 10) ["up", "down"] [] := T.F10.binds (ps := ["up", "down"]) fun _ _ _ _ _ _ us hl => match us, hl with | [_, _], _ => rfl
theorem f_quotient {P : Program} {w : World} {K : Y.Frag} {mg : Str → Option Value} {base : Heap} {ad : Nat → Addr} {fd : Nat → FuncData} (T : Tx K mg ad fd) : FnG P w K mg base 2 (ad 10) (fd 10) ["up", "down"] (spP K (ac cI (ac cI an)) (c2 cI cI) g_quotient m_quotient) :=
  fn_pure T.F10 sc_quotient 1 (fun _ => rfl) rfl (owS := []) (ow' := []) (ΓS := fun _ : Empty => []) (Γ' := fun _ : Empty => []) (cr := (c2 cI cI)) (ci := fun _ => []) (G := g_quotient) (d := o_quotient) (fun A0 cdv A outer s H E hr hg => by
    have hu : (A.deeper (envOfC _ (defScope (topS 10)) s.heap.objs.size _ cdv)).units + 64 < cLine := Nat.lt_of_le_of_lt (Nat.add_le_add_left (by decide) _) (room_un hr)
    have key : Dss (XF P w K mg base ["up", "down", "divisor"] "quotient" (topS 10) (ad 10) cdv A outer s H E) ⟨A0, [], none⟩ [] (fun a : E0_quotient => ((ac cI (ac cI an)) a).map some ++ List.replicate 1 none) (c2 cI cI) (fun _ => []) [] (fun _ : Empty => []) (defBody (topS 10)) _ _ [] (fun _ : Empty => []) := (s_cons (s_ifJ (t_cmp op_lt v_lt (d_var 1 (fun q : E0_quotient => q.2.1) cI (fun _ => rfl)) d_int (nomark _)) (s_cons (s_par 0 1 (ca := cI) (cb := cI) (ga := fun x : Int × Int × Unit => x.1) (gb := fun x : Int × Int × Unit => x.2.1) (a_cons (d_un un_neg v_neg (d_var 0 (fun q : E0_quotient => q.1) cI (fun _ => rfl))) (a_cons (d_un un_neg v_neg (d_var 1 (fun q : E0_quotient => q.2.1) cI (fun _ => rfl))) a_nil)) (fun _ => rfl) rfl (hN := sc_quotient.nd)) (s_end (ow2 := []) (Γ2 := fun q : E3_quotient => [some (cI q.2.1), some (cI q.2.2), none]) (fun q : E2_quotient => (q.1.1, (q.1.2, q.2))) (fun _ _ _ _ r => r))) (s_end (ow2 := []) (Γ2 := fun q : E3_quotient => [some (cI q.2.1), some (cI q.2.2), none]) (fun q : E0_quotient => (q, (q.1, q.2.1))) (fun _ _ _ _ r => r)) (fun _ => rfl) (fun _ => rfl)) (s_cons (s_asg 2 (d_call ((f_greatest_divisor T).mono (by decide)) hr hg T.M9 T.F9.kp (b_greatest_divisor T) (a_cons (d_blt call_abs v_abs T.z_abs (by decide +kernel) (a_cons (d_var 0 (fun q : E3_quotient => q.2.1) cI (fun _ => rfl)) a_nil)) (a_cons (d_var 1 (fun q : E3_quotient => q.2.2) cI (fun _ => rfl)) a_nil))) (hN := sc_quotient.nd)) (s_one (s_ret (r := fun v (_ : E4_quotient) => v) (fun _ _ => rfl) rfl (d_tp2 (a_cons (d_op op_fdivW v_fdiv (d_var 0 (fun q : E4_quotient => q.1.2.1) cI (fun _ => rfl)) (d_var 2 (fun q : E4_quotient => q.2) cI (fun _ => rfl))) (a_cons (d_op op_fdivW v_fdiv (d_var 1 (fun q : E4_quotient => q.1.2.2) cI (fun _ => rfl)) (d_var 2 (fun q : E4_quotient => q.2) cI (fun _ => rfl))) a_nil)))))))
    exact dss_eq key (by kernel_rfl) (by kernel_rfl)) (fun _ h => h) (fun a _ => ends_ret (fun r => r) (fun _ => rfl) (o_quotient a))
abbrev E0_plus : Type := (Int × Int) × (Int × Int) × Unit
def o_plus (a : E0_plus) : Out Empty (Int × Int) Empty :=
  (let first := a.1; let second := a.2.1; (Out.rt ((m_quotient (((first.1 * second.2) + (second.1 * first.2)), (first.2 * second.2), ())))))
def m_plus (a : E0_plus) : Int × Int := (o_plus a).ret
def g_plus (a : E0_plus) : Prop :=
  (let first := a.1; let second := a.2.1; ((((True ∧ True ∧ (CMulW first.1 second.2)) ∧ (True ∧ True ∧ (CMulW second.1 first.2)) ∧ True) ∧ ((True ∧ True ∧ (CMulW first.2 second.2)) ∧ True)) ∧ (g_quotient (((first.1 * second.2) + (second.1 * first.2)), (first.2 * second.2), ()))))
theorem sc_plus : FnScope ["first", "second"] ["first", "second"] (defScope (topS 11)) := ⟨rfl, rfl, rfl, by decide +kernel, rfl, by decide +kernel, by decide +kernel⟩
theorem b_plus {K : Y.Frag} {mg : Str → Option Value} {ad : Nat → Addr} {fd : Nat → FuncData} (T : Tx K mg ad fd) : Binds K (fd 11) ["first", "second"] [] := T.F11.binds (ps := ["first", "second"]) fun _ _ _ _ _ _ us hl => match us, hl with | [_, _], _ => rfl
theorem f_plus {P : Program} {w : World} {K : Y.Frag} {mg : Str → Option Value} {base : Heap} {ad : Nat → Addr} {fd : Nat → FuncData} (T : Tx K mg ad fd) : FnG P w K mg base 3 (ad 11) (fd 11) ["first", "second"] (spP K (ac (c2 cI cI) (ac (c2 cI cI) an)) (c2 cI cI) g_plus m_plus) :=
  fn_pure T.F11 sc_plus 0 (fun _ => rfl) rfl (owS := []) (ow' := []) (ΓS := fun _ : Empty => []) (Γ' := fun _ : Empty => []) (cr := (c2 cI cI)) (ci := fun _ => []) (G := g_plus) (d := o_plus) (fun A0 cdv A outer s H E hr hg => by
    have hu : (A.deeper (envOfC _ (defScope (topS 11)) s.heap.objs.size _ cdv)).units + 64 < cLine := Nat.lt_of_le_of_lt (Nat.add_le_add_left (by decide) _) (room_un hr)
    have key : Dss (XF P w K mg base ["first", "second"] "plus" (topS 11) (ad 11) cdv A outer s H E) ⟨A0, [], none⟩ [] (fun a : E0_plus => ((ac (c2 cI cI) (ac (c2 cI cI) an)) a).map some ++ List.replicate 0 none) (c2 cI cI) (fun _ => []) [] (fun _ : Empty => []) (defBody (topS 11)) _ _ [] (fun _ : Empty => []) := (s_one (s_ret (r := fun v (_ : E0_plus) => v) (fun _ _ => rfl) rfl (d_call ((f_quotient T).mono (by decide)) hr hg T.M10 T.F10.kp (b_quotient T) (a_cons (d_op op_add v_add (d_op op_mulW v_mulW (d_prj 0 (fun x : Int × Int => x.1) (cb := cI) (fun _ => ⟨_, rfl, rfl⟩) (d_var 0 (fun q : E0_plus => q.1) (c2 cI cI) (fun _ => rfl)) d_int) (d_prj 1 (fun x : Int × Int => x.2) (cb := cI) (fun _ => ⟨_, rfl, rfl⟩) (d_var 1 (fun q : E0_plus => q.2.1) (c2 cI cI) (fun _ => rfl)) d_int)) (d_op op_mulW v_mulW (d_prj 0 (fun x : Int × Int => x.1) (cb := cI) (fun _ => ⟨_, rfl, rfl⟩) (d_var 1 (fun q : E0_plus => q.2.1) (c2 cI cI) (fun _ => rfl)) d_int) (d_prj 1 (fun x : Int × Int => x.2) (cb := cI) (fun _ => ⟨_, rfl, rfl⟩) (d_var 0 (fun q : E0_plus => q.1) (c2 cI cI) (fun _ => rfl)) d_int))) (a_cons (d_op op_mulW v_mulW (d_prj 1 (fun x : Int × Int => x.2) (cb := cI) (fun _ => ⟨_, rfl, rfl⟩) (d_var 0 (fun q : E0_plus => q.1) (c2 cI cI) (fun _ => rfl)) d_int) (d_prj 1 (fun x : Int × Int => x.2) (cb := cI) (fun _ => ⟨_, rfl, rfl⟩) (d_var 1 (fun q : E0_plus => q.2.1) (c2 cI cI) (fun _ => rfl)) d_int)) a_nil)))))
    exact dss_eq key (by kernel_rfl) (by kernel_rfl)) (fun _ h => h) (fun a _ => ends_ret (fun r => r) (fun _ => rfl) (o_plus a))
abbrev E0_times : Type := (Int × Int) × (Int × Int) × Unit
def o_times (a : E0_times) : Out Empty (Int × Int) Empty :=
  (let first := a.1; let second := a.2.1; (Out.rt ((m_quotient ((first.1 * second.1), (first.2 * second.2), ())))))
def m_times (a : E0_times) : Int × Int := (o_times a).ret
def g_times (a : E0_times) : Prop :=
  (let first := a.1; let second := a.2.1; (((True ∧ True ∧ (CMulW first.1 second.1)) ∧ ((True ∧ True ∧ (CMulW first.2 second.2)) ∧ True)) ∧ (g_quotient ((first.1 * second.1), (first.2 * second.2), ()))))
theorem sc_times : FnScope ["first", "second"] ["first", "second"] (defScope (topS 12)) := ⟨rfl, rfl, rfl, by decide +kernel, rfl, by decide +kernel, by decide +kernel⟩
theorem b_times {K : Y.Frag} {mg : Str → Option Value} {ad : Nat → Addr} {fd : Nat → FuncData} (T : Tx K mg ad fd) : Binds K (fd 12) ["first", "second"] [] := T.F12.binds (ps := ["first", "second"]) fun _ _ _ _ _ _ us hl => match us, hl with | [_, _], _ => rfl
theorem f_times {P : Program} {w : World} {K : Y.Frag} {mg : Str → Option Value} {base : Heap} {ad : Nat → Addr} {fd : Nat → FuncData} (T : Tx K mg ad fd) : FnG P w K mg base 3 (ad 12) (fd 12) ["first", "second"] (spP K (ac (c2 cI cI) (ac (c2 cI cI) an)) (c2 cI cI) g_times m_times) :=
  fn_pure T.F12 sc_times 0 (fun _ => rfl) rfl (owS := []) (ow' := []) (ΓS := fun _ : Empty => []) (Γ' := fun _ : Empty => []) (cr := (c2 cI cI)) (ci := fun _ => []) (G := g_times) (d := o_times) (fun A0 cdv A outer s H E hr hg => by
    have hu : (A.deeper (envOfC _ (defScope (topS 12)) s.heap.objs.size _ cdv)).units + 64 < cLine := Nat.lt_of_le_of_lt (Nat.add_le_add_left (by decide) _) (room_un hr)
    have key : Dss (XF P w K mg base ["first", "second"] "times" (topS 12) (ad 12) cdv A outer s H E) ⟨A0, [], none⟩ [] (fun a : E0_times => ((ac (c2 cI cI) (ac (c2 cI cI) an)) a).map some ++ List.replicate 0 none) (c2 cI cI) (fun _ => []) [] (fun _ : Empty => []) (defBody (topS 12)) _ _ [] (fun _ : Empty => []) := (s_one (s_ret (r := fun v (_ : E0_times) => v) (fun _ _ => rfl) rfl (d_call ((f_quotient T).mono (by decide)) hr hg T.M10 T.F10.kp (b_quotient T) (a_cons (d_op op_mulW v_mulW (d_prj 0 (fun x : Int × Int => x.1) (cb := cI) (fun _ => ⟨_, rfl, rfl⟩) (d_var 0 (fun q : E0_times => q.1) (c2 cI cI) (fun _ => rfl)) d_int) (d_prj 0 (fun x : Int × Int => x.1) (cb := cI) (fun _ => ⟨_, rfl, rfl⟩) (d_var 1 (fun q : E0_times => q.2.1) (c2 cI cI) (fun _ => rfl)) d_int)) (a_cons (d_op op_mulW v_mulW (d_prj 1 (fun x : Int × Int => x.2) (cb := cI) (fun _ => ⟨_, rfl, rfl⟩) (d_var 0 (fun q : E0_times => q.1) (c2 cI cI) (fun _ => rfl)) d_int) (d_prj 1 (fun x : Int × Int => x.2) (cb := cI) (fun _ => ⟨_, rfl, rfl⟩) (d_var 1 (fun q : E0_times => q.2.1) (c2 cI cI) (fun _ => rfl)) d_int)) a_nil)))))
    exact dss_eq key (by kernel_rfl) (by kernel_rfl)) (fun _ h => h) (fun a _ => ends_ret (fun r => r) (fun _ => rfl) (o_times a))
abbrev E0_over : Type := (Int × Int) × (Int × Int) × Unit
def o_over (a : E0_over) : Out Empty (Int × Int) Empty :=
  (let first := a.1; let second := a.2.1; (Out.rt ((m_quotient ((first.1 * second.2), (first.2 * second.1), ())))))
def m_over (a : E0_over) : Int × Int := (o_over a).ret
def g_over (a : E0_over) : Prop :=
  (let first := a.1; let second := a.2.1; (((True ∧ True ∧ (CMulW first.1 second.2)) ∧ ((True ∧ True ∧ (CMulW first.2 second.1)) ∧ True)) ∧ (g_quotient ((first.1 * second.2), (first.2 * second.1), ()))))
theorem sc_over : FnScope ["first", "second"] ["first", "second"] (defScope (topS 13)) := ⟨rfl, rfl, rfl, by decide +kernel, rfl, by decide +kernel, by decide +kernel⟩
theorem b_over {K : Y.Frag} {mg : Str → Option Value} {ad : Nat → Addr} {fd : Nat → FuncData} (T : Tx K mg ad fd) : Binds K (fd 13) ["first", "second"] [] := T.F13.binds (ps := ["first", "second"]) fun _ _ _ _ _ _ us hl => match us, hl with | [_, _], _ => rfl
theorem f_over {P : Program} {w : World} {K : Y.Frag} {mg : Str → Option Value} {base : Heap} {ad : Nat → Addr} {fd : Nat → FuncData} (T : Tx K mg ad fd) : FnG P w K mg base 3 (ad 13) (fd 13) ["first", "second"] (spP K (ac (c2 cI cI) (ac (c2 cI cI) an)) (c2 cI cI) g_over m_over) :=
  fn_pure T.F13 sc_over 0 (fun _ => rfl) rfl (owS := []) (ow' := []) (ΓS := fun _ : Empty => []) (Γ' := fun _ : Empty => []) (cr := (c2 cI cI)) (ci := fun _ => []) (G := g_over) (d := o_over) (fun A0 cdv A outer s H E hr hg => by
    have hu : (A.deeper (envOfC _ (defScope (topS 13)) s.heap.objs.size _ cdv)).units + 64 < cLine := Nat.lt_of_le_of_lt (Nat.add_le_add_left (by decide) _) (room_un hr)
    have key : Dss (XF P w K mg base ["first", "second"] "over" (topS 13) (ad 13) cdv A outer s H E) ⟨A0, [], none⟩ [] (fun a : E0_over => ((ac (c2 cI cI) (ac (c2 cI cI) an)) a).map some ++ List.replicate 0 none) (c2 cI cI) (fun _ => []) [] (fun _ : Empty => []) (defBody (topS 13)) _ _ [] (fun _ : Empty => []) := (s_one (s_ret (r := fun v (_ : E0_over) => v) (fun _ _ => rfl) rfl (d_call ((f_quotient T).mono (by decide)) hr hg T.M10 T.F10.kp (b_quotient T) (a_cons (d_op op_mulW v_mulW (d_prj 0 (fun x : Int × Int => x.1) (cb := cI) (fun _ => ⟨_, rfl, rfl⟩) (d_var 0 (fun q : E0_over => q.1) (c2 cI cI) (fun _ => rfl)) d_int) (d_prj 1 (fun x : Int × Int => x.2) (cb := cI) (fun _ => ⟨_, rfl, rfl⟩) (d_var 1 (fun q : E0_over => q.2.1) (c2 cI cI) (fun _ => rfl)) d_int)) (a_cons (d_op op_mulW v_mulW (d_prj 1 (fun x : Int × Int => x.2) (cb := cI) (fun _ => ⟨_, rfl, rfl⟩) (d_var 0 (fun q : E0_over => q.1) (c2 cI cI) (fun _ => rfl)) d_int) (d_prj 0 (fun x : Int × Int => x.1) (cb := cI) (fun _ => ⟨_, rfl, rfl⟩) (d_var 1 (fun q : E0_over => q.2.1) (c2 cI cI) (fun _ => rfl)) d_int)) a_nil)))))
    exact dss_eq key (by kernel_rfl) (by kernel_rfl)) (fun _ h => h) (fun a _ => ends_ret (fun r => r) (fun _ => rfl) (o_over a))
abbrev E0_is_less : Type := (Int × Int) × (Int × Int) × Unit
def o_is_less (a : E0_is_less) : Out Empty (Bool) Empty :=
  (let first := a.1; let second := a.2.1; (Out.rt ((decide ((first.1 * second.2) < (second.1 * first.2))))))
def m_is_less (a : E0_is_less) : Bool := (o_is_less a).ret
def g_is_less (a : E0_is_less) : Prop :=
  (let first := a.1; let second := a.2.1; ((True ∧ True ∧ (CMulW first.1 second.2)) ∧ (True ∧ True ∧ (CMulW second.1 first.2)) ∧ True))
theorem sc_is_less : FnScope ["first", "second"] ["first", "second"] (defScope (topS 14)) := ⟨rfl, rfl, rfl, by decide +kernel, rfl, by decide +kernel, by decide +kernel⟩
theorem b_is_less {K : Y.Frag} {mg : Str → Option Value} {ad : Nat → Addr} {fd : Nat → FuncData} (T : Tx K mg ad fd) : Binds K (fd 14) ["first", "second"] [] := T.F14.binds (ps := ["first", "second"]) fun _ _ _ _ _ _ us hl => match us, hl with | [_, _], _ => rfl
theorem f_is_less {P : Program} {w : World} {K : Y.Frag} {mg : Str → Option Value} {base : Heap} {ad : Nat → Addr} {fd : Nat → FuncData} (T : Tx K mg ad fd) : FnG P w K mg base 1 (ad 14) (fd 14) ["first", "second"] (spP K (ac (c2 cI cI) (ac (c2 cI cI) an)) cB g_is_less m_is_less) :=
  fn_pure T.F14 sc_is_less 0 (fun _ => rfl) rfl (owS := []) (ow' := []) (ΓS := fun _ : Empty => []) (Γ' := fun _ : Empty => []) (cr := cB) (ci := fun _ => []) (G := g_is_less) (d := o_is_less) (fun A0 cdv A outer s H E hr hg => by
    have hu : (A.deeper (envOfC _ (defScope (topS 14)) s.heap.objs.size _ cdv)).units + 64 < cLine := Nat.lt_of_le_of_lt (Nat.add_le_add_left (by decide) _) (room_un hr)
    have key : Dss (XF P w K mg base ["first", "second"] "is_less" (topS 14) (ad 14) cdv A outer s H E) ⟨A0, [], none⟩ [] (fun a : E0_is_less => ((ac (c2 cI cI) (ac (c2 cI cI) an)) a).map some ++ List.replicate 0 none) cB (fun _ => []) [] (fun _ : Empty => []) (defBody (topS 14)) _ _ [] (fun _ : Empty => []) := (s_one (s_ret (r := fun v (_ : E0_is_less) => v) (fun _ _ => rfl) rfl (d_cmp op_lt v_lt (d_op op_mulW v_mulW (d_prj 0 (fun x : Int × Int => x.1) (cb := cI) (fun _ => ⟨_, rfl, rfl⟩) (d_var 0 (fun q : E0_is_less => q.1) (c2 cI cI) (fun _ => rfl)) d_int) (d_prj 1 (fun x : Int × Int => x.2) (cb := cI) (fun _ => ⟨_, rfl, rfl⟩) (d_var 1 (fun q : E0_is_less => q.2.1) (c2 cI cI) (fun _ => rfl)) d_int)) (d_op op_mulW v_mulW (d_prj 0 (fun x : Int × Int => x.1) (cb := cI) (fun _ => ⟨_, rfl, rfl⟩) (d_var 1 (fun q : E0_is_less => q.2.1) (c2 cI cI) (fun _ => rfl)) d_int) (d_prj 1 (fun x : Int × Int => x.2) (cb := cI) (fun _ => ⟨_, rfl, rfl⟩) (d_var 0 (fun q : E0_is_less => q.1) (c2 cI cI) (fun _ => rfl)) d_int)) (nomark _))))
    exact dss_eq key (by kernel_rfl) (by kernel_rfl)) (fun _ h => h) (fun a _ => ends_ret (fun r => r) (fun _ => rfl) (o_is_less a))
abbrev E0_sum_of : Type := (List (Int × Int)) × Unit
abbrev E1_sum_of : Type := E0_sum_of × (Int × Int)
abbrev E2_sum_of : Type := Int × Int
abbrev E3_sum_of : Type := E2_sum_of × (Int × Int)
abbrev E4_sum_of : Type := E3_sum_of × (Int × Int)
abbrev E5_sum_of : Type := E1_sum_of × E2_sum_of
def k1_sum_of (q3 : E3_sum_of) : E2_sum_of :=
  (let total4 : Int × Int := (m_plus (q3.1, q3.2, ())); total4)
def kg1_sum_of (q3 : E3_sum_of) : Prop :=
  (((True ∧ (True ∧ True)) ∧ (g_plus (q3.1, q3.2, ()))) ∧ (let total4 : Int × Int := (m_plus (q3.1, q3.2, ())); True))
def o_sum_of (a : E0_sum_of) : Out Empty (Int × Int) Empty :=
  (let rows := a.1; (let total1 : Int × Int := ((0 : Int), (1 : Int)); (let l5 : E2_sum_of := (rows.foldl (fun m x => k1_sum_of (m, x)) total1); (Out.rt l5))))
def m_sum_of (a : E0_sum_of) : Int × Int := (o_sum_of a).ret
def g_sum_of (a : E0_sum_of) : Prop :=
  (let rows := a.1; ((True ∧ (True ∧ True)) ∧ (let total1 : Int × Int := ((0 : Int), (1 : Int)); ((True ∧ (forN kg1_sum_of k1_sum_of total1 rows)) ∧ (let l5 : E2_sum_of := (rows.foldl (fun m x => k1_sum_of (m, x)) total1); True)))))
theorem sc_sum_of : FnScope ["rows", "total", "row"] ["rows"] (defScope (topS 15)) := ⟨rfl, rfl, rfl, by decide +kernel, rfl, by decide +kernel, by decide +kernel⟩
theorem b_sum_of {K : Y.Frag} {mg : Str → Option Value} {ad : Nat → Addr} {fd : Nat → FuncData} (T : Tx K mg ad fd) : Binds K (fd 15) ["rows"] [] := T.F15.binds (ps := ["rows"]) fun _ _ _ _ _ _ us hl => match us, hl with | [_], _ => rfl
theorem f_sum_of {P : Program} {w : World} {K : Y.Frag} {mg : Str → Option Value} {base : Heap} {ad : Nat → Addr} {fd : Nat → FuncData} (T : Tx K mg ad fd) : FnG P w K mg base 4 (ad 15) (fd 15) ["rows"] (spP K (ac (cL (c2 cI cI)) an) (c2 cI cI) g_sum_of m_sum_of) :=
  fn_pure T.F15 sc_sum_of 2 (fun _ => rfl) rfl (owS := []) (ow' := []) (ΓS := fun _ : Empty => []) (Γ' := fun _ : Empty => []) (cr := (c2 cI cI)) (ci := fun _ => []) (G := g_sum_of) (d := o_sum_of) (fun A0 cdv A outer s H E hr hg => by
    have hu : (A.deeper (envOfC _ (defScope (topS 15)) s.heap.objs.size _ cdv)).units + 64 < cLine := Nat.lt_of_le_of_lt (Nat.add_le_add_left (by decide) _) (room_un hr)
    have key : Dss (XF P w K mg base ["rows", "total", "row"] "sum_of" (topS 15) (ad 15) cdv A outer s H E) ⟨A0, [], none⟩ [] (fun a : E0_sum_of => ((ac (cL (c2 cI cI)) an) a).map some ++ List.replicate 2 none) (c2 cI cI) (fun _ => []) [] (fun _ : Empty => []) (defBody (topS 15)) _ _ [] (fun _ : Empty => []) := (s_cons (s_asg 1 (d_tp2 (a_cons d_int (a_cons d_int a_nil))) (hN := sc_sum_of.nd)) (s_cons (s_forN (ΓL := (fun (e2 : E1_sum_of) (m : E2_sum_of) => [some ((cL (c2 cI cI)) e2.1.1), some ((c2 cI cI) m), none])) (fun q : E1_sum_of => q.2) (i_lst (d_var 0 (fun q : E1_sum_of => q.1.1) (cL (c2 cI cI)) (fun _ => rfl))) (fun _ _ _ _ r => r) (pg_name (i := 2) sc_sum_of.nd rfl (by first | exact .inl rfl | exact .inr rfl)) (tg_name 2) (fun e2 : E1_sum_of => (s_cons (s_asg 1 (d_call ((f_plus T).mono (by decide)) hr hg T.M11 T.F11.kp (b_plus T) (a_cons (d_var 1 (fun q : E3_sum_of => q.1) (c2 cI cI) (fun _ => rfl)) (a_cons (d_var 2 (fun q : E3_sum_of => q.2) (c2 cI cI) (fun _ => rfl)) a_nil))) (hN := sc_sum_of.nd)) (s_end (ow2 := []) (Γ2 := (fun m : E2_sum_of => [some ((cL (c2 cI cI)) e2.1.1), some ((c2 cI cI) m), none])) (fun q : E4_sum_of => q.2) (fun _ _ _ _ r => r.wk (.k (.k (.f .nil))))))) (fun _ _ => rfl) PassesOwn.never) (s_one (s_ret (r := fun v (_ : E5_sum_of) => v) (fun _ _ => rfl) rfl (d_var 1 (fun q : E5_sum_of => q.2) (c2 cI cI) (fun _ => rfl))))))
    exact dss_eq key (by kernel_rfl) (by kernel_rfl)) (fun _ h => h) (fun a _ => ends_ret (fun r => r) (fun _ => rfl) (o_sum_of a))
abbrev E0_is_quotient : Type := (Int × Int) × Unit
abbrev E1_is_quotient : Type := E0_is_quotient × Int
def o_is_quotient (a : E0_is_quotient) : Out Empty (Bool) Empty :=
  (let value := a.1; (if ((!true) || ((!decide ((([value.1, value.2]).length : Int) = (2 : Int))) || (!((((([value.1, value.2]).map fun x1 => (m_is_integer (x1, ())))).all id))))) = true then (Out.rt false) else (Out.rt (((decide ((1 : Int) ≤ value.2)) && (decide ((m_greatest_divisor ((((value.1).natAbs : Nat) : Int), value.2, ())) = (1 : Int))))))))
def m_is_quotient (a : E0_is_quotient) : Bool := (o_is_quotient a).ret
def g_is_quotient (a : E0_is_quotient) : Prop :=
  (let value := a.1; ((True ∧ ((!true) = false → ((((True ∧ True) ∧ True) ∧ True ∧ True) ∧ ((!decide ((([value.1, value.2]).length : Int) = (2 : Int))) = false → (((True ∧ (∀ x1 ∈ [value.1, value.2], ((True ∧ True) ∧ (g_is_integer (x1, ()))))) ∧ True) ∧ True))))) ∧ (((!true) || ((!decide ((([value.1, value.2]).length : Int) = (2 : Int))) || (!((((([value.1, value.2]).map fun x1 => (m_is_integer (x1, ())))).all id))))) = true → True) ∧ (((!true) || ((!decide ((([value.1, value.2]).length : Int) = (2 : Int))) || (!((((([value.1, value.2]).map fun x1 => (m_is_integer (x1, ())))).all id))))) = false → ((True ∧ True ∧ True) ∧ ((decide ((1 : Int) ≤ value.2)) = true → (((((True ∧ True) ∧ True) ∧ (True ∧ True)) ∧ (g_greatest_divisor ((((value.1).natAbs : Nat) : Int), value.2, ()))) ∧ True ∧ True))))))
theorem sc_is_quotient : FnScope ["value", "part"] ["value"] (defScope (topS 16)) := ⟨rfl, rfl, rfl, by decide +kernel, rfl, by decide +kernel, by decide +kernel⟩
theorem b_is_quotient {K : Y.Frag} {mg : Str → Option Value} {ad : Nat → Addr} {fd : Nat → FuncData} (T : Tx K mg ad fd) : Binds K (fd 16) ["value"] [] := T.F16.binds (ps := ["value"]) fun _ _ _ _ _ _ us hl => match us, hl with | [_], _ => rfl
theorem f_is_quotient {P : Program} {w : World} {K : Y.Frag} {mg : Str → Option Value} {base : Heap} {ad : Nat → Addr} {fd : Nat → FuncData} (T : Tx K mg ad fd) : FnG P w K mg base 2 (ad 16) (fd 16) ["value"] (spP K (ac (c2 cI cI) an) cB g_is_quotient m_is_quotient) :=
  fn_pure T.F16 sc_is_quotient 1 (fun _ => rfl) rfl (owS := []) (ow' := []) (ΓS := fun _ : Empty => []) (Γ' := fun _ : Empty => []) (cr := cB) (ci := fun _ => []) (G := g_is_quotient) (d := o_is_quotient) (fun A0 cdv A outer s H E hr hg => by
    have hu : (A.deeper (envOfC _ (defScope (topS 16)) s.heap.objs.size _ cdv)).units + 64 < cLine := Nat.lt_of_le_of_lt (Nat.add_le_add_left (by decide) _) (room_un hr)
    have key : Dss (XF P w K mg base ["value", "part"] "is_quotient" (topS 16) (ad 16) cdv A outer s H E) ⟨A0, [], none⟩ [] (fun a : E0_is_quotient => ((ac (c2 cI cI) an) a).map some ++ List.replicate 1 none) cB (fun _ => []) [] (fun _ : Empty => []) (defBody (topS 16)) _ _ [] (fun _ : Empty => []) := (s_ifR (w_orP (t_not (t_val (d_isi (C := "tuple") (b := true) (d_var 0 (fun q : E0_is_quotient => q.1) (c2 cI cI) (fun _ => rfl)) (ty_T fun _ => rfl) T.z_isinstance T.z_tuple (by decide +kernel) (by decide +kernel)))) (w_orP (t_cmp op_ne v_neI (d_blt call_len_seq (v_len sq_T) T.z_len (by decide +kernel) (a_cons ((d_var 0 (fun q : E0_is_quotient => q.1) (c2 cI cI) (fun _ => rfl)).as (c' := (cT cI)) (g := fun x : Int × Int => [x.1, x.2]) (fun _ => rfl)) a_nil)) d_int (nomark _)) (w_or1 (t_not (t_val (d_blt (cr_all rfl) v_allL T.z_all (by decide +kernel) (a_cons (d_lc0 (i_tup ((d_var 0 (fun q : E0_is_quotient => q.1) (c2 cI cI) (fun _ => rfl)).as (c' := (cT cI)) (g := fun x : Int × Int => [x.1, x.2]) (fun _ => rfl))) (blkOk_by (N := ["value", "part"]) (sc := defScope (topS 16)) (own := [("part", 1)]) (by decide +kernel)) (tg_name 1) (fun _ _ _ _ _ => (pg_name (i := 1) sc_is_quotient.nd rfl (by first | exact .inl rfl | exact .inr rfl))) (fun _ _ _ _ _ _ => (d_call ((f_is_integer T).mono (by decide)) hr hg T.M4 T.F4.kp (b_is_integer T) (a_cons (d_var 1 (fun q : E1_is_quotient => q.2) cI (fun _ => rfl)) a_nil))) (own := [("part", 1)]) (hN := sc_is_quotient.nd)).de a_nil))))))).dt (s_one (s_ret (r := fun v (_ : E0_is_quotient) => v) (fun _ _ => rfl) rfl d_bl)) (by intro ε n; (repeat' (first | (intro h; nomatch h) | split))) (s_one (s_ret (r := fun v (_ : E0_is_quotient) => v) (fun _ _ => rfl) rfl (d_and (d_cmp op_ge v_ge (d_prj 1 (fun x : Int × Int => x.2) (cb := cI) (fun _ => ⟨_, rfl, rfl⟩) (d_var 0 (fun q : E0_is_quotient => q.1) (c2 cI cI) (fun _ => rfl)) d_int) d_int (nomark _)) (d_one (d_cmp op_eq v_eqI (d_call ((f_greatest_divisor T).mono (by decide)) hr hg T.M9 T.F9.kp (b_greatest_divisor T) (a_cons (d_blt call_abs v_abs T.z_abs (by decide +kernel) (a_cons (d_prj 0 (fun x : Int × Int => x.1) (cb := cI) (fun _ => ⟨_, rfl, rfl⟩) (d_var 0 (fun q : E0_is_quotient => q.1) (c2 cI cI) (fun _ => rfl)) d_int) a_nil)) (a_cons (d_prj 1 (fun x : Int × Int => x.2) (cb := cI) (fun _ => ⟨_, rfl, rfl⟩) (d_var 0 (fun q : E0_is_quotient => q.1) (c2 cI cI) (fun _ => rfl)) d_int) a_nil))) d_int (nomark _)))))))
    exact dss_eq key (by kernel_rfl) (by kernel_rfl)) (fun _ h => h) (fun a _ => ends_ret (fun r => r) (fun _ => rfl) (o_is_quotient a))
abbrev E0_is_number : Type := (Int × Int) × Unit
def o_is_number (a : E0_is_number) : Out Empty (Bool) Empty :=
  (let value := a.1; (Out.rt (((m_is_quotient (value, ())) && ((decide ((((value.1).natAbs : Nat) : Int) ≤ (1000000000000 : Int))) && (decide (value.2 ≤ (1000000000000 : Int))))))))
def m_is_number (a : E0_is_number) : Bool := (o_is_number a).ret
def g_is_number (a : E0_is_number) : Prop :=
  (let value := a.1; (((True ∧ True) ∧ (g_is_quotient (value, ()))) ∧ ((m_is_quotient (value, ())) = true → ((((True ∧ True) ∧ True) ∧ True ∧ True) ∧ ((decide ((((value.1).natAbs : Nat) : Int) ≤ (1000000000000 : Int))) = true → (True ∧ True ∧ True))))))
theorem sc_is_number : FnScope ["value"] ["value"] (defScope (topS 17)) := ⟨rfl, rfl, rfl, by decide +kernel, rfl, by decide +kernel, by decide +kernel⟩
theorem b_is_number {K : Y.Frag} {mg : Str → Option Value} {ad : Nat → Addr} {fd : Nat → FuncData} (T : Tx K mg ad fd) : Binds K (fd 17) ["value"] [] := T.F17.binds (ps := ["value"]) fun _ _ _ _ _ _ us hl => match us, hl with | [_], _ => rfl
theorem f_is_number {P : Program} {w : World} {K : Y.Frag} {mg : Str → Option Value} {base : Heap} {ad : Nat → Addr} {fd : Nat → FuncData} (T : Tx K mg ad fd) : FnG P w K mg base 3 (ad 17) (fd 17) ["value"] (spP K (ac (c2 cI cI) an) cB g_is_number m_is_number) :=
  fn_pure T.F17 sc_is_number 0 (fun _ => rfl) rfl (owS := []) (ow' := []) (ΓS := fun _ : Empty => []) (Γ' := fun _ : Empty => []) (cr := cB) (ci := fun _ => []) (G := g_is_number) (d := o_is_number) (fun A0 cdv A outer s H E hr hg => by
    have hu : (A.deeper (envOfC _ (defScope (topS 17)) s.heap.objs.size _ cdv)).units + 64 < cLine := Nat.lt_of_le_of_lt (Nat.add_le_add_left (by decide) _) (room_un hr)
    have key : Dss (XF P w K mg base ["value"] "is_number" (topS 17) (ad 17) cdv A outer s H E) ⟨A0, [], none⟩ [] (fun a : E0_is_number => ((ac (c2 cI cI) an) a).map some ++ List.replicate 0 none) cB (fun _ => []) [] (fun _ : Empty => []) (defBody (topS 17)) _ _ [] (fun _ : Empty => []) := (s_one (s_ret (r := fun v (_ : E0_is_number) => v) (fun _ _ => rfl) rfl (d_and (d_call ((f_is_quotient T).mono (by decide)) hr hg T.M16 T.F16.kp (b_is_quotient T) (a_cons (d_var 0 (fun q : E0_is_number => q.1) (c2 cI cI) (fun _ => rfl)) a_nil)) (d_and (d_cmp op_le v_le (d_blt call_abs v_abs T.z_abs (by decide +kernel) (a_cons (d_prj 0 (fun x : Int × Int => x.1) (cb := cI) (fun _ => ⟨_, rfl, rfl⟩) (d_var 0 (fun q : E0_is_number => q.1) (c2 cI cI) (fun _ => rfl)) d_int) a_nil)) (d_glob (v := .int 1000000000000) (c := cI) (a := 1000000000000) T.c_MAX_SIZE.choose_spec ⟨_, rfl⟩ (fun _ _ => .int _)) (nomark _)) (d_one (d_cmp op_le v_le (d_prj 1 (fun x : Int × Int => x.2) (cb := cI) (fun _ => ⟨_, rfl, rfl⟩) (d_var 0 (fun q : E0_is_number => q.1) (c2 cI cI) (fun _ => rfl)) d_int) (d_glob (v := .int 1000000000000) (c := cI) (a := 1000000000000) T.c_MAX_SIZE.choose_spec ⟨_, rfl⟩ (fun _ _ => .int _)) (nomark _)))))))
    exact dss_eq key (by kernel_rfl) (by kernel_rfl)) (fun _ h => h) (fun a _ => ends_ret (fun r => r) (fun _ => rfl) (o_is_number a))
abbrev E0_is_heading : Type := (Int × Int × Int) × Unit
abbrev E1_is_heading : Type := E0_is_heading × Int
abbrev E2_is_heading : Type := E0_is_heading × (Int × Int × Int)
def o_is_heading (a : E0_is_heading) : Out Empty (Bool) Empty :=
  (let value := a.1; (if ((!true) || ((!decide ((([value.1, value.2.1, value.2.2]).length : Int) = (3 : Int))) || (!((((([value.1, value.2.1, value.2.2]).map fun x1 => (m_is_integer (x1, ())))).all id))))) = true then (Out.rt false) else (let u2 : Int × Int × Int := value; (if ((!(((decide ((1 : Int) ≤ u2.2.1)) && ((decide (u2.2.1 ≤ u2.2.2)) && (decide (u2.2.2 ≤ (65 : Int))))))) || (!decide (((u2.1 * u2.1) + (u2.2.1 * u2.2.1)) = (u2.2.2 * u2.2.2)))) = true then (Out.rt false) else (Out.rt ((decide ((m_greatest_divisor ((m_greatest_divisor ((((u2.1).natAbs : Nat) : Int), u2.2.1, ())), u2.2.2, ())) = (1 : Int)))))))))
def m_is_heading (a : E0_is_heading) : Bool := (o_is_heading a).ret
def g_is_heading (a : E0_is_heading) : Prop :=
  (let value := a.1; ((True ∧ ((!true) = false → ((((True ∧ True) ∧ True) ∧ True ∧ True) ∧ ((!decide ((([value.1, value.2.1, value.2.2]).length : Int) = (3 : Int))) = false → (((True ∧ (∀ x1 ∈ [value.1, value.2.1, value.2.2], ((True ∧ True) ∧ (g_is_integer (x1, ()))))) ∧ True) ∧ True))))) ∧ (((!true) || ((!decide ((([value.1, value.2.1, value.2.2]).length : Int) = (3 : Int))) || (!((((([value.1, value.2.1, value.2.2]).map fun x1 => (m_is_integer (x1, ())))).all id))))) = true → True) ∧ (((!true) || ((!decide ((([value.1, value.2.1, value.2.2]).length : Int) = (3 : Int))) || (!((((([value.1, value.2.1, value.2.2]).map fun x1 => (m_is_integer (x1, ())))).all id))))) = false → (True ∧ (let u2 : Int × Int × Int := value; (((True ∧ True ∧ ((decide ((1 : Int) ≤ u2.2.1)) = true → True ∧ ((decide (u2.2.1 ≤ u2.2.2)) = true → True))) ∧ ((!(((decide ((1 : Int) ≤ u2.2.1)) && ((decide (u2.2.1 ≤ u2.2.2)) && (decide (u2.2.2 ≤ (65 : Int))))))) = false → (((True ∧ True ∧ (CMul u2.1 u2.1)) ∧ (True ∧ True ∧ (CMul u2.2.1 u2.2.1)) ∧ True) ∧ (True ∧ True ∧ (CMul u2.2.2 u2.2.2)) ∧ True))) ∧ (((!(((decide ((1 : Int) ≤ u2.2.1)) && ((decide (u2.2.1 ≤ u2.2.2)) && (decide (u2.2.2 ≤ (65 : Int))))))) || (!decide (((u2.1 * u2.1) + (u2.2.1 * u2.2.1)) = (u2.2.2 * u2.2.2)))) = true → True) ∧ (((!(((decide ((1 : Int) ≤ u2.2.1)) && ((decide (u2.2.1 ≤ u2.2.2)) && (decide (u2.2.2 ≤ (65 : Int))))))) || (!decide (((u2.1 * u2.1) + (u2.2.1 * u2.2.1)) = (u2.2.2 * u2.2.2)))) = false → (((((((True ∧ True) ∧ True) ∧ (True ∧ True)) ∧ (g_greatest_divisor ((((u2.1).natAbs : Nat) : Int), u2.2.1, ()))) ∧ (True ∧ True)) ∧ (g_greatest_divisor ((m_greatest_divisor ((((u2.1).natAbs : Nat) : Int), u2.2.1, ())), u2.2.2, ()))) ∧ True ∧ True))))))))
theorem sc_is_heading : FnScope ["value", "along", "across", "whole", "part"] ["value"] (defScope (topS 19)) := ⟨rfl, rfl, rfl, by decide +kernel, rfl, by decide +kernel, by decide +kernel⟩
theorem b_is_heading {K : Y.Frag} {mg : Str → Option Value} {ad : Nat → Addr} {fd : Nat → FuncData} (T : Tx K mg ad fd) : Binds K (fd 19) ["value"] [] := T.F19.binds (ps := ["value"]) fun _ _ _ _ _ _ us hl => match us, hl with | [_], _ => rfl
theorem f_is_heading {P : Program} {w : World} {K : Y.Frag} {mg : Str → Option Value} {base : Heap} {ad : Nat → Addr} {fd : Nat → FuncData} (T : Tx K mg ad fd) : FnG P w K mg base 2 (ad 19) (fd 19) ["value"] (spP K (ac (c3 cI cI cI) an) cB g_is_heading m_is_heading) :=
  fn_pure T.F19 sc_is_heading 4 (fun _ => rfl) rfl (owS := []) (ow' := []) (ΓS := fun _ : Empty => []) (Γ' := fun _ : Empty => []) (cr := cB) (ci := fun _ => []) (G := g_is_heading) (d := o_is_heading) (fun A0 cdv A outer s H E hr hg => by
    have hu : (A.deeper (envOfC _ (defScope (topS 19)) s.heap.objs.size _ cdv)).units + 64 < cLine := Nat.lt_of_le_of_lt (Nat.add_le_add_left (by decide) _) (room_un hr)
    have key : Dss (XF P w K mg base ["value", "along", "across", "whole", "part"] "is_heading" (topS 19) (ad 19) cdv A outer s H E) ⟨A0, [], none⟩ [] (fun a : E0_is_heading => ((ac (c3 cI cI cI) an) a).map some ++ List.replicate 4 none) cB (fun _ => []) [] (fun _ : Empty => []) (defBody (topS 19)) _ _ [] (fun _ : Empty => []) := (s_ifR (w_orP (t_not (t_val (d_isi (C := "tuple") (b := true) (d_var 0 (fun q : E0_is_heading => q.1) (c3 cI cI cI) (fun _ => rfl)) (ty_T fun _ => rfl) T.z_isinstance T.z_tuple (by decide +kernel) (by decide +kernel)))) (w_orP (t_cmp op_ne v_neI (d_blt call_len_seq (v_len sq_T) T.z_len (by decide +kernel) (a_cons ((d_var 0 (fun q : E0_is_heading => q.1) (c3 cI cI cI) (fun _ => rfl)).as (c' := (cT cI)) (g := fun x : Int × Int × Int => [x.1, x.2.1, x.2.2]) (fun _ => rfl)) a_nil)) d_int (nomark _)) (w_or1 (t_not (t_val (d_blt (cr_all rfl) v_allL T.z_all (by decide +kernel) (a_cons (d_lc0 (i_tup ((d_var 0 (fun q : E0_is_heading => q.1) (c3 cI cI cI) (fun _ => rfl)).as (c' := (cT cI)) (g := fun x : Int × Int × Int => [x.1, x.2.1, x.2.2]) (fun _ => rfl))) (blkOk_by (N := ["value", "along", "across", "whole", "part"]) (sc := defScope (topS 19)) (own := [("part", 4)]) (by decide +kernel)) (tg_name 4) (fun _ _ _ _ _ => (pg_name (i := 4) sc_is_heading.nd rfl (by first | exact .inl rfl | exact .inr rfl))) (fun _ _ _ _ _ _ => (d_call ((f_is_integer T).mono (by decide)) hr hg T.M4 T.F4.kp (b_is_integer T) (a_cons (d_var 4 (fun q : E1_is_heading => q.2) cI (fun _ => rfl)) a_nil))) (own := [("part", 4)]) (hN := sc_is_heading.nd)).de a_nil))))))).dt (s_one (s_ret (r := fun v (_ : E0_is_heading) => v) (fun _ _ => rfl) rfl d_bl)) (by intro ε n; (repeat' (first | (intro h; nomatch h) | split))) (s_cons (s_asgT (d_var 0 (fun q : E0_is_heading => q.1) (c3 cI cI cI) (fun _ => rfl)) (pg_tup rfl (pgs_cons (pg_name (i := 1) sc_is_heading.nd rfl (by first | exact .inl rfl | exact .inr rfl)) (pgs_cons (pg_name (i := 2) sc_is_heading.nd rfl (by first | exact .inl rfl | exact .inr rfl)) (pgs_cons (pg_name (i := 3) sc_is_heading.nd rfl (by first | exact .inl rfl | exact .inr rfl)) pgs_nil)))) (tg_three 1 2 3)) (s_ifR (w_orP (t_not (t_chn3 op_le op_le op_le v_le v_le v_le d_int (d_var 2 (fun q : E2_is_heading => q.2.2.1) cI (fun _ => rfl)) (d_var 3 (fun q : E2_is_heading => q.2.2.2) cI (fun _ => rfl)) (d_glob (v := .int 65) (c := cI) (a := 65) T.c_MAX_HEADING.choose_spec ⟨_, rfl⟩ (fun _ _ => .int _)))) (w_or1 (t_cmp op_ne v_neI (d_op op_add v_add (d_op op_mul v_mul (d_var 1 (fun q : E2_is_heading => q.2.1) cI (fun _ => rfl)) (d_var 1 (fun q : E2_is_heading => q.2.1) cI (fun _ => rfl))) (d_op op_mul v_mul (d_var 2 (fun q : E2_is_heading => q.2.2.1) cI (fun _ => rfl)) (d_var 2 (fun q : E2_is_heading => q.2.2.1) cI (fun _ => rfl)))) (d_op op_mul v_mul (d_var 3 (fun q : E2_is_heading => q.2.2.2) cI (fun _ => rfl)) (d_var 3 (fun q : E2_is_heading => q.2.2.2) cI (fun _ => rfl))) (nomark _)))).dt (s_one (s_ret (r := fun v (_ : E2_is_heading) => v) (fun _ _ => rfl) rfl d_bl)) (by intro ε n; (repeat' (first | (intro h; nomatch h) | split))) (s_one (s_ret (r := fun v (_ : E2_is_heading) => v) (fun _ _ => rfl) rfl (d_cmp op_eq v_eqI (d_call ((f_greatest_divisor T).mono (by decide)) hr hg T.M9 T.F9.kp (b_greatest_divisor T) (a_cons (d_call ((f_greatest_divisor T).mono (by decide)) hr hg T.M9 T.F9.kp (b_greatest_divisor T) (a_cons (d_blt call_abs v_abs T.z_abs (by decide +kernel) (a_cons (d_var 1 (fun q : E2_is_heading => q.2.1) cI (fun _ => rfl)) a_nil)) (a_cons (d_var 2 (fun q : E2_is_heading => q.2.2.1) cI (fun _ => rfl)) a_nil))) (a_cons (d_var 3 (fun q : E2_is_heading => q.2.2.2) cI (fun _ => rfl)) a_nil))) d_int (nomark _)))))))
    exact dss_eq key (by kernel_rfl) (by kernel_rfl)) (fun _ h => h) (fun a _ => ends_ret (fun r => r) (fun _ => rfl) (o_is_heading a))
abbrev E0_check_bands : Type := (List ((Int × Int) × (Int × Int))) × Unit
abbrev E1_check_bands : Type := Unit
abbrev E2_check_bands : Type := E1_check_bands × ((Int × Int) × (Int × Int))
abbrev E3_check_bands : Type := E2_check_bands × (Int × Int)
abbrev E4_check_bands : Type := E0_check_bands × E1_check_bands
def k1_check_bands (q2 : E2_check_bands) : E1_check_bands :=
  ()
def kg1_check_bands (q2 : E2_check_bands) : Prop :=
  (((True ∧ ((!true) = false → ((((True ∧ True) ∧ True) ∧ True ∧ True) ∧ ((!decide ((([q2.2.1, q2.2.2]).length : Int) = (2 : Int))) = false → (((True ∧ (∀ x3 ∈ [q2.2.1, q2.2.2], ((True ∧ True) ∧ (g_is_number (x3, ()))))) ∧ True) ∧ True))))) ∧ ((!true) || ((!decide ((([q2.2.1, q2.2.2]).length : Int) = (2 : Int))) || (!((((([q2.2.1, q2.2.2]).map fun x3 => (m_is_number (x3, ())))).all id))))) = false) ∧ ((((True ∧ True ∧ True) ∧ ((decide (q2.2.1.1 ≤ (0 : Int))) = false → (True ∧ True ∧ True))) ∧ ((decide (q2.2.1.1 ≤ (0 : Int))) || (decide (q2.2.2.1 < (0 : Int)))) = false) ∧ True))
def o_check_bands (a : E0_check_bands) : Out Unit (Unit) Empty :=
  (let bands := a.1; (let l4 : E1_check_bands := (bands.foldl (fun m x => k1_check_bands (m, x)) ()); (Out.nx ())))
def m_check_bands (a : E0_check_bands) : Unit := ()
def g_check_bands (a : E0_check_bands) : Prop :=
  (let bands := a.1; (((True ∧ ((!true) = false → (True ∧ ((True ∧ True) ∧ True) ∧ ((decide ((1 : Int) ≤ ((bands).length : Int))) = true → True)))) ∧ ((!true) || (!(((decide ((1 : Int) ≤ ((bands).length : Int))) && (decide (((bands).length : Int) ≤ (6 : Int))))))) = false) ∧ ((True ∧ (forN kg1_check_bands k1_check_bands () bands)) ∧ (let l4 : E1_check_bands := (bands.foldl (fun m x => k1_check_bands (m, x)) ()); True))))
theorem sc_check_bands : FnScope ["bands", "band", "part"] ["bands"] (defScope (topS 20)) := ⟨rfl, rfl, rfl, by decide +kernel, rfl, by decide +kernel, by decide +kernel⟩
theorem b_check_bands {K : Y.Frag} {mg : Str → Option Value} {ad : Nat → Addr} {fd : Nat → FuncData} (T : Tx K mg ad fd) : Binds K (fd 20) ["bands"] [] := T.F20.binds (ps := ["bands"]) fun _ _ _ _ _ _ us hl => match us, hl with | [_], _ => rfl
theorem f_check_bands {P : Program} {w : World} {K : Y.Frag} {mg : Str → Option Value} {base : Heap} {ad : Nat → Addr} {fd : Nat → FuncData} (T : Tx K mg ad fd) : FnG P w K mg base 4 (ad 20) (fd 20) ["bands"] (spP K (ac (cT (c2 (c2 cI cI) (c2 cI cI))) an) cN g_check_bands m_check_bands) :=
  fn_pure T.F20 sc_check_bands 2 (fun _ => rfl) rfl (owS := []) (ow' := []) (ΓS := fun _ : Empty => []) (Γ' := fun _ : Unit => [none, none, none]) (cr := cN) (ci := fun _ => []) (G := g_check_bands) (d := o_check_bands) (fun A0 cdv A outer s H E hr hg => by
    have hu : (A.deeper (envOfC _ (defScope (topS 20)) s.heap.objs.size _ cdv)).units + 64 < cLine := Nat.lt_of_le_of_lt (Nat.add_le_add_left (by decide) _) (room_un hr)
    have key : Dss (XF P w K mg base ["bands", "band", "part"] "check_bands" (topS 20) (ad 20) cdv A outer s H E) ⟨A0, [], none⟩ [] (fun a : E0_check_bands => ((ac (cT (c2 (c2 cI cI) (c2 cI cI))) an) a).map some ++ List.replicate 2 none) cN (fun _ => []) [] (fun _ : Empty => []) (defBody (topS 20)) _ _ [] (fun _ : Unit => [none, none, none]) := (s_ifX (w_orP (t_not (t_val (d_isi (C := "tuple") (b := true) (d_var 0 (fun q : E0_check_bands => q.1) (cT (c2 (c2 cI cI) (c2 cI cI))) (fun _ => rfl)) (ty_T fun _ => rfl) T.z_isinstance T.z_tuple (by decide +kernel) (by decide +kernel)))) (w_or1 (t_not (t_chain op_le op_le v_le v_le d_int (d_blt call_len_seq (v_len sq_T) T.z_len (by decide +kernel) (a_cons (d_var 0 (fun q : E0_check_bands => q.1) (cT (c2 (c2 cI cI) (c2 cI cI))) (fun _ => rfl)) a_nil)) (d_glob (v := .int 6) (c := cI) (a := 6) T.c_MAX_BANDS.choose_spec ⟨_, rfl⟩ (fun _ _ => .int _)))))).dt (s_cons (s_forN (ΓL := (fun (e1 : E0_check_bands) (m : E1_check_bands) => [some ((cT (c2 (c2 cI cI) (c2 cI cI))) e1.1), none, none])) (fun q : E0_check_bands => ()) (i_tup (d_var 0 (fun q : E0_check_bands => q.1) (cT (c2 (c2 cI cI) (c2 cI cI))) (fun _ => rfl))) (fun _ _ _ _ r => r) (pg_name (i := 1) sc_check_bands.nd rfl (by first | exact .inl rfl | exact .inr rfl)) (tg_name 1) (fun e1 : E0_check_bands => (s_ifX (w_orP (t_not (t_val (d_isi (C := "tuple") (b := true) (d_var 1 (fun q : E2_check_bands => q.2) (c2 (c2 cI cI) (c2 cI cI)) (fun _ => rfl)) (ty_T fun _ => rfl) T.z_isinstance T.z_tuple (by decide +kernel) (by decide +kernel)))) (w_orP (t_cmp op_ne v_neI (d_blt call_len_seq (v_len sq_T) T.z_len (by decide +kernel) (a_cons ((d_var 1 (fun q : E2_check_bands => q.2) (c2 (c2 cI cI) (c2 cI cI)) (fun _ => rfl)).as (c' := (cT (c2 cI cI))) (g := fun x : (Int × Int) × (Int × Int) => [x.1, x.2]) (fun _ => rfl)) a_nil)) d_int (nomark _)) (w_or1 (t_not (t_val (d_blt (cr_all rfl) v_allL T.z_all (by decide +kernel) (a_cons (d_lc0 (i_tup ((d_var 1 (fun q : E2_check_bands => q.2) (c2 (c2 cI cI) (c2 cI cI)) (fun _ => rfl)).as (c' := (cT (c2 cI cI))) (g := fun x : (Int × Int) × (Int × Int) => [x.1, x.2]) (fun _ => rfl))) (blkOk_by (N := ["bands", "band", "part"]) (sc := defScope (topS 20)) (own := [("part", 2)]) (by decide +kernel)) (tg_name 2) (fun _ _ _ _ _ => (pg_name (i := 2) sc_check_bands.nd rfl (by first | exact .inl rfl | exact .inr rfl))) (fun _ _ _ _ _ _ => (d_call ((f_is_number T).mono (by decide)) hr hg T.M17 T.F17.kp (b_is_number T) (a_cons (d_var 2 (fun q : E3_check_bands => q.2) (c2 cI cI) (fun _ => rfl)) a_nil))) (own := [("part", 2)]) (hN := sc_check_bands.nd)).de a_nil))))))).dt (s_ifX (w_orP (t_cmp op_le v_le (d_prj 0 (fun x : Int × Int => x.1) (cb := cI) (fun _ => ⟨_, rfl, rfl⟩) (d_prj 0 (fun x : (Int × Int) × (Int × Int) => x.1) (cb := (c2 cI cI)) (fun _ => ⟨_, rfl, rfl⟩) (d_var 1 (fun q : E2_check_bands => q.2) (c2 (c2 cI cI) (c2 cI cI)) (fun _ => rfl)) d_int) d_int) d_int (nomark _)) (w_or1 (t_cmp op_lt v_lt (d_prj 0 (fun x : Int × Int => x.1) (cb := cI) (fun _ => ⟨_, rfl, rfl⟩) (d_prj 1 (fun x : (Int × Int) × (Int × Int) => x.2) (cb := (c2 cI cI)) (fun _ => ⟨_, rfl, rfl⟩) (d_var 1 (fun q : E2_check_bands => q.2) (c2 (c2 cI cI) (c2 cI cI)) (fun _ => rfl)) d_int) d_int) d_int (nomark _)))).dt (s_end (ow2 := []) (Γ2 := (fun m : E1_check_bands => [some ((cT (c2 (c2 cI cI) (c2 cI cI))) e1.1), none, none])) (fun q : E2_check_bands => ()) (fun _ _ _ _ r => r.wk (.k (.f (.k .nil)))))))) (fun _ _ => rfl) PassesOwn.never) (s_end (ow2 := []) (Γ2 := fun _ : Unit => [none, none, none]) (fun _ : E4_check_bands => ()) (fun _ _ _ _ r => r.wk (.f (.k (.k .nil)))))))
    exact dss_eq key (by kernel_rfl) (by kernel_rfl)) (fun _ h => h) (fun a _ => ends_und (o_check_bands a))
abbrev E0_check_speed : Type := (Int × Int) × Unit
def o_check_speed (a : E0_check_speed) : Out Unit (Unit) Empty :=
  (let speed := a.1; (Out.nx ()))
def m_check_speed (a : E0_check_speed) : Unit := ()
def g_check_speed (a : E0_check_speed) : Prop :=
  (let speed := a.1; (((((True ∧ True) ∧ (g_is_number (speed, ()))) ∧ ((!((m_is_number (speed, ())))) = false → (True ∧ True ∧ True))) ∧ ((!((m_is_number (speed, ())))) || (decide (speed.1 ≤ (0 : Int)))) = false) ∧ True))
theorem sc_check_speed : FnScope ["speed"] ["speed"] (defScope (topS 21)) := ⟨rfl, rfl, rfl, by decide +kernel, rfl, by decide +kernel, by decide +kernel⟩
theorem b_check_speed {K : Y.Frag} {mg : Str → Option Value} {ad : Nat → Addr} {fd : Nat → FuncData} (T : Tx K mg ad fd) : Binds K (fd 21) ["speed"] [] := T.F21.binds (ps := ["speed"]) fun _ _ _ _ _ _ us hl => match us, hl with | [_], _ => rfl
theorem f_check_speed {P : Program} {w : World} {K : Y.Frag} {mg : Str → Option Value} {base : Heap} {ad : Nat → Addr} {fd : Nat → FuncData} (T : Tx K mg ad fd) : FnG P w K mg base 4 (ad 21) (fd 21) ["speed"] (spP K (ac (c2 cI cI) an) cN g_check_speed m_check_speed) :=
  fn_pure T.F21 sc_check_speed 0 (fun _ => rfl) rfl (owS := []) (ow' := []) (ΓS := fun _ : Empty => []) (Γ' := fun _ : Unit => [none]) (cr := cN) (ci := fun _ => []) (G := g_check_speed) (d := o_check_speed) (fun A0 cdv A outer s H E hr hg => by
    have hu : (A.deeper (envOfC _ (defScope (topS 21)) s.heap.objs.size _ cdv)).units + 64 < cLine := Nat.lt_of_le_of_lt (Nat.add_le_add_left (by decide) _) (room_un hr)
    have key : Dss (XF P w K mg base ["speed"] "check_speed" (topS 21) (ad 21) cdv A outer s H E) ⟨A0, [], none⟩ [] (fun a : E0_check_speed => ((ac (c2 cI cI) an) a).map some ++ List.replicate 0 none) cN (fun _ => []) [] (fun _ : Empty => []) (defBody (topS 21)) _ _ [] (fun _ : Unit => [none]) := (s_ifX (w_orP (t_not (t_val (d_call ((f_is_number T).mono (by decide)) hr hg T.M17 T.F17.kp (b_is_number T) (a_cons (d_var 0 (fun q : E0_check_speed => q.1) (c2 cI cI) (fun _ => rfl)) a_nil)))) (w_or1 (t_cmp op_le v_le (d_prj 0 (fun x : Int × Int => x.1) (cb := cI) (fun _ => ⟨_, rfl, rfl⟩) (d_var 0 (fun q : E0_check_speed => q.1) (c2 cI cI) (fun _ => rfl)) d_int) d_int (nomark _)))).dt (s_end (ow2 := []) (Γ2 := fun _ : Unit => [none]) (fun _ : E0_check_speed => ()) (fun _ _ _ _ r => r.wk (.f .nil))))
    exact dss_eq key (by kernel_rfl) (by kernel_rfl)) (fun _ h => h) (fun a _ => ends_und (o_check_speed a))
abbrev E0_check_headings : Type := (List ((Int × Int) × (Int × Int))) × (List (Int × Int × Int)) × Unit
abbrev E1_check_headings : Type := E0_check_headings × (Int × Int × Int)
def o_check_headings (a : E0_check_headings) : Out Unit (Unit) Empty :=
  (let bands := a.1; let headings := a.2.1; (Out.nx ()))
def m_check_headings (a : E0_check_headings) : Unit := ()
def g_check_headings (a : E0_check_headings) : Prop :=
  (let bands := a.1; let headings := a.2.1; (((True ∧ ((!true) = false → (((True ∧ True) ∧ True) ∧ ((True ∧ True) ∧ True) ∧ True))) ∧ ((!true) || (!decide (((headings).length : Int) = ((bands).length : Int)))) = false) ∧ (((((True ∧ (∀ x1 ∈ headings, ((True ∧ True) ∧ (g_is_heading (x1, ()))))) ∧ True) ∧ True) ∧ (!((((headings.map fun x1 => (m_is_heading (x1, ())))).all id))) = false) ∧ True)))
theorem sc_check_headings : FnScope ["bands", "headings", "heading"] ["bands", "headings"] (defScope (topS 22)) := ⟨rfl, rfl, rfl, by decide +kernel, rfl, by decide +kernel, by decide +kernel⟩
theorem b_check_headings {K : Y.Frag} {mg : Str → Option Value} {ad : Nat → Addr} {fd : Nat → FuncData} (T : Tx K mg ad fd) : Binds K (fd 22) ["bands", "headings"] [] := T.F22.binds (ps := ["bands", "headings"]) fun _ _ _ _ _ _ us hl => match us, hl with | [_, _], _ => rfl
theorem f_check_headings {P : Program} {w : World} {K : Y.Frag} {mg : Str → Option Value} {base : Heap} {ad : Nat → Addr} {fd : Nat → FuncData} (T : Tx K mg ad fd) : FnG P w K mg base 3 (ad 22) (fd 22) ["bands", "headings"] (spP K (ac (cT (c2 (c2 cI cI) (c2 cI cI))) (ac (cT (c3 cI cI cI)) an)) cN g_check_headings m_check_headings) :=
  fn_pure T.F22 sc_check_headings 1 (fun _ => rfl) rfl (owS := []) (ow' := []) (ΓS := fun _ : Empty => []) (Γ' := fun _ : Unit => [none, none, none]) (cr := cN) (ci := fun _ => []) (G := g_check_headings) (d := o_check_headings) (fun A0 cdv A outer s H E hr hg => by
    have hu : (A.deeper (envOfC _ (defScope (topS 22)) s.heap.objs.size _ cdv)).units + 64 < cLine := Nat.lt_of_le_of_lt (Nat.add_le_add_left (by decide) _) (room_un hr)
    have key : Dss (XF P w K mg base ["bands", "headings", "heading"] "check_headings" (topS 22) (ad 22) cdv A outer s H E) ⟨A0, [], none⟩ [] (fun a : E0_check_headings => ((ac (cT (c2 (c2 cI cI) (c2 cI cI))) (ac (cT (c3 cI cI cI)) an)) a).map some ++ List.replicate 1 none) cN (fun _ => []) [] (fun _ : Empty => []) (defBody (topS 22)) _ _ [] (fun _ : Unit => [none, none, none]) := (s_ifX (w_orP (t_not (t_val (d_isi (C := "tuple") (b := true) (d_var 1 (fun q : E0_check_headings => q.2.1) (cT (c3 cI cI cI)) (fun _ => rfl)) (ty_T fun _ => rfl) T.z_isinstance T.z_tuple (by decide +kernel) (by decide +kernel)))) (w_or1 (t_cmp op_ne v_neI (d_blt call_len_seq (v_len sq_T) T.z_len (by decide +kernel) (a_cons (d_var 1 (fun q : E0_check_headings => q.2.1) (cT (c3 cI cI cI)) (fun _ => rfl)) a_nil)) (d_blt call_len_seq (v_len sq_T) T.z_len (by decide +kernel) (a_cons (d_var 0 (fun q : E0_check_headings => q.1) (cT (c2 (c2 cI cI) (c2 cI cI))) (fun _ => rfl)) a_nil)) (nomark _)))).dt (s_ifX (t_not (t_val (d_blt (cr_all rfl) v_allL T.z_all (by decide +kernel) (a_cons (d_lc0 (i_tup (d_var 1 (fun q : E0_check_headings => q.2.1) (cT (c3 cI cI cI)) (fun _ => rfl))) (blkOk_by (N := ["bands", "headings", "heading"]) (sc := defScope (topS 22)) (own := [("heading", 2)]) (by decide +kernel)) (tg_name 2) (fun _ _ _ _ _ => (pg_name (i := 2) sc_check_headings.nd rfl (by first | exact .inl rfl | exact .inr rfl))) (fun _ _ _ _ _ _ => (d_call ((f_is_heading T).mono (by decide)) hr hg T.M19 T.F19.kp (b_is_heading T) (a_cons (d_var 2 (fun q : E1_check_headings => q.2) (c3 cI cI cI) (fun _ => rfl)) a_nil))) (own := [("heading", 2)]) (hN := sc_check_headings.nd)).de a_nil)))) (s_end (ow2 := []) (Γ2 := fun _ : Unit => [none, none, none]) (fun _ : E0_check_headings => ()) (fun _ _ _ _ r => r.wk (.f (.f (.k .nil)))))))
    exact dss_eq key (by kernel_rfl) (by kernel_rfl)) (fun _ h => h) (fun a _ => ends_und (o_check_headings a))
abbrev E0_time_of : Type := (Int × Int) × (Int × Int) × (Int × Int × Int) × Unit
def o_time_of (a : E0_time_of) : Out Empty (Int × Int) Empty :=
  (let width := a.1; let speed := a.2.1; let heading := a.2.2.1; (Out.rt ((m_over ((m_times (width, (heading.2.2, (1 : Int)), ())), (m_times (speed, (heading.2.1, (1 : Int)), ())), ())))))
def m_time_of (a : E0_time_of) : Int × Int := (o_time_of a).ret
def g_time_of (a : E0_time_of) : Prop :=
  (let width := a.1; let speed := a.2.1; let heading := a.2.2.1; ((((True ∧ ((True ∧ (True ∧ True)) ∧ True)) ∧ (g_times (width, (heading.2.2, (1 : Int)), ()))) ∧ (((True ∧ ((True ∧ (True ∧ True)) ∧ True)) ∧ (g_times (speed, (heading.2.1, (1 : Int)), ()))) ∧ True)) ∧ (g_over ((m_times (width, (heading.2.2, (1 : Int)), ())), (m_times (speed, (heading.2.1, (1 : Int)), ())), ()))))
theorem sc_time_of : FnScope ["width", "speed", "heading"] ["width", "speed", "heading"] (defScope (topS 23)) := ⟨rfl, rfl, rfl, by decide +kernel, rfl, by decide +kernel, by decide +kernel⟩
theorem b_time_of {K : Y.Frag} {mg : Str → Option Value} {ad : Nat → Addr} {fd : Nat → FuncData} (T : Tx K mg ad fd) : Binds K (fd 23) ["width", "speed", "heading"] [] := T.F23.binds (ps := ["width", "speed", "heading"]) fun _ _ _ _ _ _ us hl => match us, hl with | [_, _, _], _ => rfl
theorem f_time_of {P : Program} {w : World} {K : Y.Frag} {mg : Str → Option Value} {base : Heap} {ad : Nat → Addr} {fd : Nat → FuncData} (T : Tx K mg ad fd) : FnG P w K mg base 4 (ad 23) (fd 23) ["width", "speed", "heading"] (spP K (ac (c2 cI cI) (ac (c2 cI cI) (ac (c3 cI cI cI) an))) (c2 cI cI) g_time_of m_time_of) :=
  fn_pure T.F23 sc_time_of 0 (fun _ => rfl) rfl (owS := []) (ow' := []) (ΓS := fun _ : Empty => []) (Γ' := fun _ : Empty => []) (cr := (c2 cI cI)) (ci := fun _ => []) (G := g_time_of) (d := o_time_of) (fun A0 cdv A outer s H E hr hg => by
    have hu : (A.deeper (envOfC _ (defScope (topS 23)) s.heap.objs.size _ cdv)).units + 64 < cLine := Nat.lt_of_le_of_lt (Nat.add_le_add_left (by decide) _) (room_un hr)
    have key : Dss (XF P w K mg base ["width", "speed", "heading"] "time_of" (topS 23) (ad 23) cdv A outer s H E) ⟨A0, [], none⟩ [] (fun a : E0_time_of => ((ac (c2 cI cI) (ac (c2 cI cI) (ac (c3 cI cI cI) an))) a).map some ++ List.replicate 0 none) (c2 cI cI) (fun _ => []) [] (fun _ : Empty => []) (defBody (topS 23)) _ _ [] (fun _ : Empty => []) := (s_one (s_ret (r := fun v (_ : E0_time_of) => v) (fun _ _ => rfl) rfl (d_call ((f_over T).mono (by decide)) hr hg T.M13 T.F13.kp (b_over T) (a_cons (d_call ((f_times T).mono (by decide)) hr hg T.M12 T.F12.kp (b_times T) (a_cons (d_var 0 (fun q : E0_time_of => q.1) (c2 cI cI) (fun _ => rfl)) (a_cons (d_tp2 (a_cons (d_prj 2 (fun x : Int × Int × Int => x.2.2) (cb := cI) (fun _ => ⟨_, rfl, rfl⟩) (d_var 2 (fun q : E0_time_of => q.2.2.1) (c3 cI cI cI) (fun _ => rfl)) d_int) (a_cons d_int a_nil))) a_nil))) (a_cons (d_call ((f_times T).mono (by decide)) hr hg T.M12 T.F12.kp (b_times T) (a_cons (d_var 1 (fun q : E0_time_of => q.2.1) (c2 cI cI) (fun _ => rfl)) (a_cons (d_tp2 (a_cons (d_prj 1 (fun x : Int × Int × Int => x.2.1) (cb := cI) (fun _ => ⟨_, rfl, rfl⟩) (d_var 2 (fun q : E0_time_of => q.2.2.1) (c3 cI cI cI) (fun _ => rfl)) d_int) (a_cons d_int a_nil))) a_nil))) a_nil)))))
    exact dss_eq key (by kernel_rfl) (by kernel_rfl)) (fun _ h => h) (fun a _ => ends_ret (fun r => r) (fun _ => rfl) (o_time_of a))
abbrev E0_drift_of : Type := ((Int × Int) × (Int × Int)) × (Int × Int) × (Int × Int × Int) × Unit
abbrev E1_drift_of : Type := E0_drift_of × (Int × Int)
def o_drift_of (a : E0_drift_of) : Out Empty (Int × Int) Empty :=
  (let band := a.1; let speed := a.2.1; let heading := a.2.2.1; (let own1 : Int × Int := (m_over ((m_times (speed, (heading.1, (1 : Int)), ())), (heading.2.2, (1 : Int)), ())); (Out.rt ((m_times ((m_time_of (band.1, speed, heading, ())), (m_plus (own1, band.2, ())), ()))))))
def m_drift_of (a : E0_drift_of) : Int × Int := (o_drift_of a).ret
def g_drift_of (a : E0_drift_of) : Prop :=
  (let band := a.1; let speed := a.2.1; let heading := a.2.2.1; (((((True ∧ ((True ∧ (True ∧ True)) ∧ True)) ∧ (g_times (speed, (heading.1, (1 : Int)), ()))) ∧ ((True ∧ (True ∧ True)) ∧ True)) ∧ (g_over ((m_times (speed, (heading.1, (1 : Int)), ())), (heading.2.2, (1 : Int)), ()))) ∧ (let own1 : Int × Int := (m_over ((m_times (speed, (heading.1, (1 : Int)), ())), (heading.2.2, (1 : Int)), ())); ((((True ∧ (True ∧ (True ∧ True))) ∧ (g_time_of (band.1, speed, heading, ()))) ∧ (((True ∧ (True ∧ True)) ∧ (g_plus (own1, band.2, ()))) ∧ True)) ∧ (g_times ((m_time_of (band.1, speed, heading, ())), (m_plus (own1, band.2, ())), ()))))))
theorem sc_drift_of : FnScope ["band", "speed", "heading", "own"] ["band", "speed", "heading"] (defScope (topS 24)) := ⟨rfl, rfl, rfl, by decide +kernel, rfl, by decide +kernel, by decide +kernel⟩
theorem b_drift_of {K : Y.Frag} {mg : Str → Option Value} {ad : Nat → Addr} {fd : Nat → FuncData} (T : Tx K mg ad fd) : Binds K (fd 24) ["band", "speed", "heading"] [] := T.F24.binds (ps := ["band", "speed", "heading"]) fun _ _ _ _ _ _ us hl => match us, hl with | [_, _, _], _ => rfl
theorem f_drift_of {P : Program} {w : World} {K : Y.Frag} {mg : Str → Option Value} {base : Heap} {ad : Nat → Addr} {fd : Nat → FuncData} (T : Tx K mg ad fd) : FnG P w K mg base 5 (ad 24) (fd 24) ["band", "speed", "heading"] (spP K (ac (c2 (c2 cI cI) (c2 cI cI)) (ac (c2 cI cI) (ac (c3 cI cI cI) an))) (c2 cI cI) g_drift_of m_drift_of) :=
  fn_pure T.F24 sc_drift_of 1 (fun _ => rfl) rfl (owS := []) (ow' := []) (ΓS := fun _ : Empty => []) (Γ' := fun _ : Empty => []) (cr := (c2 cI cI)) (ci := fun _ => []) (G := g_drift_of) (d := o_drift_of) (fun A0 cdv A outer s H E hr hg => by
    have hu : (A.deeper (envOfC _ (defScope (topS 24)) s.heap.objs.size _ cdv)).units + 64 < cLine := Nat.lt_of_le_of_lt (Nat.add_le_add_left (by decide) _) (room_un hr)
    have key : Dss (XF P w K mg base ["band", "speed", "heading", "own"] "drift_of" (topS 24) (ad 24) cdv A outer s H E) ⟨A0, [], none⟩ [] (fun a : E0_drift_of => ((ac (c2 (c2 cI cI) (c2 cI cI)) (ac (c2 cI cI) (ac (c3 cI cI cI) an))) a).map some ++ List.replicate 1 none) (c2 cI cI) (fun _ => []) [] (fun _ : Empty => []) (defBody (topS 24)) _ _ [] (fun _ : Empty => []) := (s_cons (s_asg 3 (d_call ((f_over T).mono (by decide)) hr hg T.M13 T.F13.kp (b_over T) (a_cons (d_call ((f_times T).mono (by decide)) hr hg T.M12 T.F12.kp (b_times T) (a_cons (d_var 1 (fun q : E0_drift_of => q.2.1) (c2 cI cI) (fun _ => rfl)) (a_cons (d_tp2 (a_cons (d_prj 0 (fun x : Int × Int × Int => x.1) (cb := cI) (fun _ => ⟨_, rfl, rfl⟩) (d_var 2 (fun q : E0_drift_of => q.2.2.1) (c3 cI cI cI) (fun _ => rfl)) d_int) (a_cons d_int a_nil))) a_nil))) (a_cons (d_tp2 (a_cons (d_prj 2 (fun x : Int × Int × Int => x.2.2) (cb := cI) (fun _ => ⟨_, rfl, rfl⟩) (d_var 2 (fun q : E0_drift_of => q.2.2.1) (c3 cI cI cI) (fun _ => rfl)) d_int) (a_cons d_int a_nil))) a_nil))) (hN := sc_drift_of.nd)) (s_one (s_ret (r := fun v (_ : E1_drift_of) => v) (fun _ _ => rfl) rfl (d_call ((f_times T).mono (by decide)) hr hg T.M12 T.F12.kp (b_times T) (a_cons (d_call ((f_time_of T).mono (by decide)) hr hg T.M23 T.F23.kp (b_time_of T) (a_cons (d_prj 0 (fun x : (Int × Int) × (Int × Int) => x.1) (cb := (c2 cI cI)) (fun _ => ⟨_, rfl, rfl⟩) (d_var 0 (fun q : E1_drift_of => q.1.1) (c2 (c2 cI cI) (c2 cI cI)) (fun _ => rfl)) d_int) (a_cons (d_var 1 (fun q : E1_drift_of => q.1.2.1) (c2 cI cI) (fun _ => rfl)) (a_cons (d_var 2 (fun q : E1_drift_of => q.1.2.2.1) (c3 cI cI cI) (fun _ => rfl)) a_nil)))) (a_cons (d_call ((f_plus T).mono (by decide)) hr hg T.M11 T.F11.kp (b_plus T) (a_cons (d_var 3 (fun q : E1_drift_of => q.2) (c2 cI cI) (fun _ => rfl)) (a_cons (d_prj 1 (fun x : (Int × Int) × (Int × Int) => x.2) (cb := (c2 cI cI)) (fun _ => ⟨_, rfl, rfl⟩) (d_var 0 (fun q : E1_drift_of => q.1.1) (c2 (c2 cI cI) (c2 cI cI)) (fun _ => rfl)) d_int) a_nil))) a_nil))))))
    exact dss_eq key (by kernel_rfl) (by kernel_rfl)) (fun _ h => h) (fun a _ => ends_ret (fun r => r) (fun _ => rfl) (o_drift_of a))
abbrev E0_crossing_in : Type := (List ((Int × Int) × (Int × Int))) × (Int × Int) × (List (Int × Int × Int)) × Unit
abbrev E1_crossing_in : Type := E0_crossing_in × (((Int × Int) × (Int × Int)) × (Int × Int × Int))
abbrev E2_crossing_in : Type := E0_crossing_in × (Int × Int)
abbrev E3_crossing_in : Type := E2_crossing_in × (((Int × Int) × (Int × Int)) × (Int × Int × Int))
def o_crossing_in (a : E0_crossing_in) : Out Empty ((Int × Int) × (Int × Int)) Empty :=
  (let bands := a.1; let speed := a.2.1; let headings := a.2.2.1; (let time2 : Int × Int := (m_sum_of ((((bands.zip headings)).map fun x1 => (m_time_of (x1.1.1, speed, x1.2, ()))), ())); (Out.rt ((time2, (m_sum_of ((((bands.zip headings)).map fun x3 => (m_drift_of (x3.1, speed, x3.2, ()))), ())))))))
def m_crossing_in (a : E0_crossing_in) : (Int × Int) × (Int × Int) := (o_crossing_in a).ret
def g_crossing_in (a : E0_crossing_in) : Prop :=
  (let bands := a.1; let speed := a.2.1; let headings := a.2.2.1; (((((True ∧ (True ∧ True)) ∧ (∀ x1 ∈ (bands.zip headings), ((True ∧ (True ∧ (True ∧ True))) ∧ (g_time_of (x1.1.1, speed, x1.2, ()))))) ∧ True) ∧ (g_sum_of ((((bands.zip headings)).map fun x1 => (m_time_of (x1.1.1, speed, x1.2, ()))), ()))) ∧ (let time2 : Int × Int := (m_sum_of ((((bands.zip headings)).map fun x1 => (m_time_of (x1.1.1, speed, x1.2, ()))), ())); (True ∧ (((((True ∧ (True ∧ True)) ∧ (∀ x3 ∈ (bands.zip headings), ((True ∧ (True ∧ (True ∧ True))) ∧ (g_drift_of (x3.1, speed, x3.2, ()))))) ∧ True) ∧ (g_sum_of ((((bands.zip headings)).map fun x3 => (m_drift_of (x3.1, speed, x3.2, ()))), ()))) ∧ True)))))
theorem sc_crossing_in : FnScope ["bands", "speed", "headings", "time", "band", "heading"] ["bands", "speed", "headings"] (defScope (topS 26)) := ⟨rfl, rfl, rfl, by decide +kernel, rfl, by decide +kernel, by decide +kernel⟩
theorem b_crossing_in {K : Y.Frag} {mg : Str → Option Value} {ad : Nat → Addr} {fd : Nat → FuncData} (T : Tx K mg ad fd) : Binds K (fd 26) ["bands", "speed", "headings"] [] := T.F26.binds (ps := ["bands", "speed", "headings"]) fun _ _ _ _ _ _ us hl => match us, hl with | [_, _, _], _ => rfl
theorem f_crossing_in {P : Program} {w : World} {K : Y.Frag} {mg : Str → Option Value} {base : Heap} {ad : Nat → Addr} {fd : Nat → FuncData} (T : Tx K mg ad fd) : FnG P w K mg base 6 (ad 26) (fd 26) ["bands", "speed", "headings"] (spP K (ac (cT (c2 (c2 cI cI) (c2 cI cI))) (ac (c2 cI cI) (ac (cT (c3 cI cI cI)) an))) (c2 (c2 cI cI) (c2 cI cI)) g_crossing_in m_crossing_in) :=
  fn_pure T.F26 sc_crossing_in 3 (fun _ => rfl) rfl (owS := []) (ow' := []) (ΓS := fun _ : Empty => []) (Γ' := fun _ : Empty => []) (cr := (c2 (c2 cI cI) (c2 cI cI))) (ci := fun _ => []) (G := g_crossing_in) (d := o_crossing_in) (fun A0 cdv A outer s H E hr hg => by
    have hu : (A.deeper (envOfC _ (defScope (topS 26)) s.heap.objs.size _ cdv)).units + 64 < cLine := Nat.lt_of_le_of_lt (Nat.add_le_add_left (by decide) _) (room_un hr)
    have key : Dss (XF P w K mg base ["bands", "speed", "headings", "time", "band", "heading"] "crossing_in" (topS 26) (ad 26) cdv A outer s H E) ⟨A0, [], none⟩ [] (fun a : E0_crossing_in => ((ac (cT (c2 (c2 cI cI) (c2 cI cI))) (ac (c2 cI cI) (ac (cT (c3 cI cI cI)) an))) a).map some ++ List.replicate 3 none) (c2 (c2 cI cI) (c2 cI cI)) (fun _ => []) [] (fun _ : Empty => []) (defBody (topS 26)) _ _ [] (fun _ : Empty => []) := (s_cons (s_asg 3 (d_call ((f_sum_of T).mono (by decide)) hr hg T.M15 T.F15.kp (b_sum_of T) (a_cons (d_lc0 (i_zipT (a_cons (d_var 0 (fun q : E0_crossing_in => q.1) (cT (c2 (c2 cI cI) (c2 cI cI))) (fun _ => rfl)) (a_cons (d_var 2 (fun q : E0_crossing_in => q.2.2.1) (cT (c3 cI cI cI)) (fun _ => rfl)) a_nil)) T.z_zip) (blkOk_by (N := ["bands", "speed", "headings", "time", "band", "heading"]) (sc := defScope (topS 26)) (own := [("band", 4), ("heading", 5)]) (by decide +kernel)) (tg_pair 4 5) (fun _ _ _ _ _ => (pg_tup rfl (pgs_cons (pg_name (i := 4) sc_crossing_in.nd rfl (by first | exact .inl rfl | exact .inr rfl)) (pgs_cons (pg_name (i := 5) sc_crossing_in.nd rfl (by first | exact .inl rfl | exact .inr rfl)) pgs_nil)))) (fun _ _ _ _ _ _ => (d_call ((f_time_of T).mono (by decide)) hr hg T.M23 T.F23.kp (b_time_of T) (a_cons (d_prj 0 (fun x : (Int × Int) × (Int × Int) => x.1) (cb := (c2 cI cI)) (fun _ => ⟨_, rfl, rfl⟩) (d_var 4 (fun q : E1_crossing_in => q.2.1) (c2 (c2 cI cI) (c2 cI cI)) (fun _ => rfl)) d_int) (a_cons (d_var 1 (fun q : E1_crossing_in => q.1.2.1) (c2 cI cI) (fun _ => rfl)) (a_cons (d_var 5 (fun q : E1_crossing_in => q.2.2) (c3 cI cI cI) (fun _ => rfl)) a_nil))))) (own := [("band", 4), ("heading", 5)]) (hN := sc_crossing_in.nd)).de a_nil)) (hN := sc_crossing_in.nd)) (s_one (s_ret (r := fun v (_ : E2_crossing_in) => v) (fun _ _ => rfl) rfl (d_tp2 (a_cons (d_var 3 (fun q : E2_crossing_in => q.2) (c2 cI cI) (fun _ => rfl)) (a_cons (d_call ((f_sum_of T).mono (by decide)) hr hg T.M15 T.F15.kp (b_sum_of T) (a_cons (d_lc0 (i_zipT (a_cons (d_var 0 (fun q : E2_crossing_in => q.1.1) (cT (c2 (c2 cI cI) (c2 cI cI))) (fun _ => rfl)) (a_cons (d_var 2 (fun q : E2_crossing_in => q.1.2.2.1) (cT (c3 cI cI cI)) (fun _ => rfl)) a_nil)) T.z_zip) (blkOk_by (N := ["bands", "speed", "headings", "time", "band", "heading"]) (sc := defScope (topS 26)) (own := [("band", 4), ("heading", 5)]) (by decide +kernel)) (tg_pair 4 5) (fun _ _ _ _ _ => (pg_tup rfl (pgs_cons (pg_name (i := 4) sc_crossing_in.nd rfl (by first | exact .inl rfl | exact .inr rfl)) (pgs_cons (pg_name (i := 5) sc_crossing_in.nd rfl (by first | exact .inl rfl | exact .inr rfl)) pgs_nil)))) (fun _ _ _ _ _ _ => (d_call ((f_drift_of T).mono (by decide)) hr hg T.M24 T.F24.kp (b_drift_of T) (a_cons (d_var 4 (fun q : E3_crossing_in => q.2.1) (c2 (c2 cI cI) (c2 cI cI)) (fun _ => rfl)) (a_cons (d_var 1 (fun q : E3_crossing_in => q.1.1.2.1) (c2 cI cI) (fun _ => rfl)) (a_cons (d_var 5 (fun q : E3_crossing_in => q.2.2) (c3 cI cI cI) (fun _ => rfl)) a_nil))))) (own := [("band", 4), ("heading", 5)]) (hN := sc_crossing_in.nd)).de a_nil)) a_nil))))))
    exact dss_eq key (by kernel_rfl) (by kernel_rfl)) (fun _ h => h) (fun a _ => ends_ret (fun r => r) (fun _ => rfl) (o_crossing_in a))
abbrev E0_way_across : Type := (List ((Int × Int) × (Int × Int))) × (Int × Int) × (List (Int × Int × Int)) × Unit
def o_way_across (a : E0_way_across) : Out Empty ((Int × Int) × (Int × Int)) Empty :=
  (let bands := a.1; let speed := a.2.1; let headings := a.2.2.1; (Out.rt ((m_crossing_in (bands, speed, headings, ())))))
def m_way_across (a : E0_way_across) : (Int × Int) × (Int × Int) := (o_way_across a).ret
def g_way_across (a : E0_way_across) : Prop :=
  (let bands := a.1; let speed := a.2.1; let headings := a.2.2.1; (((True ∧ True) ∧ (g_check_bands (bands, ()))) ∧ (((True ∧ True) ∧ (g_check_speed (speed, ()))) ∧ (((True ∧ (True ∧ True)) ∧ (g_check_headings (bands, headings, ()))) ∧ ((True ∧ (True ∧ (True ∧ True))) ∧ (g_crossing_in (bands, speed, headings, ())))))))
theorem sc_way_across : FnScope ["bands", "speed", "headings"] ["bands", "speed", "headings"] (defScope (topS 25)) := ⟨rfl, rfl, rfl, by decide +kernel, rfl, by decide +kernel, by decide +kernel⟩
theorem b_way_across {K : Y.Frag} {mg : Str → Option Value} {ad : Nat → Addr} {fd : Nat → FuncData} (T : Tx K mg ad fd) : Binds K (fd 25) ["bands", "speed", "headings"] [] := T.F25.binds (ps := ["bands", "speed", "headings"]) fun _ _ _ _ _ _ us hl => match us, hl with | [_, _, _], _ => rfl
theorem f_way_across {P : Program} {w : World} {K : Y.Frag} {mg : Str → Option Value} {base : Heap} {ad : Nat → Addr} {fd : Nat → FuncData} (T : Tx K mg ad fd) : FnG P w K mg base 7 (ad 25) (fd 25) ["bands", "speed", "headings"] (spP K (ac (cT (c2 (c2 cI cI) (c2 cI cI))) (ac (c2 cI cI) (ac (cT (c3 cI cI cI)) an))) (c2 (c2 cI cI) (c2 cI cI)) g_way_across m_way_across) :=
  fn_pure T.F25 sc_way_across 0 (fun _ => rfl) rfl (owS := []) (ow' := []) (ΓS := fun _ : Empty => []) (Γ' := fun _ : Empty => []) (cr := (c2 (c2 cI cI) (c2 cI cI))) (ci := fun _ => []) (G := g_way_across) (d := o_way_across) (fun A0 cdv A outer s H E hr hg => by
    have hu : (A.deeper (envOfC _ (defScope (topS 25)) s.heap.objs.size _ cdv)).units + 64 < cLine := Nat.lt_of_le_of_lt (Nat.add_le_add_left (by decide) _) (room_un hr)
    have key : Dss (XF P w K mg base ["bands", "speed", "headings"] "way_across" (topS 25) (ad 25) cdv A outer s H E) ⟨A0, [], none⟩ [] (fun a : E0_way_across => ((ac (cT (c2 (c2 cI cI) (c2 cI cI))) (ac (c2 cI cI) (ac (cT (c3 cI cI cI)) an))) a).map some ++ List.replicate 0 none) (c2 (c2 cI cI) (c2 cI cI)) (fun _ => []) [] (fun _ : Empty => []) (defBody (topS 25)) _ _ [] (fun _ : Empty => []) := (s_cons (s_drop (d_call ((f_check_bands T).mono (by decide)) hr hg T.M20 T.F20.kp (b_check_bands T) (a_cons (d_var 0 (fun q : E0_way_across => q.1) (cT (c2 (c2 cI cI) (c2 cI cI))) (fun _ => rfl)) a_nil))) (s_cons (s_drop (d_call ((f_check_speed T).mono (by decide)) hr hg T.M21 T.F21.kp (b_check_speed T) (a_cons (d_var 1 (fun q : E0_way_across => q.2.1) (c2 cI cI) (fun _ => rfl)) a_nil))) (s_cons (s_drop (d_call ((f_check_headings T).mono (by decide)) hr hg T.M22 T.F22.kp (b_check_headings T) (a_cons (d_var 0 (fun q : E0_way_across => q.1) (cT (c2 (c2 cI cI) (c2 cI cI))) (fun _ => rfl)) (a_cons (d_var 2 (fun q : E0_way_across => q.2.2.1) (cT (c3 cI cI cI)) (fun _ => rfl)) a_nil)))) (s_one (s_ret (r := fun v (_ : E0_way_across) => v) (fun _ _ => rfl) rfl (d_call ((f_crossing_in T).mono (by decide)) hr hg T.M26 T.F26.kp (b_crossing_in T) (a_cons (d_var 0 (fun q : E0_way_across => q.1) (cT (c2 (c2 cI cI) (c2 cI cI))) (fun _ => rfl)) (a_cons (d_var 1 (fun q : E0_way_across => q.2.1) (c2 cI cI) (fun _ => rfl)) (a_cons (d_var 2 (fun q : E0_way_across => q.2.2.1) (cT (c3 cI cI cI)) (fun _ => rfl)) a_nil)))))))))
    exact dss_eq key (by kernel_rfl) (by kernel_rfl)) (fun _ h => h) (fun a _ => ends_ret (fun r => r) (fun _ => rfl) (o_way_across a))
abbrev E0_way_by_bands : Type := (List ((Int × Int) × (Int × Int))) × (Int × Int) × (List (Int × Int × Int)) × Unit
abbrev E1_way_by_bands : Type := E0_way_by_bands × (List ((Int × Int) × (Int × Int) × (Int × Int)))
abbrev E2_way_by_bands : Type := E1_way_by_bands × (List (Int × Int))
abbrev E3_way_by_bands : Type := (List ((Int × Int) × (Int × Int) × (Int × Int))) × (List (Int × Int))
abbrev E4_way_by_bands : Type := E3_way_by_bands × (((Int × Int) × (Int × Int)) × (Int × Int × Int))
abbrev E5_way_by_bands : Type := E4_way_by_bands × (List (Int × Int))
abbrev E6_way_by_bands : Type := E5_way_by_bands × ((Int × Int) × (Int × Int))
abbrev E7_way_by_bands : Type := E5_way_by_bands × (List (Int × Int))
abbrev E8_way_by_bands : Type := E7_way_by_bands × (List ((Int × Int) × (Int × Int) × (Int × Int)))
abbrev E9_way_by_bands : Type := E2_way_by_bands × E3_way_by_bands
def k1_way_by_bands (speed : Int × Int) (q4 : E4_way_by_bands) : E3_way_by_bands :=
  (let own5 : List (Int × Int) := [(m_time_of (q4.2.1.1, speed, q4.2.2, ())), q4.2.1.1, (m_drift_of (q4.2.1, speed, q4.2.2, ()))]; (let here7 : List (Int × Int) := (((q4.1.2.zip own5)).map fun x6 => (m_plus (x6.1, x6.2, ()))); (let found8 : List ((Int × Int) × (Int × Int) × (Int × Int)) := (q4.1.1 ++ [(fx3 here7)]); (found8, here7))))
def kg1_way_by_bands (speed : Int × Int) (q4 : E4_way_by_bands) : Prop :=
  ((((True ∧ (True ∧ (True ∧ True))) ∧ (g_time_of (q4.2.1.1, speed, q4.2.2, ()))) ∧ (True ∧ (((True ∧ (True ∧ (True ∧ True))) ∧ (g_drift_of (q4.2.1, speed, q4.2.2, ()))) ∧ True))) ∧ (let own5 : List (Int × Int) := [(m_time_of (q4.2.1.1, speed, q4.2.2, ())), q4.2.1.1, (m_drift_of (q4.2.1, speed, q4.2.2, ()))]; (((True ∧ (True ∧ True)) ∧ (∀ x6 ∈ (q4.1.2.zip own5), ((True ∧ (True ∧ True)) ∧ (g_plus (x6.1, x6.2, ()))))) ∧ (let here7 : List (Int × Int) := (((q4.1.2.zip own5)).map fun x6 => (m_plus (x6.1, x6.2, ()))); (((((True ∧ True) ∧ True) ∧ ((cT (c2 cI cI)) here7 = (c3 (c2 cI cI) (c2 cI cI) (c2 cI cI)) (fx3 here7))) ∧ (q4.1.1).length < 16777216) ∧ (let found8 : List ((Int × Int) × (Int × Int) × (Int × Int)) := (q4.1.1 ++ [(fx3 here7)]); True))))))
def o_way_by_bands (a : E0_way_by_bands) : Out Empty (List ((Int × Int) × (Int × Int) × (Int × Int))) Empty :=
  (let bands := a.1; let speed := a.2.1; let headings := a.2.2.1; (let found1 : List ((Int × Int) × (Int × Int) × (Int × Int)) := ([] : List ((Int × Int) × (Int × Int) × (Int × Int))); (let here2 : List (Int × Int) := [((0 : Int), (1 : Int)), ((0 : Int), (1 : Int)), ((0 : Int), (1 : Int))]; (let l9 : E3_way_by_bands := (((bands.zip headings)).foldl (fun m x => (k1_way_by_bands speed) (m, x)) (found1, here2)); (Out.rt l9.1)))))
def m_way_by_bands (a : E0_way_by_bands) : List ((Int × Int) × (Int × Int) × (Int × Int)) := (o_way_by_bands a).ret
def g_way_by_bands (a : E0_way_by_bands) : Prop :=
  (let bands := a.1; let speed := a.2.1; let headings := a.2.2.1; (((True ∧ True) ∧ (g_check_bands (bands, ()))) ∧ (((True ∧ True) ∧ (g_check_speed (speed, ()))) ∧ (((True ∧ (True ∧ True)) ∧ (g_check_headings (bands, headings, ()))) ∧ (True ∧ (let found1 : List ((Int × Int) × (Int × Int) × (Int × Int)) := ([] : List ((Int × Int) × (Int × Int) × (Int × Int))); (((True ∧ (True ∧ True)) ∧ ((True ∧ (True ∧ True)) ∧ ((True ∧ (True ∧ True)) ∧ True))) ∧ (let here2 : List (Int × Int) := [((0 : Int), (1 : Int)), ((0 : Int), (1 : Int)), ((0 : Int), (1 : Int))]; (((True ∧ (True ∧ True)) ∧ (forN (kg1_way_by_bands speed) (k1_way_by_bands speed) (found1, here2) (bands.zip headings))) ∧ (let l9 : E3_way_by_bands := (((bands.zip headings)).foldl (fun m x => (k1_way_by_bands speed) (m, x)) (found1, here2)); ((True ∧ True) ∧ True)))))))))))
theorem sc_way_by_bands : FnScope ["bands", "speed", "headings", "found", "here", "band", "heading", "own", "one", "other"] ["bands", "speed", "headings"] (defScope (topS 27)) := ⟨rfl, rfl, rfl, by decide +kernel, rfl, by decide +kernel, by decide +kernel⟩
theorem b_way_by_bands {K : Y.Frag} {mg : Str → Option Value} {ad : Nat → Addr} {fd : Nat → FuncData} (T : Tx K mg ad fd) : Binds K (fd 27) ["bands", "speed", "headings"] [] := T.F27.binds (ps := ["bands", "speed", "headings"]) fun _ _ _ _ _ _ us hl => match us, hl with | [_, _, _], _ => rfl
theorem f_way_by_bands {P : Program} {w : World} {K : Y.Frag} {mg : Str → Option Value} {base : Heap} {ad : Nat → Addr} {fd : Nat → FuncData} (T : Tx K mg ad fd) : FnG P w K mg base 6 (ad 27) (fd 27) ["bands", "speed", "headings"] (spP K (ac (cT (c2 (c2 cI cI) (c2 cI cI))) (ac (c2 cI cI) (ac (cT (c3 cI cI cI)) an))) (cT (c3 (c2 cI cI) (c2 cI cI) (c2 cI cI))) g_way_by_bands m_way_by_bands) :=
  fn_pure T.F27 sc_way_by_bands 7 (fun _ => rfl) rfl (owS := []) (ow' := []) (ΓS := fun _ : Empty => []) (Γ' := fun _ : Empty => []) (cr := (cT (c3 (c2 cI cI) (c2 cI cI) (c2 cI cI)))) (ci := fun _ => []) (G := g_way_by_bands) (d := o_way_by_bands) (fun A0 cdv A outer s H E hr hg => by
    have hu : (A.deeper (envOfC _ (defScope (topS 27)) s.heap.objs.size _ cdv)).units + 64 < cLine := Nat.lt_of_le_of_lt (Nat.add_le_add_left (by decide) _) (room_un hr)
    have key : Dss (XF P w K mg base ["bands", "speed", "headings", "found", "here", "band", "heading", "own", "one", "other"] "way_by_bands" (topS 27) (ad 27) cdv A outer s H E) ⟨A0, [], none⟩ [] (fun a : E0_way_by_bands => ((ac (cT (c2 (c2 cI cI) (c2 cI cI))) (ac (c2 cI cI) (ac (cT (c3 cI cI cI)) an))) a).map some ++ List.replicate 7 none) (cT (c3 (c2 cI cI) (c2 cI cI) (c2 cI cI))) (fun _ => []) [] (fun _ : Empty => []) (defBody (topS 27)) _ _ [] (fun _ : Empty => []) := (s_cons (s_drop (d_call ((f_check_bands T).mono (by decide)) hr hg T.M20 T.F20.kp (b_check_bands T) (a_cons (d_var 0 (fun q : E0_way_by_bands => q.1) (cT (c2 (c2 cI cI) (c2 cI cI))) (fun _ => rfl)) a_nil))) (s_cons (s_drop (d_call ((f_check_speed T).mono (by decide)) hr hg T.M21 T.F21.kp (b_check_speed T) (a_cons (d_var 1 (fun q : E0_way_by_bands => q.2.1) (c2 cI cI) (fun _ => rfl)) a_nil))) (s_cons (s_drop (d_call ((f_check_headings T).mono (by decide)) hr hg T.M22 T.F22.kp (b_check_headings T) (a_cons (d_var 0 (fun q : E0_way_by_bands => q.1) (cT (c2 (c2 cI cI) (c2 cI cI))) (fun _ => rfl)) (a_cons (d_var 2 (fun q : E0_way_by_bands => q.2.2.1) (cT (c3 cI cI cI)) (fun _ => rfl)) a_nil)))) (s_cons (s_own 3 (l_nil (a := (c3 (c2 cI cI) (c2 cI cI) (c2 cI cI)))) (fun _ => by show _ < List.length _; simp) (ow' := [3]) (by intro j; simp only [List.mem_cons, List.not_mem_nil, or_false, false_or]; try omega) (fun h => absurd rfl h) (hN := sc_way_by_bands.nd)) (s_cons (s_asg 4 (l_disp (c := (c2 cI cI)) (g := fun x : (Int × Int) × (Int × Int) × (Int × Int) × Unit => [x.1, x.2.1, x.2.2.1]) (fun _ => rfl) (fun _ => Nat.le_of_ble_eq_true rfl) (a_cons (d_tp2 (a_cons d_int (a_cons d_int a_nil))) (a_cons (d_tp2 (a_cons d_int (a_cons d_int a_nil))) (a_cons (d_tp2 (a_cons d_int (a_cons d_int a_nil))) a_nil)))).de (hN := sc_way_by_bands.nd)) (s_cons (s_forN (ΓL := (fun (e3 : E2_way_by_bands) (m : E3_way_by_bands) => [some ((cT (c2 (c2 cI cI) (c2 cI cI))) e3.1.1.1), some ((c2 cI cI) e3.1.1.2.1), some ((cT (c3 cI cI cI)) e3.1.1.2.2.1), some (.list (m.1.map (c3 (c2 cI cI) (c2 cI cI) (c2 cI cI)))), some ((cL (c2 cI cI)) m.2), none, none, none, none, none])) (fun q : E2_way_by_bands => (q.1.2, q.2)) (i_zipT (a_cons (d_var 0 (fun q : E2_way_by_bands => q.1.1.1) (cT (c2 (c2 cI cI) (c2 cI cI))) (fun _ => rfl)) (a_cons (d_var 2 (fun q : E2_way_by_bands => q.1.1.2.2.1) (cT (c3 cI cI cI)) (fun _ => rfl)) a_nil)) T.z_zip) (fun _ _ _ _ r => r) (pg_tup rfl (pgs_cons (pg_name (i := 5) sc_way_by_bands.nd rfl (by first | exact .inl rfl | exact .inr rfl)) (pgs_cons (pg_name (i := 6) sc_way_by_bands.nd rfl (by first | exact .inl rfl | exact .inr rfl)) pgs_nil))) (tg_pair 5 6) (fun e3 : E2_way_by_bands => (s_cons (s_asg 7 (l_disp (c := (c2 cI cI)) (g := fun x : (Int × Int) × (Int × Int) × (Int × Int) × Unit => [x.1, x.2.1, x.2.2.1]) (fun _ => rfl) (fun _ => Nat.le_of_ble_eq_true rfl) (a_cons (d_call ((f_time_of T).mono (by decide)) hr hg T.M23 T.F23.kp (b_time_of T) (a_cons (d_prj 0 (fun x : (Int × Int) × (Int × Int) => x.1) (cb := (c2 cI cI)) (fun _ => ⟨_, rfl, rfl⟩) (d_var 5 (fun q : E4_way_by_bands => q.2.1) (c2 (c2 cI cI) (c2 cI cI)) (fun _ => rfl)) d_int) (a_cons (d_var 1 (fun q : E4_way_by_bands => e3.1.1.2.1) (c2 cI cI) (fun _ => rfl)) (a_cons (d_var 6 (fun q : E4_way_by_bands => q.2.2) (c3 cI cI cI) (fun _ => rfl)) a_nil)))) (a_cons (d_prj 0 (fun x : (Int × Int) × (Int × Int) => x.1) (cb := (c2 cI cI)) (fun _ => ⟨_, rfl, rfl⟩) (d_var 5 (fun q : E4_way_by_bands => q.2.1) (c2 (c2 cI cI) (c2 cI cI)) (fun _ => rfl)) d_int) (a_cons (d_call ((f_drift_of T).mono (by decide)) hr hg T.M24 T.F24.kp (b_drift_of T) (a_cons (d_var 5 (fun q : E4_way_by_bands => q.2.1) (c2 (c2 cI cI) (c2 cI cI)) (fun _ => rfl)) (a_cons (d_var 1 (fun q : E4_way_by_bands => e3.1.1.2.1) (c2 cI cI) (fun _ => rfl)) (a_cons (d_var 6 (fun q : E4_way_by_bands => q.2.2) (c3 cI cI cI) (fun _ => rfl)) a_nil)))) a_nil)))).de (hN := sc_way_by_bands.nd)) (s_cons (s_asgLc0 4 (sw_true rfl rfl rfl (by decide +kernel)) (i_zipL (a_cons (d_var 4 (fun q : E5_way_by_bands => q.1.1.2) (cL (c2 cI cI)) (fun _ => rfl)) (a_cons (d_var 7 (fun q : E5_way_by_bands => q.2) (cL (c2 cI cI)) (fun _ => rfl)) a_nil)) T.z_zip) (blkOk_by (N := ["bands", "speed", "headings", "found", "here", "band", "heading", "own", "one", "other"]) (sc := defScope (topS 27)) (own := [("one", 8), ("other", 9)]) (by decide +kernel)) (tg_pair 8 9) (fun _ _ _ _ _ => (pg_tup rfl (pgs_cons (pg_name (i := 8) sc_way_by_bands.nd rfl (by first | exact .inl rfl | exact .inr rfl)) (pgs_cons (pg_name (i := 9) sc_way_by_bands.nd rfl (by first | exact .inl rfl | exact .inr rfl)) pgs_nil)))) (fun _ _ _ _ _ _ => (d_call ((f_plus T).mono (by decide)) hr hg T.M11 T.F11.kp (b_plus T) (a_cons (d_var 8 (fun q : E6_way_by_bands => q.2.1) (c2 cI cI) (fun _ => rfl)) (a_cons (d_var 9 (fun q : E6_way_by_bands => q.2.2) (c2 cI cI) (fun _ => rfl)) a_nil)))) (own := [("one", 8), ("other", 9)]) (hN := sc_way_by_bands.nd)) (s_cons (s_app 3 (fun q : E7_way_by_bands => q.1.1.1.1) (fun _ => rfl) ((d_ty call_tuple_of (v_tuple sq_L) T.z_tuple (by decide +kernel) (a_cons (d_var 4 (fun q : E7_way_by_bands => q.2) (cL (c2 cI cI)) (fun _ => rfl)) a_nil)).cast (c' := (c3 (c2 cI cI) (c2 cI cI) (c2 cI cI))) fx3)) (s_end (ow2 := [3]) (Γ2 := (fun m : E3_way_by_bands => [some ((cT (c2 (c2 cI cI) (c2 cI cI))) e3.1.1.1), some ((c2 cI cI) e3.1.1.2.1), some ((cT (c3 cI cI cI)) e3.1.1.2.2.1), some (.list (m.1.map (c3 (c2 cI cI) (c2 cI cI) (c2 cI cI)))), some ((cL (c2 cI cI)) m.2), none, none, none, none, none])) (fun q : E8_way_by_bands => (q.2, q.1.2)) (fun _ _ _ _ r => r.wk (.k (.k (.k (.k (.k (.f (.f (.f (.k (.k .nil)))))))))))))))) (fun _ _ => rfl) PassesOwn.never) (s_conv (ow2 := []) (fun q : E9_way_by_bands => q) (fun _ _ _ _ r => r.freeze (by decide) (fun h => absurd rfl h)) (s_one (s_ret (r := fun v (_ : E9_way_by_bands) => v) (fun _ _ => rfl) rfl (d_ty call_tuple_of (v_tuple sq_L) T.z_tuple (by decide +kernel) (a_cons (d_var 3 (fun q : E9_way_by_bands => q.2.1) (cL (c3 (c2 cI cI) (c2 cI cI) (c2 cI cI))) (fun _ => rfl)) a_nil)))))))))))
    exact dss_eq key (by kernel_rfl) (by kernel_rfl)) (fun _ h => h) (fun a _ => ends_ret (fun r => r) (fun _ => rfl) (o_way_by_bands a))
abbrev E0_judge_landing : Type := (List ((Int × Int) × (Int × Int))) × (Int × Int) × (List (Int × Int × Int)) × (Int × Int) × (Int × Int) × Unit
abbrev E1_judge_landing : Type := E0_judge_landing × (Int × Int)
def o_judge_landing (a : E0_judge_landing) : Out Empty (PySem.Str × (Int × Int)) Empty :=
  (let bands := a.1; let speed := a.2.1; let headings := a.2.2.1; let low := a.2.2.2.1; let high := a.2.2.2.2.1; (let drift1 : Int × Int := ((m_crossing_in (bands, speed, headings, ()))).2; (if (m_is_less (drift1, low, ())) = true then (Out.rt (((PySem.Str.ofString "short"), (m_plus (low, ((-drift1.1), drift1.2), ()))))) else (if (m_is_less (high, drift1, ())) = true then (Out.rt (((PySem.Str.ofString "past"), (m_plus (drift1, ((-high.1), high.2), ()))))) else (Out.rt (((PySem.Str.ofString "lands"), drift1)))))))
def m_judge_landing (a : E0_judge_landing) : PySem.Str × (Int × Int) := (o_judge_landing a).ret
def g_judge_landing (a : E0_judge_landing) : Prop :=
  (let bands := a.1; let speed := a.2.1; let headings := a.2.2.1; let low := a.2.2.2.1; let high := a.2.2.2.2.1; (((True ∧ True) ∧ (g_check_bands (bands, ()))) ∧ (((True ∧ True) ∧ (g_check_speed (speed, ()))) ∧ (((True ∧ (True ∧ True)) ∧ (g_check_headings (bands, headings, ()))) ∧ ((((True ∧ True) ∧ (g_is_number (low, ()))) ∧ (!((m_is_number (low, ())))) = false) ∧ (((((True ∧ True) ∧ (g_is_number (high, ()))) ∧ ((!((m_is_number (high, ())))) = false → ((True ∧ (True ∧ True)) ∧ (g_is_less (high, low, ()))))) ∧ ((!((m_is_number (high, ())))) || (m_is_less (high, low, ()))) = false) ∧ (((True ∧ (True ∧ (True ∧ True))) ∧ (g_crossing_in (bands, speed, headings, ()))) ∧ (let drift1 : Int × Int := ((m_crossing_in (bands, speed, headings, ()))).2; (((True ∧ (True ∧ True)) ∧ (g_is_less (drift1, low, ()))) ∧ ((m_is_less (drift1, low, ())) = true → (True ∧ (((True ∧ (((True ∧ True) ∧ (True ∧ True)) ∧ True)) ∧ (g_plus (low, ((-drift1.1), drift1.2), ()))) ∧ True))) ∧ ((m_is_less (drift1, low, ())) = false → (((True ∧ (True ∧ True)) ∧ (g_is_less (high, drift1, ()))) ∧ ((m_is_less (high, drift1, ())) = true → (True ∧ (((True ∧ (((True ∧ True) ∧ (True ∧ True)) ∧ True)) ∧ (g_plus (drift1, ((-high.1), high.2), ()))) ∧ True))) ∧ ((m_is_less (high, drift1, ())) = false → (True ∧ (True ∧ True))))))))))))))
theorem sc_judge_landing : FnScope ["bands", "speed", "headings", "low", "high", "drift"] ["bands", "speed", "headings", "low", "high"] (defScope (topS 28)) := ⟨rfl, rfl, rfl, by decide +kernel, rfl, by decide +kernel, by decide +kernel⟩
theorem b_judge_landing {K : Y.Frag} {mg : Str → Option Value} {ad : Nat → Addr} {fd : Nat → FuncData} (T : Tx K mg ad fd) : Binds K (fd 28) ["bands", "speed", "headings", "low", "high"] [] := T.F28.binds (ps := ["bands", "speed", "headings", "low", "high"]) fun _ _ _ _ _ _ us hl => match us, hl with | [_, _, _, _, _], _ => rfl
theorem f_judge_landing {P : Program} {w : World} {K : Y.Frag} {mg : Str → Option Value} {base : Heap} {ad : Nat → Addr} {fd : Nat → FuncData} (T : Tx K mg ad fd) : FnG P w K mg base 7 (ad 28) (fd 28) ["bands", "speed", "headings", "low", "high"] (spP K (ac (cT (c2 (c2 cI cI) (c2 cI cI))) (ac (c2 cI cI) (ac (cT (c3 cI cI cI)) (ac (c2 cI cI) (ac (c2 cI cI) an))))) (c2 cS (c2 cI cI)) g_judge_landing m_judge_landing) :=
  fn_pure T.F28 sc_judge_landing 1 (fun _ => rfl) rfl (owS := []) (ow' := []) (ΓS := fun _ : Empty => []) (Γ' := fun _ : Empty => []) (cr := (c2 cS (c2 cI cI))) (ci := fun _ => []) (G := g_judge_landing) (d := o_judge_landing) (fun A0 cdv A outer s H E hr hg => by
    have hu : (A.deeper (envOfC _ (defScope (topS 28)) s.heap.objs.size _ cdv)).units + 64 < cLine := Nat.lt_of_le_of_lt (Nat.add_le_add_left (by decide) _) (room_un hr)
    have key : Dss (XF P w K mg base ["bands", "speed", "headings", "low", "high", "drift"] "judge_landing" (topS 28) (ad 28) cdv A outer s H E) ⟨A0, [], none⟩ [] (fun a : E0_judge_landing => ((ac (cT (c2 (c2 cI cI) (c2 cI cI))) (ac (c2 cI cI) (ac (cT (c3 cI cI cI)) (ac (c2 cI cI) (ac (c2 cI cI) an))))) a).map some ++ List.replicate 1 none) (c2 cS (c2 cI cI)) (fun _ => []) [] (fun _ : Empty => []) (defBody (topS 28)) _ _ [] (fun _ : Empty => []) := (s_cons (s_drop (d_call ((f_check_bands T).mono (by decide)) hr hg T.M20 T.F20.kp (b_check_bands T) (a_cons (d_var 0 (fun q : E0_judge_landing => q.1) (cT (c2 (c2 cI cI) (c2 cI cI))) (fun _ => rfl)) a_nil))) (s_cons (s_drop (d_call ((f_check_speed T).mono (by decide)) hr hg T.M21 T.F21.kp (b_check_speed T) (a_cons (d_var 1 (fun q : E0_judge_landing => q.2.1) (c2 cI cI) (fun _ => rfl)) a_nil))) (s_cons (s_drop (d_call ((f_check_headings T).mono (by decide)) hr hg T.M22 T.F22.kp (b_check_headings T) (a_cons (d_var 0 (fun q : E0_judge_landing => q.1) (cT (c2 (c2 cI cI) (c2 cI cI))) (fun _ => rfl)) (a_cons (d_var 2 (fun q : E0_judge_landing => q.2.2.1) (cT (c3 cI cI cI)) (fun _ => rfl)) a_nil)))) (s_ifX (t_not (t_val (d_call ((f_is_number T).mono (by decide)) hr hg T.M17 T.F17.kp (b_is_number T) (a_cons (d_var 3 (fun q : E0_judge_landing => q.2.2.2.1) (c2 cI cI) (fun _ => rfl)) a_nil)))) (s_ifX (w_orP (t_not (t_val (d_call ((f_is_number T).mono (by decide)) hr hg T.M17 T.F17.kp (b_is_number T) (a_cons (d_var 4 (fun q : E0_judge_landing => q.2.2.2.2.1) (c2 cI cI) (fun _ => rfl)) a_nil)))) (w_or1 (t_val (d_call ((f_is_less T).mono (by decide)) hr hg T.M14 T.F14.kp (b_is_less T) (a_cons (d_var 4 (fun q : E0_judge_landing => q.2.2.2.2.1) (c2 cI cI) (fun _ => rfl)) (a_cons (d_var 3 (fun q : E0_judge_landing => q.2.2.2.1) (c2 cI cI) (fun _ => rfl)) a_nil)))))).dt (s_cons (s_asg 5 (d_prj 1 (fun x : (Int × Int) × (Int × Int) => x.2) (cb := (c2 cI cI)) (fun _ => ⟨_, rfl, rfl⟩) (d_call ((f_crossing_in T).mono (by decide)) hr hg T.M26 T.F26.kp (b_crossing_in T) (a_cons (d_var 0 (fun q : E0_judge_landing => q.1) (cT (c2 (c2 cI cI) (c2 cI cI))) (fun _ => rfl)) (a_cons (d_var 1 (fun q : E0_judge_landing => q.2.1) (c2 cI cI) (fun _ => rfl)) (a_cons (d_var 2 (fun q : E0_judge_landing => q.2.2.1) (cT (c3 cI cI cI)) (fun _ => rfl)) a_nil)))) d_int) (hN := sc_judge_landing.nd)) (s_ifR (t_val (d_call ((f_is_less T).mono (by decide)) hr hg T.M14 T.F14.kp (b_is_less T) (a_cons (d_var 5 (fun q : E1_judge_landing => q.2) (c2 cI cI) (fun _ => rfl)) (a_cons (d_var 3 (fun q : E1_judge_landing => q.1.2.2.2.1) (c2 cI cI) (fun _ => rfl)) a_nil)))) (s_one (s_ret (r := fun v (_ : E1_judge_landing) => v) (fun _ _ => rfl) rfl (d_tp2 (a_cons d_str (a_cons (d_call ((f_plus T).mono (by decide)) hr hg T.M11 T.F11.kp (b_plus T) (a_cons (d_var 3 (fun q : E1_judge_landing => q.1.2.2.2.1) (c2 cI cI) (fun _ => rfl)) (a_cons (d_tp2 (a_cons (d_un un_neg v_neg (d_prj 0 (fun x : Int × Int => x.1) (cb := cI) (fun _ => ⟨_, rfl, rfl⟩) (d_var 5 (fun q : E1_judge_landing => q.2) (c2 cI cI) (fun _ => rfl)) d_int)) (a_cons (d_prj 1 (fun x : Int × Int => x.2) (cb := cI) (fun _ => ⟨_, rfl, rfl⟩) (d_var 5 (fun q : E1_judge_landing => q.2) (c2 cI cI) (fun _ => rfl)) d_int) a_nil))) a_nil))) a_nil))))) (by intro ε n; (repeat' (first | (intro h; nomatch h) | split))) (s_ifR (t_val (d_call ((f_is_less T).mono (by decide)) hr hg T.M14 T.F14.kp (b_is_less T) (a_cons (d_var 4 (fun q : E1_judge_landing => q.1.2.2.2.2.1) (c2 cI cI) (fun _ => rfl)) (a_cons (d_var 5 (fun q : E1_judge_landing => q.2) (c2 cI cI) (fun _ => rfl)) a_nil)))) (s_one (s_ret (r := fun v (_ : E1_judge_landing) => v) (fun _ _ => rfl) rfl (d_tp2 (a_cons d_str (a_cons (d_call ((f_plus T).mono (by decide)) hr hg T.M11 T.F11.kp (b_plus T) (a_cons (d_var 5 (fun q : E1_judge_landing => q.2) (c2 cI cI) (fun _ => rfl)) (a_cons (d_tp2 (a_cons (d_un un_neg v_neg (d_prj 0 (fun x : Int × Int => x.1) (cb := cI) (fun _ => ⟨_, rfl, rfl⟩) (d_var 4 (fun q : E1_judge_landing => q.1.2.2.2.2.1) (c2 cI cI) (fun _ => rfl)) d_int)) (a_cons (d_prj 1 (fun x : Int × Int => x.2) (cb := cI) (fun _ => ⟨_, rfl, rfl⟩) (d_var 4 (fun q : E1_judge_landing => q.1.2.2.2.2.1) (c2 cI cI) (fun _ => rfl)) d_int) a_nil))) a_nil))) a_nil))))) (by intro ε n; (repeat' (first | (intro h; nomatch h) | split))) (s_one (s_ret (r := fun v (_ : E1_judge_landing) => v) (fun _ _ => rfl) rfl (d_tp2 (a_cons d_str (a_cons (d_var 5 (fun q : E1_judge_landing => q.2) (c2 cI cI) (fun _ => rfl)) a_nil)))))))))))))
    exact dss_eq key (by kernel_rfl) (by kernel_rfl)) (fun _ h => h) (fun a _ => ends_ret (fun r => r) (fun _ => rfl) (o_judge_landing a))
abbrev E0_least_time : Type := (List ((Int × Int) × (Int × Int))) × (Int × Int) × Unit
abbrev E1_least_time : Type := E0_least_time × ((Int × Int) × (Int × Int))
def o_least_time (a : E0_least_time) : Out Empty (Int × Int) Empty :=
  (let bands := a.1; let speed := a.2.1; (Out.rt ((m_over ((m_sum_of ((bands.map fun x1 => x1.1), ())), speed, ())))))
def m_least_time (a : E0_least_time) : Int × Int := (o_least_time a).ret
def g_least_time (a : E0_least_time) : Prop :=
  (let bands := a.1; let speed := a.2.1; (((True ∧ True) ∧ (g_check_bands (bands, ()))) ∧ (((True ∧ True) ∧ (g_check_speed (speed, ()))) ∧ (((((True ∧ (∀ x1 ∈ bands, True)) ∧ True) ∧ (g_sum_of ((bands.map fun x1 => x1.1), ()))) ∧ (True ∧ True)) ∧ (g_over ((m_sum_of ((bands.map fun x1 => x1.1), ())), speed, ()))))))
theorem sc_least_time : FnScope ["bands", "speed", "band"] ["bands", "speed"] (defScope (topS 29)) := ⟨rfl, rfl, rfl, by decide +kernel, rfl, by decide +kernel, by decide +kernel⟩
theorem b_least_time {K : Y.Frag} {mg : Str → Option Value} {ad : Nat → Addr} {fd : Nat → FuncData} (T : Tx K mg ad fd) : Binds K (fd 29) ["bands", "speed"] [] := T.F29.binds (ps := ["bands", "speed"]) fun _ _ _ _ _ _ us hl => match us, hl with | [_, _], _ => rfl
theorem f_least_time {P : Program} {w : World} {K : Y.Frag} {mg : Str → Option Value} {base : Heap} {ad : Nat → Addr} {fd : Nat → FuncData} (T : Tx K mg ad fd) : FnG P w K mg base 5 (ad 29) (fd 29) ["bands", "speed"] (spP K (ac (cT (c2 (c2 cI cI) (c2 cI cI))) (ac (c2 cI cI) an)) (c2 cI cI) g_least_time m_least_time) :=
  fn_pure T.F29 sc_least_time 1 (fun _ => rfl) rfl (owS := []) (ow' := []) (ΓS := fun _ : Empty => []) (Γ' := fun _ : Empty => []) (cr := (c2 cI cI)) (ci := fun _ => []) (G := g_least_time) (d := o_least_time) (fun A0 cdv A outer s H E hr hg => by
    have hu : (A.deeper (envOfC _ (defScope (topS 29)) s.heap.objs.size _ cdv)).units + 64 < cLine := Nat.lt_of_le_of_lt (Nat.add_le_add_left (by decide) _) (room_un hr)
    have key : Dss (XF P w K mg base ["bands", "speed", "band"] "least_time" (topS 29) (ad 29) cdv A outer s H E) ⟨A0, [], none⟩ [] (fun a : E0_least_time => ((ac (cT (c2 (c2 cI cI) (c2 cI cI))) (ac (c2 cI cI) an)) a).map some ++ List.replicate 1 none) (c2 cI cI) (fun _ => []) [] (fun _ : Empty => []) (defBody (topS 29)) _ _ [] (fun _ : Empty => []) := (s_cons (s_drop (d_call ((f_check_bands T).mono (by decide)) hr hg T.M20 T.F20.kp (b_check_bands T) (a_cons (d_var 0 (fun q : E0_least_time => q.1) (cT (c2 (c2 cI cI) (c2 cI cI))) (fun _ => rfl)) a_nil))) (s_cons (s_drop (d_call ((f_check_speed T).mono (by decide)) hr hg T.M21 T.F21.kp (b_check_speed T) (a_cons (d_var 1 (fun q : E0_least_time => q.2.1) (c2 cI cI) (fun _ => rfl)) a_nil))) (s_one (s_ret (r := fun v (_ : E0_least_time) => v) (fun _ _ => rfl) rfl (d_call ((f_over T).mono (by decide)) hr hg T.M13 T.F13.kp (b_over T) (a_cons (d_call ((f_sum_of T).mono (by decide)) hr hg T.M15 T.F15.kp (b_sum_of T) (a_cons (d_lc0 (i_tup (d_var 0 (fun q : E0_least_time => q.1) (cT (c2 (c2 cI cI) (c2 cI cI))) (fun _ => rfl))) (blkOk_by (N := ["bands", "speed", "band"]) (sc := defScope (topS 29)) (own := [("band", 2)]) (by decide +kernel)) (tg_name 2) (fun _ _ _ _ _ => (pg_name (i := 2) sc_least_time.nd rfl (by first | exact .inl rfl | exact .inr rfl))) (fun _ _ _ _ _ _ => (d_prj 0 (fun x : (Int × Int) × (Int × Int) => x.1) (cb := (c2 cI cI)) (fun _ => ⟨_, rfl, rfl⟩) (d_var 2 (fun q : E1_least_time => q.2) (c2 (c2 cI cI) (c2 cI cI)) (fun _ => rfl)) d_int)) (own := [("band", 2)]) (hN := sc_least_time.nd)).de a_nil)) (a_cons (d_var 1 (fun q : E0_least_time => q.2.1) (c2 cI cI) (fun _ => rfl)) a_nil)))))))
    exact dss_eq key (by kernel_rfl) (by kernel_rfl)) (fun _ h => h) (fun a _ => ends_ret (fun r => r) (fun _ => rfl) (o_least_time a))
abbrev E0_drift_between : Type := (List (Int × Int)) × Unit
abbrev E1_drift_between : Type := E0_drift_between × (Int × Int)
abbrev E2_drift_between : Type := E1_drift_between × (Int × Int)
abbrev E3_drift_between : Type := (Int × Int) × (Int × Int)
abbrev E4_drift_between : Type := E3_drift_between × (Int × Int)
abbrev E5_drift_between : Type := E4_drift_between × (Int × Int)
abbrev E6_drift_between : Type := E5_drift_between × (Int × Int)
abbrev E7_drift_between : Type := E2_drift_between × E3_drift_between
def k1_drift_between (q5 : E4_drift_between) : E3_drift_between :=
  (let least6 : Int × Int := (if (m_is_less (q5.2, q5.1.1, ())) = true then q5.2 else q5.1.1); (let most7 : Int × Int := (if (m_is_less (q5.1.2, q5.2, ())) = true then q5.2 else q5.1.2); (least6, most7)))
def kg1_drift_between (q5 : E4_drift_between) : Prop :=
  ((((True ∧ (True ∧ True)) ∧ (g_is_less (q5.2, q5.1.1, ()))) ∧ ((m_is_less (q5.2, q5.1.1, ())) = true → True) ∧ ((m_is_less (q5.2, q5.1.1, ())) = false → True)) ∧ (let least6 : Int × Int := (if (m_is_less (q5.2, q5.1.1, ())) = true then q5.2 else q5.1.1); ((((True ∧ (True ∧ True)) ∧ (g_is_less (q5.1.2, q5.2, ()))) ∧ ((m_is_less (q5.1.2, q5.2, ())) = true → True) ∧ ((m_is_less (q5.1.2, q5.2, ())) = false → True)) ∧ (let most7 : Int × Int := (if (m_is_less (q5.1.2, q5.2, ())) = true then q5.2 else q5.1.2); True))))
def o_drift_between (a : E0_drift_between) : Out Empty ((Int × Int) × (Int × Int)) Empty :=
  (let drifts := a.1; (let least2 : Int × Int := (ixD drifts ((0 : Int))); let most3 : Int × Int := (ixD drifts ((0 : Int))); (let l8 : E3_drift_between := (drifts.foldl (fun m x => k1_drift_between (m, x)) (least2, most3)); (Out.rt ((l8.1, l8.2))))))
def m_drift_between (a : E0_drift_between) : (Int × Int) × (Int × Int) := (o_drift_between a).ret
def g_drift_between (a : E0_drift_between) : Prop :=
  (let drifts := a.1; (((True ∧ ((!true) = false → (True ∧ ((!((!(drifts).isEmpty))) = false → (((True ∧ (∀ x1 ∈ drifts, ((True ∧ True) ∧ (g_is_quotient (x1, ()))))) ∧ True) ∧ True))))) ∧ ((!true) || ((!((!(drifts).isEmpty))) || (!((((drifts.map fun x1 => (m_is_quotient (x1, ())))).all id))))) = false) ∧ (((True ∧ True ∧ (CIx drifts ((0 : Int)))) ∧ ((True ∧ True ∧ (CIx drifts ((0 : Int)))) ∧ True)) ∧ (let least2 : Int × Int := (ixD drifts ((0 : Int))); let most3 : Int × Int := (ixD drifts ((0 : Int))); ((True ∧ (forN kg1_drift_between k1_drift_between (least2, most3) drifts)) ∧ (let l8 : E3_drift_between := (drifts.foldl (fun m x => k1_drift_between (m, x)) (least2, most3)); (True ∧ (True ∧ True))))))))
theorem sc_drift_between : FnScope ["drifts", "least", "most", "own"] ["drifts"] (defScope (topS 30)) := ⟨rfl, rfl, rfl, by decide +kernel, rfl, by decide +kernel, by decide +kernel⟩
theorem b_drift_between {K : Y.Frag} {mg : Str → Option Value} {ad : Nat → Addr} {fd : Nat → FuncData} (T : Tx K mg ad fd) : Binds K (fd 30) ["drifts"] [] := T.F30.binds (ps := ["drifts"]) fun _ _ _ _ _ _ us hl => match us, hl with | [_], _ => rfl
theorem f_drift_between {P : Program} {w : World} {K : Y.Frag} {mg : Str → Option Value} {base : Heap} {ad : Nat → Addr} {fd : Nat → FuncData} (T : Tx K mg ad fd) : FnG P w K mg base 3 (ad 30) (fd 30) ["drifts"] (spP K (ac (cT (c2 cI cI)) an) (c2 (c2 cI cI) (c2 cI cI)) g_drift_between m_drift_between) :=
  fn_pure T.F30 sc_drift_between 3 (fun _ => rfl) rfl (owS := []) (ow' := []) (ΓS := fun _ : Empty => []) (Γ' := fun _ : Empty => []) (cr := (c2 (c2 cI cI) (c2 cI cI))) (ci := fun _ => []) (G := g_drift_between) (d := o_drift_between) (fun A0 cdv A outer s H E hr hg => by
    have hu : (A.deeper (envOfC _ (defScope (topS 30)) s.heap.objs.size _ cdv)).units + 64 < cLine := Nat.lt_of_le_of_lt (Nat.add_le_add_left (by decide) _) (room_un hr)
    have key : Dss (XF P w K mg base ["drifts", "least", "most", "own"] "drift_between" (topS 30) (ad 30) cdv A outer s H E) ⟨A0, [], none⟩ [] (fun a : E0_drift_between => ((ac (cT (c2 cI cI)) an) a).map some ++ List.replicate 3 none) (c2 (c2 cI cI) (c2 cI cI)) (fun _ => []) [] (fun _ : Empty => []) (defBody (topS 30)) _ _ [] (fun _ : Empty => []) := (s_ifX (w_orP (t_not (t_val (d_isi (C := "tuple") (b := true) (d_var 0 (fun q : E0_drift_between => q.1) (cT (c2 cI cI)) (fun _ => rfl)) (ty_T fun _ => rfl) T.z_isinstance T.z_tuple (by decide +kernel) (by decide +kernel)))) (w_orP (t_not (t_truth (d_var 0 (fun q : E0_drift_between => q.1) (cT (c2 cI cI)) (fun _ => rfl)) (tru_list sq_T))) (w_or1 (t_not (t_val (d_blt (cr_all rfl) v_allL T.z_all (by decide +kernel) (a_cons (d_lc0 (i_tup (d_var 0 (fun q : E0_drift_between => q.1) (cT (c2 cI cI)) (fun _ => rfl))) (blkOk_by (N := ["drifts", "least", "most", "own"]) (sc := defScope (topS 30)) (own := [("own", 3)]) (by decide +kernel)) (tg_name 3) (fun _ _ _ _ _ => (pg_name (i := 3) sc_drift_between.nd rfl (by first | exact .inl rfl | exact .inr rfl))) (fun _ _ _ _ _ _ => (d_call ((f_is_quotient T).mono (by decide)) hr hg T.M16 T.F16.kp (b_is_quotient T) (a_cons (d_var 3 (fun q : E1_drift_between => q.2) (c2 cI cI) (fun _ => rfl)) a_nil))) (own := [("own", 3)]) (hN := sc_drift_between.nd)).de a_nil))))))).dt (s_cons (s_par 1 2 (ca := (c2 cI cI)) (cb := (c2 cI cI)) (ga := fun x : (Int × Int) × (Int × Int) × Unit => x.1) (gb := fun x : (Int × Int) × (Int × Int) × Unit => x.2.1) (a_cons (d_ix ix_tup v_ixT (d_var 0 (fun q : E0_drift_between => q.1) (cT (c2 cI cI)) (fun _ => rfl)) d_int) (a_cons (d_ix ix_tup v_ixT (d_var 0 (fun q : E0_drift_between => q.1) (cT (c2 cI cI)) (fun _ => rfl)) d_int) a_nil)) (fun _ => rfl) rfl (hN := sc_drift_between.nd)) (s_cons (s_forN (ΓL := (fun (e4 : E2_drift_between) (m : E3_drift_between) => [some ((cT (c2 cI cI)) e4.1.1.1), some ((c2 cI cI) m.1), some ((c2 cI cI) m.2), none])) (fun q : E2_drift_between => (q.1.2, q.2)) (i_tup (d_var 0 (fun q : E2_drift_between => q.1.1.1) (cT (c2 cI cI)) (fun _ => rfl))) (fun _ _ _ _ r => r) (pg_name (i := 3) sc_drift_between.nd rfl (by first | exact .inl rfl | exact .inr rfl)) (tg_name 3) (fun e4 : E2_drift_between => (s_cons (s_asg 1 (d_if (t_val (d_call ((f_is_less T).mono (by decide)) hr hg T.M14 T.F14.kp (b_is_less T) (a_cons (d_var 3 (fun q : E4_drift_between => q.2) (c2 cI cI) (fun _ => rfl)) (a_cons (d_var 1 (fun q : E4_drift_between => q.1.1) (c2 cI cI) (fun _ => rfl)) a_nil)))) (d_var 3 (fun q : E4_drift_between => q.2) (c2 cI cI) (fun _ => rfl)) (d_var 1 (fun q : E4_drift_between => q.1.1) (c2 cI cI) (fun _ => rfl))) (hN := sc_drift_between.nd)) (s_cons (s_asg 2 (d_if (t_val (d_call ((f_is_less T).mono (by decide)) hr hg T.M14 T.F14.kp (b_is_less T) (a_cons (d_var 2 (fun q : E5_drift_between => q.1.1.2) (c2 cI cI) (fun _ => rfl)) (a_cons (d_var 3 (fun q : E5_drift_between => q.1.2) (c2 cI cI) (fun _ => rfl)) a_nil)))) (d_var 3 (fun q : E5_drift_between => q.1.2) (c2 cI cI) (fun _ => rfl)) (d_var 2 (fun q : E5_drift_between => q.1.1.2) (c2 cI cI) (fun _ => rfl))) (hN := sc_drift_between.nd)) (s_end (ow2 := []) (Γ2 := (fun m : E3_drift_between => [some ((cT (c2 cI cI)) e4.1.1.1), some ((c2 cI cI) m.1), some ((c2 cI cI) m.2), none])) (fun q : E6_drift_between => (q.1.2, q.2)) (fun _ _ _ _ r => r.wk (.k (.k (.k (.f .nil))))))))) (fun _ _ => rfl) PassesOwn.never) (s_one (s_ret (r := fun v (_ : E7_drift_between) => v) (fun _ _ => rfl) rfl (d_tp2 (a_cons (d_var 1 (fun q : E7_drift_between => q.2.1) (c2 cI cI) (fun _ => rfl)) (a_cons (d_var 2 (fun q : E7_drift_between => q.2.2) (c2 cI cI) (fun _ => rfl)) a_nil))))))))
    exact dss_eq key (by kernel_rfl) (by kernel_rfl)) (fun _ h => h) (fun a _ => ends_ret (fun r => r) (fun _ => rfl) (o_drift_between a))
abbrev E0_even_current : Type := (List ((Int × Int) × (Int × Int))) × Unit
abbrev E1_even_current : Type := E0_even_current × ((Int × Int) × (Int × Int))
abbrev E2_even_current : Type := E0_even_current × (Int × Int)
abbrev E3_even_current : Type := E2_even_current × ((Int × Int) × (Int × Int))
def o_even_current (a : E0_even_current) : Out Empty (Int × Int) Empty :=
  (let bands := a.1; (let wide2 : Int × Int := (m_sum_of ((bands.map fun x1 => x1.1), ())); (Out.rt ((m_over ((m_sum_of ((bands.map fun x3 => (m_times (x3.1, x3.2, ()))), ())), wide2, ()))))))
def m_even_current (a : E0_even_current) : Int × Int := (o_even_current a).ret
def g_even_current (a : E0_even_current) : Prop :=
  (let bands := a.1; (((True ∧ True) ∧ (g_check_bands (bands, ()))) ∧ ((((True ∧ (∀ x1 ∈ bands, True)) ∧ True) ∧ (g_sum_of ((bands.map fun x1 => x1.1), ()))) ∧ (let wide2 : Int × Int := (m_sum_of ((bands.map fun x1 => x1.1), ())); (((((True ∧ (∀ x3 ∈ bands, ((True ∧ (True ∧ True)) ∧ (g_times (x3.1, x3.2, ()))))) ∧ True) ∧ (g_sum_of ((bands.map fun x3 => (m_times (x3.1, x3.2, ()))), ()))) ∧ (True ∧ True)) ∧ (g_over ((m_sum_of ((bands.map fun x3 => (m_times (x3.1, x3.2, ()))), ())), wide2, ())))))))
theorem sc_even_current : FnScope ["bands", "wide", "band", "width", "current"] ["bands"] (defScope (topS 31)) := ⟨rfl, rfl, rfl, by decide +kernel, rfl, by decide +kernel, by decide +kernel⟩
theorem b_even_current {K : Y.Frag} {mg : Str → Option Value} {ad : Nat → Addr} {fd : Nat → FuncData} (T : Tx K mg ad fd) : Binds K (fd 31) ["bands"] [] := T.F31.binds (ps := ["bands"]) fun _ _ _ _ _ _ us hl => match us, hl with | [_], _ => rfl
theorem f_even_current {P : Program} {w : World} {K : Y.Frag} {mg : Str → Option Value} {base : Heap} {ad : Nat → Addr} {fd : Nat → FuncData} (T : Tx K mg ad fd) : FnG P w K mg base 5 (ad 31) (fd 31) ["bands"] (spP K (ac (cT (c2 (c2 cI cI) (c2 cI cI))) an) (c2 cI cI) g_even_current m_even_current) :=
  fn_pure T.F31 sc_even_current 4 (fun _ => rfl) rfl (owS := []) (ow' := []) (ΓS := fun _ : Empty => []) (Γ' := fun _ : Empty => []) (cr := (c2 cI cI)) (ci := fun _ => []) (G := g_even_current) (d := o_even_current) (fun A0 cdv A outer s H E hr hg => by
    have hu : (A.deeper (envOfC _ (defScope (topS 31)) s.heap.objs.size _ cdv)).units + 64 < cLine := Nat.lt_of_le_of_lt (Nat.add_le_add_left (by decide) _) (room_un hr)
    have key : Dss (XF P w K mg base ["bands", "wide", "band", "width", "current"] "even_current" (topS 31) (ad 31) cdv A outer s H E) ⟨A0, [], none⟩ [] (fun a : E0_even_current => ((ac (cT (c2 (c2 cI cI) (c2 cI cI))) an) a).map some ++ List.replicate 4 none) (c2 cI cI) (fun _ => []) [] (fun _ : Empty => []) (defBody (topS 31)) _ _ [] (fun _ : Empty => []) := (s_cons (s_drop (d_call ((f_check_bands T).mono (by decide)) hr hg T.M20 T.F20.kp (b_check_bands T) (a_cons (d_var 0 (fun q : E0_even_current => q.1) (cT (c2 (c2 cI cI) (c2 cI cI))) (fun _ => rfl)) a_nil))) (s_cons (s_asg 1 (d_call ((f_sum_of T).mono (by decide)) hr hg T.M15 T.F15.kp (b_sum_of T) (a_cons (d_lc0 (i_tup (d_var 0 (fun q : E0_even_current => q.1) (cT (c2 (c2 cI cI) (c2 cI cI))) (fun _ => rfl))) (blkOk_by (N := ["bands", "wide", "band", "width", "current"]) (sc := defScope (topS 31)) (own := [("band", 2)]) (by decide +kernel)) (tg_name 2) (fun _ _ _ _ _ => (pg_name (i := 2) sc_even_current.nd rfl (by first | exact .inl rfl | exact .inr rfl))) (fun _ _ _ _ _ _ => (d_prj 0 (fun x : (Int × Int) × (Int × Int) => x.1) (cb := (c2 cI cI)) (fun _ => ⟨_, rfl, rfl⟩) (d_var 2 (fun q : E1_even_current => q.2) (c2 (c2 cI cI) (c2 cI cI)) (fun _ => rfl)) d_int)) (own := [("band", 2)]) (hN := sc_even_current.nd)).de a_nil)) (hN := sc_even_current.nd)) (s_one (s_ret (r := fun v (_ : E2_even_current) => v) (fun _ _ => rfl) rfl (d_call ((f_over T).mono (by decide)) hr hg T.M13 T.F13.kp (b_over T) (a_cons (d_call ((f_sum_of T).mono (by decide)) hr hg T.M15 T.F15.kp (b_sum_of T) (a_cons (d_lc0 (i_tup (d_var 0 (fun q : E2_even_current => q.1.1) (cT (c2 (c2 cI cI) (c2 cI cI))) (fun _ => rfl))) (blkOk_by (N := ["bands", "wide", "band", "width", "current"]) (sc := defScope (topS 31)) (own := [("width", 3), ("current", 4)]) (by decide +kernel)) (tg_pair 3 4) (fun _ _ _ _ _ => (pg_tup rfl (pgs_cons (pg_name (i := 3) sc_even_current.nd rfl (by first | exact .inl rfl | exact .inr rfl)) (pgs_cons (pg_name (i := 4) sc_even_current.nd rfl (by first | exact .inl rfl | exact .inr rfl)) pgs_nil)))) (fun _ _ _ _ _ _ => (d_call ((f_times T).mono (by decide)) hr hg T.M12 T.F12.kp (b_times T) (a_cons (d_var 3 (fun q : E3_even_current => q.2.1) (c2 cI cI) (fun _ => rfl)) (a_cons (d_var 4 (fun q : E3_even_current => q.2.2) (c2 cI cI) (fun _ => rfl)) a_nil)))) (own := [("width", 3), ("current", 4)]) (hN := sc_even_current.nd)).de a_nil)) (a_cons (d_var 1 (fun q : E2_even_current => q.2) (c2 cI cI) (fun _ => rfl)) a_nil)))))))
    exact dss_eq key (by kernel_rfl) (by kernel_rfl)) (fun _ h => h) (fun a _ => ends_ret (fun r => r) (fun _ => rfl) (o_even_current a))
abbrev E0_start_for : Type := (List ((Int × Int) × (Int × Int))) × (Int × Int) × (List (Int × Int × Int)) × (Int × Int) × Unit
abbrev E1_start_for : Type := E0_start_for × (Int × Int)
def o_start_for (a : E0_start_for) : Out Empty (Int × Int) Empty :=
  (let bands := a.1; let speed := a.2.1; let headings := a.2.2.1; let goal := a.2.2.2.1; (let drift1 : Int × Int := ((m_way_across (bands, speed, headings, ()))).2; (Out.rt ((m_quotient (((goal.1 * drift1.2) - (drift1.1 * goal.2)), (goal.2 * drift1.2), ()))))))
def m_start_for (a : E0_start_for) : Int × Int := (o_start_for a).ret
def g_start_for (a : E0_start_for) : Prop :=
  (let bands := a.1; let speed := a.2.1; let headings := a.2.2.1; let goal := a.2.2.2.1; (((True ∧ (True ∧ (True ∧ True))) ∧ (g_way_across (bands, speed, headings, ()))) ∧ (let drift1 : Int × Int := ((m_way_across (bands, speed, headings, ()))).2; ((((True ∧ True) ∧ (g_is_number (goal, ()))) ∧ (!((m_is_number (goal, ())))) = false) ∧ ((((True ∧ True ∧ (CMulW goal.1 drift1.2)) ∧ (True ∧ True ∧ (CMulW drift1.1 goal.2)) ∧ True) ∧ ((True ∧ True ∧ (CMulW goal.2 drift1.2)) ∧ True)) ∧ (g_quotient (((goal.1 * drift1.2) - (drift1.1 * goal.2)), (goal.2 * drift1.2), ())))))))
theorem sc_start_for : FnScope ["bands", "speed", "headings", "goal", "drift"] ["bands", "speed", "headings", "goal"] (defScope (topS 32)) := ⟨rfl, rfl, rfl, by decide +kernel, rfl, by decide +kernel, by decide +kernel⟩
theorem b_start_for {K : Y.Frag} {mg : Str → Option Value} {ad : Nat → Addr} {fd : Nat → FuncData} (T : Tx K mg ad fd) : Binds K (fd 32) ["bands", "speed", "headings", "goal"] [] := T.F32.binds (ps := ["bands", "speed", "headings", "goal"]) fun _ _ _ _ _ _ us hl => match us, hl with | [_, _, _, _], _ => rfl
theorem f_start_for {P : Program} {w : World} {K : Y.Frag} {mg : Str → Option Value} {base : Heap} {ad : Nat → Addr} {fd : Nat → FuncData} (T : Tx K mg ad fd) : FnG P w K mg base 8 (ad 32) (fd 32) ["bands", "speed", "headings", "goal"] (spP K (ac (cT (c2 (c2 cI cI) (c2 cI cI))) (ac (c2 cI cI) (ac (cT (c3 cI cI cI)) (ac (c2 cI cI) an)))) (c2 cI cI) g_start_for m_start_for) :=
  fn_pure T.F32 sc_start_for 1 (fun _ => rfl) rfl (owS := []) (ow' := []) (ΓS := fun _ : Empty => []) (Γ' := fun _ : Empty => []) (cr := (c2 cI cI)) (ci := fun _ => []) (G := g_start_for) (d := o_start_for) (fun A0 cdv A outer s H E hr hg => by
    have hu : (A.deeper (envOfC _ (defScope (topS 32)) s.heap.objs.size _ cdv)).units + 64 < cLine := Nat.lt_of_le_of_lt (Nat.add_le_add_left (by decide) _) (room_un hr)
    have key : Dss (XF P w K mg base ["bands", "speed", "headings", "goal", "drift"] "start_for" (topS 32) (ad 32) cdv A outer s H E) ⟨A0, [], none⟩ [] (fun a : E0_start_for => ((ac (cT (c2 (c2 cI cI) (c2 cI cI))) (ac (c2 cI cI) (ac (cT (c3 cI cI cI)) (ac (c2 cI cI) an)))) a).map some ++ List.replicate 1 none) (c2 cI cI) (fun _ => []) [] (fun _ : Empty => []) (defBody (topS 32)) _ _ [] (fun _ : Empty => []) := (s_cons (s_asg 4 (d_prj 1 (fun x : (Int × Int) × (Int × Int) => x.2) (cb := (c2 cI cI)) (fun _ => ⟨_, rfl, rfl⟩) (d_call ((f_way_across T).mono (by decide)) hr hg T.M25 T.F25.kp (b_way_across T) (a_cons (d_var 0 (fun q : E0_start_for => q.1) (cT (c2 (c2 cI cI) (c2 cI cI))) (fun _ => rfl)) (a_cons (d_var 1 (fun q : E0_start_for => q.2.1) (c2 cI cI) (fun _ => rfl)) (a_cons (d_var 2 (fun q : E0_start_for => q.2.2.1) (cT (c3 cI cI cI)) (fun _ => rfl)) a_nil)))) d_int) (hN := sc_start_for.nd)) (s_ifX (t_not (t_val (d_call ((f_is_number T).mono (by decide)) hr hg T.M17 T.F17.kp (b_is_number T) (a_cons (d_var 3 (fun q : E1_start_for => q.1.2.2.2.1) (c2 cI cI) (fun _ => rfl)) a_nil)))) (s_one (s_ret (r := fun v (_ : E1_start_for) => v) (fun _ _ => rfl) rfl (d_call ((f_quotient T).mono (by decide)) hr hg T.M10 T.F10.kp (b_quotient T) (a_cons (d_op op_sub v_sub (d_op op_mulW v_mulW (d_prj 0 (fun x : Int × Int => x.1) (cb := cI) (fun _ => ⟨_, rfl, rfl⟩) (d_var 3 (fun q : E1_start_for => q.1.2.2.2.1) (c2 cI cI) (fun _ => rfl)) d_int) (d_prj 1 (fun x : Int × Int => x.2) (cb := cI) (fun _ => ⟨_, rfl, rfl⟩) (d_var 4 (fun q : E1_start_for => q.2) (c2 cI cI) (fun _ => rfl)) d_int)) (d_op op_mulW v_mulW (d_prj 0 (fun x : Int × Int => x.1) (cb := cI) (fun _ => ⟨_, rfl, rfl⟩) (d_var 4 (fun q : E1_start_for => q.2) (c2 cI cI) (fun _ => rfl)) d_int) (d_prj 1 (fun x : Int × Int => x.2) (cb := cI) (fun _ => ⟨_, rfl, rfl⟩) (d_var 3 (fun q : E1_start_for => q.1.2.2.2.1) (c2 cI cI) (fun _ => rfl)) d_int))) (a_cons (d_op op_mulW v_mulW (d_prj 1 (fun x : Int × Int => x.2) (cb := cI) (fun _ => ⟨_, rfl, rfl⟩) (d_var 3 (fun q : E1_start_for => q.1.2.2.2.1) (c2 cI cI) (fun _ => rfl)) d_int) (d_prj 1 (fun x : Int × Int => x.2) (cb := cI) (fun _ => ⟨_, rfl, rfl⟩) (d_var 4 (fun q : E1_start_for => q.2) (c2 cI cI) (fun _ => rfl)) d_int)) a_nil)))))))
    exact dss_eq key (by kernel_rfl) (by kernel_rfl)) (fun _ h => h) (fun a _ => ends_ret (fun r => r) (fun _ => rfl) (o_start_for a))
theorem sc__law_start : FnScope ["script", "seed", "cell"] ["script"] (defScope (topS 34)) := ⟨rfl, rfl, rfl, by decide +kernel, rfl, by decide +kernel, by decide +kernel⟩
theorem b__law_start {K : Y.Frag} {mg : Str → Option Value} {ad : Nat → Addr} {fd : Nat → FuncData} (T : Tx K mg ad fd) : Binds K (fd 34) ["script"] [] := T.F34.binds (ps := ["script"]) fun _ _ _ _ _ _ us hl => match us, hl with | [_], _ => rfl
theorem f__law_start {P : Program} {w : World} {K : Y.Frag} {mg : Str → Option Value} {base : Heap} {ad : Nat → Addr} {fd : Nat → FuncData} (T : Tx K mg ad fd) : FnG P w K mg base 1 (ad 34) (fd 34) ["script"] (spStart K) := by
  refine fnG T.F34 sc__law_start (fun vs H Q E h => by obtain ⟨a, ns, rfl, _⟩ := h; rfl) (fun cdv A outer s H vs Q E hr hg h => ?_)
  obtain ⟨a, ns, rfl, hS, hlen, q⟩ := h
  refine ⟨_, pss_cons (ps_set (i := 1) sc__law_start.nd rfl (.inl rfl) pe_int)
    (pss_cons (ps_for PassesOwn.never rfl (pi_list (pv 0)) (pg_name (i := 2) sc__law_start.nd rfl (.inl rfl))
      (pss_one (ps_set (i := 1) sc__law_start.nd rfl (.inl rfl) (pe_op op_add (pe_op op_mod (pe_callTy call_int1 rfl T.z_int (by decide +kernel) (pa_cons (pe_op op_add (pe_op op_mul (pv 1) pe_int) (pv 2)) pa_nil)) pe_int) pe_int))))
      (pss_one (ps_ret (pe_lst (pa_cons (pe_callTy call_list_of rfl T.z_list (by decide +kernel) (pa_cons (pv 0) pa_nil)) (pa_cons pe_int (pa_cons pe_int (pa_cons (pv 1) pa_nil)))))))), ?_⟩
  refine ⟨.ref a, rfl, a, rfl, ⟨_, hS⟩, ?_⟩
  refine for_it (walk_list (xs := ns.map V.int)) (fun i σ H3 => ∃ y2, σ = [some (.ref a), some (.int (seedF (ns.take i))), y2] ∧ H3 = H) ⟨none, rfl, rfl⟩ (fun i σ H3 _ ⟨_, _, e⟩ => by rw [e]; exact hS) ?_ ?_
  · rintro i x σ H3 H4 hi ⟨y2, rfl, rfl⟩ ⟨rfl, ex⟩
    obtain ⟨z, hz, rfl⟩ := int_at ex
    refine ⟨.int (seedF (ns.take i)), rfl, _, _, rfl, rfl, .inr ⟨by decide, by decide⟩, .int z, rfl, _, _, rfl, rfl, .inl ⟨_, rfl, _, _, rfl, rfl, (by show (0 : Int) < 2147483629; decide), _, _, rfl, rfl, some (.int z), ?_, rfl⟩⟩
    rw [seedF_take hz]
    rfl
  · rintro σ H3 ⟨y2, rfl, rfl⟩
    rw [List.length_map, List.take_length]
    refine ⟨.ref a, rfl, a, ns.map V.int, rfl, .inl hS, fun l hl => ⟨.int (seedF ns), rfl, by show 4 ≤ sizeLine; decide, fun q' hq => ?_⟩⟩
    have nq : l ≠ q' := fun e => by rw [← e, upd_same] at hq; cases hq
    refine q q' l _ (by rw [upd_ne nq.symm] at hq; exact hq) hl nq ((Fr.new hl).trans (Fr.new hq)) upd_same (by rw [upd_ne nq, upd_same])
abbrev E0__law_draw : Type := (Int × Unit) × St4
abbrev E1__law_draw : Type := E0__law_draw × St4
abbrev E2__law_draw : Type := E1__law_draw × St4
abbrev E3__law_draw : Type := E1__law_draw × Int
abbrev E4__law_draw : Type := E3__law_draw × St4
def o__law_draw (a : E0__law_draw) : Out Empty ((Int) × St4) Empty :=
  (let many := a.1.1; (if ((decide (a.2.2.1 = (0 : Int))) && (decide (((a.2.1).length : Int) ≤ a.2.2.2.1))) = true then (let st1 : St4 := (a.2.1, a.2.2.1, a.2.2.2.1, (((a.2.2.2.2 * (48271 : Int)) + (69621 : Int)) % (2147483629 : Int))); (Out.rt (((st1.2.2.2 / (13 : Int)) % many), st1))) else (let j5 : St4 := (if (decide (a.2.2.1 = (0 : Int))) = true then (let st3 : St4 := (a.2.1, ((((ixD a.2.1 a.2.2.2.1)).natAbs : Nat) : Int), a.2.2.2.1, a.2.2.2.2); (let st4 : St4 := (st3.1, st3.2.1, (st3.2.2.1 + (1 : Int)), st3.2.2.2); st4)) else a.2); (let taken6 : Int := (j5.2.1 % many); (let st7 : St4 := (j5.1, (j5.2.1 / many), j5.2.2.1, j5.2.2.2); (Out.rt (taken6, st7)))))))
def m__law_draw (a : E0__law_draw) : (Int) × St4 := (o__law_draw a).ret
def g__law_draw (a : E0__law_draw) : Prop :=
  (let many := a.1.1; (((True ∧ True ∧ True) ∧ ((decide (a.2.2.1 = (0 : Int))) = true → (True ∧ ((True ∧ True) ∧ True) ∧ True))) ∧ (((decide (a.2.2.1 = (0 : Int))) && (decide (((a.2.1).length : Int) ≤ a.2.2.2.1))) = true → ((((((True ∧ True ∧ (CMul a.2.2.2.2 ((48271 : Int)))) ∧ True ∧ True) ∧ True) ∧ True) ∧ True ∧ ((0 : Int) < (2147483629 : Int))) ∧ (let st1 : St4 := (a.2.1, a.2.2.1, a.2.2.2.1, (((a.2.2.2.2 * (48271 : Int)) + (69621 : Int)) % (2147483629 : Int))); ((((True ∧ True ∧ (CDivW st1.2.2.2 ((13 : Int)))) ∧ True) ∧ True) ∧ True ∧ ((0 : Int) < many))))) ∧ (((decide (a.2.2.1 = (0 : Int))) && (decide (((a.2.1).length : Int) ≤ a.2.2.2.1))) = false → (((True ∧ True ∧ True) ∧ ((decide (a.2.2.1 = (0 : Int))) = true → ((((True ∧ True ∧ (CIx a.2.1 a.2.2.2.1)) ∧ True) ∧ True) ∧ (let st3 : St4 := (a.2.1, ((((ixD a.2.1 a.2.2.2.1)).natAbs : Nat) : Int), a.2.2.2.1, a.2.2.2.2); ((True ∧ True ∧ True) ∧ (let st4 : St4 := (st3.1, st3.2.1, (st3.2.2.1 + (1 : Int)), st3.2.2.2); True))))) ∧ ((decide (a.2.2.1 = (0 : Int))) = false → True)) ∧ (let j5 : St4 := (if (decide (a.2.2.1 = (0 : Int))) = true then (let st3 : St4 := (a.2.1, ((((ixD a.2.1 a.2.2.2.1)).natAbs : Nat) : Int), a.2.2.2.1, a.2.2.2.2); (let st4 : St4 := (st3.1, st3.2.1, (st3.2.2.1 + (1 : Int)), st3.2.2.2); st4)) else a.2); ((((True ∧ True) ∧ True) ∧ True ∧ ((0 : Int) < many)) ∧ (let taken6 : Int := (j5.2.1 % many); ((True ∧ True ∧ (CDivW j5.2.1 many)) ∧ (let st7 : St4 := (j5.1, (j5.2.1 / many), j5.2.2.1, j5.2.2.2); True)))))))))
theorem sc__law_draw : FnScope ["state", "many", "taken"] ["state", "many"] (defScope (topS 35)) := ⟨rfl, rfl, rfl, by decide +kernel, rfl, by decide +kernel, by decide +kernel⟩
theorem b__law_draw {K : Y.Frag} {mg : Str → Option Value} {ad : Nat → Addr} {fd : Nat → FuncData} (T : Tx K mg ad fd) : Binds K (fd 35) ["state", "many"] [] := T.F35.binds (ps := ["state", "many"]) fun _ _ _ _ _ _ us hl => match us, hl with | [_, _], _ => rfl
theorem f__law_draw {P : Program} {w : World} {K : Y.Frag} {mg : Str → Option Value} {base : Heap} {ad : Nat → Addr} {fd : Nat → FuncData} (T : Tx K mg ad fd) : FnG P w K mg base 1 (ad 35) (fd 35) ["state", "many"] (spS K (ac cI an) cSt cI g__law_draw m__law_draw) :=
  fn_state T.F35 sc__law_draw 1 (fun _ => rfl) rfl (owS := []) (ow' := []) (ΓS := fun _ : Empty => []) (Γ' := fun _ : Empty => []) (cr := fun r : (Int) × St4 => cI r.1) (ci := fun r : (Int) × St4 => cSt r.2) (G := g__law_draw) (d := o__law_draw) (fun A0 p cdv A outer s H E hr hg => by
    have hu : (A.deeper (envOfC _ (defScope (topS 35)) s.heap.objs.size _ cdv)).units + 64 < cLine := Nat.lt_of_le_of_lt (Nat.add_le_add_left (by decide) _) (room_un hr)
    have key : Dss (XF P w K mg base ["state", "many", "taken"] "_law_draw" (topS 35) (ad 35) cdv A outer s H E) ⟨A0, [], some p⟩ [0] (fun a : E0__law_draw => some (.list (cSt a.2)) :: (((ac cI an) a.1).map some ++ List.replicate 1 none)) (fun r : (Int) × St4 => cI r.1) (fun r : (Int) × St4 => cSt r.2) [] (fun _ : Empty => []) (defBody (topS 35)) _ _ [] (fun _ : Empty => []) := (s_ifR (w_andP (t_cmp op_eq v_eqI ((d_prjL 1 (fun t : St4 => t.2.1) (c := fun t : St4 => .list (cSt t)) (cb := cI) (fun _ => ⟨_, rfl, rfl⟩) (d_own 0 (fun q : E0__law_draw => q.2) (fun t : St4 => .list (cSt t)) (fun _ => rfl)) d_int).up (fun _ => rfl)) d_int (nomark _)) (w_and1 (t_cmp op_ge v_ge ((d_prjL 2 (fun t : St4 => t.2.2.1) (c := fun t : St4 => .list (cSt t)) (cb := cI) (fun _ => ⟨_, rfl, rfl⟩) (d_own 0 (fun q : E0__law_draw => q.2) (fun t : St4 => .list (cSt t)) (fun _ => rfl)) d_int).up (fun _ => rfl)) ((d_blt call_len_seq (v_len sq_L) T.z_len (by decide +kernel) (a_cons (d_prjL 0 (fun t : St4 => t.1) (c := fun t : St4 => .list (cSt t)) (cb := (cL cI)) (fun _ => ⟨_, rfl, rfl⟩) (d_own 0 (fun q : E0__law_draw => q.2) (fun t : St4 => .list (cSt t)) (fun _ => rfl)) d_int) a_nil)).up (fun _ => rfl)) (nomark _)))).dt (s_cons (s_setF (cs := cSt) (c := cI) 0 3 (fun q : E0__law_draw => q.2) (fun t a => (t.1, t.2.1, t.2.2.1, a)) (fun _ _ => rfl) (fun _ => by show _ < 4; decide) (fun _ => rfl) (d_op op_mod v_mod (d_ty call_int1 v_int T.z_int (by decide +kernel) (a_cons (d_op op_add v_add (d_op op_mul v_mul ((d_prjL 3 (fun t : St4 => t.2.2.2) (c := fun t : St4 => .list (cSt t)) (cb := cI) (fun _ => ⟨_, rfl, rfl⟩) (d_own 0 (fun q : E0__law_draw => q.2) (fun t : St4 => .list (cSt t)) (fun _ => rfl)) d_int).up (fun _ => rfl)) d_int) d_int) a_nil)) d_int)) (s_one (s_retS (r := fun v (q : E1__law_draw) => (v, q.2)) (fun _ _ => rfl) (fun _ _ => rfl) (d_op op_mod v_mod (d_ty call_int1 v_int T.z_int (by decide +kernel) (a_cons (d_op op_fdivW v_fdiv ((d_prjL 3 (fun t : St4 => t.2.2.2) (c := fun t : St4 => .list (cSt t)) (cb := cI) (fun _ => ⟨_, rfl, rfl⟩) (d_own 0 (fun q : E1__law_draw => q.2) (fun t : St4 => .list (cSt t)) (fun _ => rfl)) d_int).up (fun _ => rfl)) d_int) a_nil)) (d_var 1 (fun q : E1__law_draw => q.1.1.1) cI (fun _ => rfl)))))) (by intro ε n; (repeat' (first | (intro h; nomatch h) | split))) (s_cons (s_ifJ (t_cmp op_eq v_eqI ((d_prjL 1 (fun t : St4 => t.2.1) (c := fun t : St4 => .list (cSt t)) (cb := cI) (fun _ => ⟨_, rfl, rfl⟩) (d_own 0 (fun q : E0__law_draw => q.2) (fun t : St4 => .list (cSt t)) (fun _ => rfl)) d_int).up (fun _ => rfl)) d_int (nomark _)) (s_cons (s_setF (cs := cSt) (c := cI) 0 1 (fun q : E0__law_draw => q.2) (fun t a => (t.1, a, t.2.2.1, t.2.2.2)) (fun _ _ => rfl) (fun _ => by show _ < 4; decide) (fun _ => rfl) (d_blt call_abs v_abs T.z_abs (by decide +kernel) (a_cons ((d_ix ix_list v_ixL (d_prjL 0 (fun t : St4 => t.1) (c := fun t : St4 => .list (cSt t)) (cb := (cL cI)) (fun _ => ⟨_, rfl, rfl⟩) (d_own 0 (fun q : E0__law_draw => q.2) (fun t : St4 => .list (cSt t)) (fun _ => rfl)) d_int) (((d_prjL 2 (fun t : St4 => t.2.2.1) (c := fun t : St4 => .list (cSt t)) (cb := cI) (fun _ => ⟨_, rfl, rfl⟩) (d_own 0 (fun q : E0__law_draw => q.2) (fun t : St4 => .list (cSt t)) (fun _ => rfl)) d_int).up (fun _ => rfl))).wk).up (fun _ => rfl)) a_nil))) (s_cons (s_setF (cs := cSt) (c := cI) 0 2 (fun q : E1__law_draw => q.2) (fun t a => (t.1, t.2.1, a, t.2.2.2)) (fun _ _ => rfl) (fun _ => by show _ < 4; decide) (fun _ => rfl) (d_op op_add v_add ((d_prjL 2 (fun t : St4 => t.2.2.1) (c := fun t : St4 => .list (cSt t)) (cb := cI) (fun _ => ⟨_, rfl, rfl⟩) (d_own 0 (fun q : E1__law_draw => q.2) (fun t : St4 => .list (cSt t)) (fun _ => rfl)) d_int).up (fun _ => rfl)) d_int)) (s_end (ow2 := [0]) (Γ2 := fun q : E1__law_draw => [some (.list (cSt q.2)), some (cI q.1.1.1), none]) (fun q : E2__law_draw => (q.1.1, q.2)) (fun _ _ _ _ r => r)))) (s_end (ow2 := [0]) (Γ2 := fun q : E1__law_draw => [some (.list (cSt q.2)), some (cI q.1.1.1), none]) (fun q : E0__law_draw => (q, q.2)) (fun _ _ _ _ r => r)) (fun _ => rfl) (fun _ => rfl)) (s_cons (s_asg 2 (d_op op_mod v_mod (d_ty call_int1 v_int T.z_int (by decide +kernel) (a_cons ((d_prjL 1 (fun t : St4 => t.2.1) (c := fun t : St4 => .list (cSt t)) (cb := cI) (fun _ => ⟨_, rfl, rfl⟩) (d_own 0 (fun q : E1__law_draw => q.2) (fun t : St4 => .list (cSt t)) (fun _ => rfl)) d_int).up (fun _ => rfl)) a_nil)) (d_var 1 (fun q : E1__law_draw => q.1.1.1) cI (fun _ => rfl))) (hN := sc__law_draw.nd)) (s_cons (s_setF (cs := cSt) (c := cI) 0 1 (fun q : E3__law_draw => q.1.2) (fun t a => (t.1, a, t.2.2.1, t.2.2.2)) (fun _ _ => rfl) (fun _ => by show _ < 4; decide) (fun _ => rfl) (d_op op_fdivW v_fdiv ((d_prjL 1 (fun t : St4 => t.2.1) (c := fun t : St4 => .list (cSt t)) (cb := cI) (fun _ => ⟨_, rfl, rfl⟩) (d_own 0 (fun q : E3__law_draw => q.1.2) (fun t : St4 => .list (cSt t)) (fun _ => rfl)) d_int).up (fun _ => rfl)) (d_var 1 (fun q : E3__law_draw => q.1.1.1.1) cI (fun _ => rfl)))) (s_one (s_retS (r := fun v (q : E4__law_draw) => (v, q.2)) (fun _ _ => rfl) (fun _ _ => rfl) (d_var 2 (fun q : E4__law_draw => q.1.2) cI (fun _ => rfl))))))))
    exact dss_eq key (by kernel_rfl) (by kernel_rfl)) (fun _ h => h) (fun a _ => ret_ex (o__law_draw a))
abbrev E0__law_pick_BA : Type := ((List ((Int × Int) × (Int × Int))) × Unit) × St4
def o__law_pick_BA (a : E0__law_pick_BA) : Out Empty (((Int × Int) × (Int × Int)) × St4) Empty :=
  (let some := a.1.1; (let r1 := m__law_draw ((((some).length : Int), ()), a.2); (Out.rt ((ixD some r1.1), r1.2))))
def m__law_pick_BA (a : E0__law_pick_BA) : ((Int × Int) × (Int × Int)) × St4 := (o__law_pick_BA a).ret
def g__law_pick_BA (a : E0__law_pick_BA) : Prop :=
  (let some := a.1.1; (let r1 := m__law_draw ((((some).length : Int), ()), a.2); (True ∧ ((((True ∧ True) ∧ True) ∧ True) ∧ (g__law_draw ((((some).length : Int), ()), a.2))) ∧ (CIx some r1.1))))
theorem sc__law_pick : FnScope ["state", "some"] ["state", "some"] (defScope (topS 36)) := ⟨rfl, rfl, rfl, by decide +kernel, rfl, by decide +kernel, by decide +kernel⟩
theorem b__law_pick {K : Y.Frag} {mg : Str → Option Value} {ad : Nat → Addr} {fd : Nat → FuncData} (T : Tx K mg ad fd) : Binds K (fd 36) ["state", "some"] [] := T.F36.binds (ps := ["state", "some"]) fun _ _ _ _ _ _ us hl => match us, hl with | [_, _], _ => rfl
theorem f__law_pick_BA {P : Program} {w : World} {K : Y.Frag} {mg : Str → Option Value} {base : Heap} {ad : Nat → Addr} {fd : Nat → FuncData} (T : Tx K mg ad fd) : FnG P w K mg base 2 (ad 36) (fd 36) ["state", "some"] (spS K (ac (cL (c2 (c2 cI cI) (c2 cI cI))) an) cSt (c2 (c2 cI cI) (c2 cI cI)) g__law_pick_BA m__law_pick_BA) :=
  fn_state T.F36 sc__law_pick 0 (fun _ => rfl) rfl (owS := []) (ow' := []) (ΓS := fun _ : Empty => []) (Γ' := fun _ : Empty => []) (cr := fun r : ((Int × Int) × (Int × Int)) × St4 => (c2 (c2 cI cI) (c2 cI cI)) r.1) (ci := fun r : ((Int × Int) × (Int × Int)) × St4 => cSt r.2) (G := g__law_pick_BA) (d := o__law_pick_BA) (fun A0 p cdv A outer s H E hr hg => by
    have hu : (A.deeper (envOfC _ (defScope (topS 36)) s.heap.objs.size _ cdv)).units + 64 < cLine := Nat.lt_of_le_of_lt (Nat.add_le_add_left (by decide) _) (room_un hr)
    have key : Dss (XF P w K mg base ["state", "some"] "_law_pick" (topS 36) (ad 36) cdv A outer s H E) ⟨A0, [], some p⟩ [0] (fun a : E0__law_pick_BA => some (.list (cSt a.2)) :: (((ac (cL (c2 (c2 cI cI) (c2 cI cI))) an) a.1).map some ++ List.replicate 0 none)) (fun r : ((Int × Int) × (Int × Int)) × St4 => (c2 (c2 cI cI) (c2 cI cI)) r.1) (fun r : ((Int × Int) × (Int × Int)) × St4 => cSt r.2) [] (fun _ : Empty => []) (defBody (topS 36)) _ _ [] (fun _ : Empty => []) := (s_one (s_retS (r := fun v (q : E0__law_pick_BA) => (v, q.2)) (fun _ _ => rfl) (fun _ _ => rfl) (d_ix ix_list v_ixL (d_var 1 (fun q : E0__law_pick_BA => q.1.1) (cL (c2 (c2 cI cI) (c2 cI cI))) (fun _ => rfl)) (d_callS 0 (fun q : E0__law_pick_BA => q.2) (fun (q : E0__law_pick_BA) t => (q.1, t)) (fun _ => rfl) (fun _ _ => rfl) ((f__law_draw T).mono (by decide)) hr hg T.M35 T.F35.kp (b__law_draw T) (a_cons (d_blt call_len_seq (v_len sq_L) T.z_len (by decide +kernel) (a_cons (d_var 1 (fun q : E0__law_pick_BA => q.1.1) (cL (c2 (c2 cI cI) (c2 cI cI))) (fun _ => rfl)) a_nil)) a_nil)))))
    exact dss_eq key (by kernel_rfl) (by kernel_rfl)) (fun _ h => h) (fun a _ => ret_ex (o__law_pick_BA a))
abbrev E0__law_pick_HD : Type := ((List (Int × Int × Int)) × Unit) × St4
def o__law_pick_HD (a : E0__law_pick_HD) : Out Empty ((Int × Int × Int) × St4) Empty :=
  (let some := a.1.1; (let r1 := m__law_draw ((((some).length : Int), ()), a.2); (Out.rt ((ixD some r1.1), r1.2))))
def m__law_pick_HD (a : E0__law_pick_HD) : (Int × Int × Int) × St4 := (o__law_pick_HD a).ret
def g__law_pick_HD (a : E0__law_pick_HD) : Prop :=
  (let some := a.1.1; (let r1 := m__law_draw ((((some).length : Int), ()), a.2); (True ∧ ((((True ∧ True) ∧ True) ∧ True) ∧ (g__law_draw ((((some).length : Int), ()), a.2))) ∧ (CIx some r1.1))))
theorem f__law_pick_HD {P : Program} {w : World} {K : Y.Frag} {mg : Str → Option Value} {base : Heap} {ad : Nat → Addr} {fd : Nat → FuncData} (T : Tx K mg ad fd) : FnG P w K mg base 2 (ad 36) (fd 36) ["state", "some"] (spS K (ac (cL (c3 cI cI cI)) an) cSt (c3 cI cI cI) g__law_pick_HD m__law_pick_HD) :=
  fn_state T.F36 sc__law_pick 0 (fun _ => rfl) rfl (owS := []) (ow' := []) (ΓS := fun _ : Empty => []) (Γ' := fun _ : Empty => []) (cr := fun r : (Int × Int × Int) × St4 => (c3 cI cI cI) r.1) (ci := fun r : (Int × Int × Int) × St4 => cSt r.2) (G := g__law_pick_HD) (d := o__law_pick_HD) (fun A0 p cdv A outer s H E hr hg => by
    have hu : (A.deeper (envOfC _ (defScope (topS 36)) s.heap.objs.size _ cdv)).units + 64 < cLine := Nat.lt_of_le_of_lt (Nat.add_le_add_left (by decide) _) (room_un hr)
    have key : Dss (XF P w K mg base ["state", "some"] "_law_pick" (topS 36) (ad 36) cdv A outer s H E) ⟨A0, [], some p⟩ [0] (fun a : E0__law_pick_HD => some (.list (cSt a.2)) :: (((ac (cL (c3 cI cI cI)) an) a.1).map some ++ List.replicate 0 none)) (fun r : (Int × Int × Int) × St4 => (c3 cI cI cI) r.1) (fun r : (Int × Int × Int) × St4 => cSt r.2) [] (fun _ : Empty => []) (defBody (topS 36)) _ _ [] (fun _ : Empty => []) := (s_one (s_retS (r := fun v (q : E0__law_pick_HD) => (v, q.2)) (fun _ _ => rfl) (fun _ _ => rfl) (d_ix ix_list v_ixL (d_var 1 (fun q : E0__law_pick_HD => q.1.1) (cL (c3 cI cI cI)) (fun _ => rfl)) (d_callS 0 (fun q : E0__law_pick_HD => q.2) (fun (q : E0__law_pick_HD) t => (q.1, t)) (fun _ => rfl) (fun _ _ => rfl) ((f__law_draw T).mono (by decide)) hr hg T.M35 T.F35.kp (b__law_draw T) (a_cons (d_blt call_len_seq (v_len sq_L) T.z_len (by decide +kernel) (a_cons (d_var 1 (fun q : E0__law_pick_HD => q.1.1) (cL (c3 cI cI cI)) (fun _ => rfl)) a_nil)) a_nil)))))
    exact dss_eq key (by kernel_rfl) (by kernel_rfl)) (fun _ h => h) (fun a _ => ret_ex (o__law_pick_HD a))
abbrev E0__law_same_Q : Type := (Int × Int) × (Int × Int) × Unit
def o__law_same_Q (a : E0__law_same_Q) : Out Empty (Bool) Empty :=
  (let actual := a.1; let due := a.2.1; (Out.rt (((PyData.eqv ((c2 cI cI) actual) ((c2 cI cI) due)) && (decide (((c2 cI cI) actual).shown = ((c2 cI cI) due).shown))))))
def m__law_same_Q (a : E0__law_same_Q) : Bool := (o__law_same_Q a).ret
def g__law_same_Q (a : E0__law_same_Q) : Prop :=
  (let actual := a.1; let due := a.2.1; ((True ∧ True ∧ True) ∧ ((PyData.eqv ((c2 cI cI) actual) ((c2 cI cI) due)) = true → (((True ∧ True) ∧ (Shw ((c2 cI cI) actual))) ∧ ((True ∧ True) ∧ (Shw ((c2 cI cI) due))) ∧ True))))
theorem sc__law_same : FnScope ["actual", "due"] ["actual", "due"] (defScope (topS 37)) := ⟨rfl, rfl, rfl, by decide +kernel, rfl, by decide +kernel, by decide +kernel⟩
theorem b__law_same {K : Y.Frag} {mg : Str → Option Value} {ad : Nat → Addr} {fd : Nat → FuncData} (T : Tx K mg ad fd) : Binds K (fd 37) ["actual", "due"] [] := T.F37.binds (ps := ["actual", "due"]) fun _ _ _ _ _ _ us hl => match us, hl with | [_, _], _ => rfl
theorem f__law_same_Q {P : Program} {w : World} {K : Y.Frag} {mg : Str → Option Value} {base : Heap} {ad : Nat → Addr} {fd : Nat → FuncData} (T : Tx K mg ad fd) : FnG P w K mg base 1 (ad 37) (fd 37) ["actual", "due"] (spP K (ac (c2 cI cI) (ac (c2 cI cI) an)) cB g__law_same_Q m__law_same_Q) :=
  fn_pure T.F37 sc__law_same 0 (fun _ => rfl) rfl (owS := []) (ow' := []) (ΓS := fun _ : Empty => []) (Γ' := fun _ : Empty => []) (cr := cB) (ci := fun _ => []) (G := g__law_same_Q) (d := o__law_same_Q) (fun A0 cdv A outer s H E hr hg => by
    have hu : (A.deeper (envOfC _ (defScope (topS 37)) s.heap.objs.size _ cdv)).units + 64 < cLine := Nat.lt_of_le_of_lt (Nat.add_le_add_left (by decide) _) (room_un hr)
    have key : Dss (XF P w K mg base ["actual", "due"] "_law_same" (topS 37) (ad 37) cdv A outer s H E) ⟨A0, [], none⟩ [] (fun a : E0__law_same_Q => ((ac (c2 cI cI) (ac (c2 cI cI) an)) a).map some ++ List.replicate 0 none) cB (fun _ => []) [] (fun _ : Empty => []) (defBody (topS 37)) _ _ [] (fun _ : Empty => []) := (s_one (s_ret (r := fun v (_ : E0__law_same_Q) => v) (fun _ _ => rfl) rfl (d_and ((d_cmp (op_eqD hu) (v_eqD (cq_2 cq_I cq_I) (cq_2 cq_I cq_I)) (d_var 0 (fun q : E0__law_same_Q => q.1) (c2 cI cI) (fun _ => rfl)) (d_var 1 (fun q : E0__law_same_Q => q.2.1) (c2 cI cI) (fun _ => rfl)) (nomark _))) (d_one (d_cmp op_eq v_eqS (d_blt (cr_repr hg (room_un hr)) (v_repr (c := (c2 cI cI))) T.z_repr (by decide +kernel) (a_cons (d_var 0 (fun q : E0__law_same_Q => q.1) (c2 cI cI) (fun _ => rfl)) a_nil)) (d_blt (cr_repr hg (room_un hr)) (v_repr (c := (c2 cI cI))) T.z_repr (by decide +kernel) (a_cons (d_var 1 (fun q : E0__law_same_Q => q.2.1) (c2 cI cI) (fun _ => rfl)) a_nil)) (nomark _))))))
    exact dss_eq key (by kernel_rfl) (by kernel_rfl)) (fun _ h => h) (fun a _ => ends_ret (fun r => r) (fun _ => rfl) (o__law_same_Q a))
abbrev E0__law_same_QQ : Type := ((Int × Int) × (Int × Int)) × ((Int × Int) × (Int × Int)) × Unit
def o__law_same_QQ (a : E0__law_same_QQ) : Out Empty (Bool) Empty :=
  (let actual := a.1; let due := a.2.1; (Out.rt (((PyData.eqv ((c2 (c2 cI cI) (c2 cI cI)) actual) ((c2 (c2 cI cI) (c2 cI cI)) due)) && (decide (((c2 (c2 cI cI) (c2 cI cI)) actual).shown = ((c2 (c2 cI cI) (c2 cI cI)) due).shown))))))
def m__law_same_QQ (a : E0__law_same_QQ) : Bool := (o__law_same_QQ a).ret
def g__law_same_QQ (a : E0__law_same_QQ) : Prop :=
  (let actual := a.1; let due := a.2.1; ((True ∧ True ∧ True) ∧ ((PyData.eqv ((c2 (c2 cI cI) (c2 cI cI)) actual) ((c2 (c2 cI cI) (c2 cI cI)) due)) = true → (((True ∧ True) ∧ (Shw ((c2 (c2 cI cI) (c2 cI cI)) actual))) ∧ ((True ∧ True) ∧ (Shw ((c2 (c2 cI cI) (c2 cI cI)) due))) ∧ True))))
theorem f__law_same_QQ {P : Program} {w : World} {K : Y.Frag} {mg : Str → Option Value} {base : Heap} {ad : Nat → Addr} {fd : Nat → FuncData} (T : Tx K mg ad fd) : FnG P w K mg base 1 (ad 37) (fd 37) ["actual", "due"] (spP K (ac (c2 (c2 cI cI) (c2 cI cI)) (ac (c2 (c2 cI cI) (c2 cI cI)) an)) cB g__law_same_QQ m__law_same_QQ) :=
  fn_pure T.F37 sc__law_same 0 (fun _ => rfl) rfl (owS := []) (ow' := []) (ΓS := fun _ : Empty => []) (Γ' := fun _ : Empty => []) (cr := cB) (ci := fun _ => []) (G := g__law_same_QQ) (d := o__law_same_QQ) (fun A0 cdv A outer s H E hr hg => by
    have hu : (A.deeper (envOfC _ (defScope (topS 37)) s.heap.objs.size _ cdv)).units + 64 < cLine := Nat.lt_of_le_of_lt (Nat.add_le_add_left (by decide) _) (room_un hr)
    have key : Dss (XF P w K mg base ["actual", "due"] "_law_same" (topS 37) (ad 37) cdv A outer s H E) ⟨A0, [], none⟩ [] (fun a : E0__law_same_QQ => ((ac (c2 (c2 cI cI) (c2 cI cI)) (ac (c2 (c2 cI cI) (c2 cI cI)) an)) a).map some ++ List.replicate 0 none) cB (fun _ => []) [] (fun _ : Empty => []) (defBody (topS 37)) _ _ [] (fun _ : Empty => []) := (s_one (s_ret (r := fun v (_ : E0__law_same_QQ) => v) (fun _ _ => rfl) rfl (d_and ((d_cmp (op_eqD hu) (v_eqD (cq_2 (cq_2 cq_I cq_I) (cq_2 cq_I cq_I)) (cq_2 (cq_2 cq_I cq_I) (cq_2 cq_I cq_I))) (d_var 0 (fun q : E0__law_same_QQ => q.1) (c2 (c2 cI cI) (c2 cI cI)) (fun _ => rfl)) (d_var 1 (fun q : E0__law_same_QQ => q.2.1) (c2 (c2 cI cI) (c2 cI cI)) (fun _ => rfl)) (nomark _))) (d_one (d_cmp op_eq v_eqS (d_blt (cr_repr hg (room_un hr)) (v_repr (c := (c2 (c2 cI cI) (c2 cI cI)))) T.z_repr (by decide +kernel) (a_cons (d_var 0 (fun q : E0__law_same_QQ => q.1) (c2 (c2 cI cI) (c2 cI cI)) (fun _ => rfl)) a_nil)) (d_blt (cr_repr hg (room_un hr)) (v_repr (c := (c2 (c2 cI cI) (c2 cI cI)))) T.z_repr (by decide +kernel) (a_cons (d_var 1 (fun q : E0__law_same_QQ => q.2.1) (c2 (c2 cI cI) (c2 cI cI)) (fun _ => rfl)) a_nil)) (nomark _))))))
    exact dss_eq key (by kernel_rfl) (by kernel_rfl)) (fun _ h => h) (fun a _ => ends_ret (fun r => r) (fun _ => rfl) (o__law_same_QQ a))
abbrev E0__law_same_LQ : Type := (List (Int × Int)) × (List (Int × Int)) × Unit
def o__law_same_LQ (a : E0__law_same_LQ) : Out Empty (Bool) Empty :=
  (let actual := a.1; let due := a.2.1; (Out.rt (((PyData.eqv ((cL (c2 cI cI)) actual) ((cL (c2 cI cI)) due)) && (decide (((cL (c2 cI cI)) actual).shown = ((cL (c2 cI cI)) due).shown))))))
def m__law_same_LQ (a : E0__law_same_LQ) : Bool := (o__law_same_LQ a).ret
def g__law_same_LQ (a : E0__law_same_LQ) : Prop :=
  (let actual := a.1; let due := a.2.1; ((True ∧ True ∧ True) ∧ ((PyData.eqv ((cL (c2 cI cI)) actual) ((cL (c2 cI cI)) due)) = true → (((True ∧ True) ∧ (Shw ((cL (c2 cI cI)) actual))) ∧ ((True ∧ True) ∧ (Shw ((cL (c2 cI cI)) due))) ∧ True))))
theorem f__law_same_LQ {P : Program} {w : World} {K : Y.Frag} {mg : Str → Option Value} {base : Heap} {ad : Nat → Addr} {fd : Nat → FuncData} (T : Tx K mg ad fd) : FnG P w K mg base 1 (ad 37) (fd 37) ["actual", "due"] (spP K (ac (cL (c2 cI cI)) (ac (cL (c2 cI cI)) an)) cB g__law_same_LQ m__law_same_LQ) :=
  fn_pure T.F37 sc__law_same 0 (fun _ => rfl) rfl (owS := []) (ow' := []) (ΓS := fun _ : Empty => []) (Γ' := fun _ : Empty => []) (cr := cB) (ci := fun _ => []) (G := g__law_same_LQ) (d := o__law_same_LQ) (fun A0 cdv A outer s H E hr hg => by
    have hu : (A.deeper (envOfC _ (defScope (topS 37)) s.heap.objs.size _ cdv)).units + 64 < cLine := Nat.lt_of_le_of_lt (Nat.add_le_add_left (by decide) _) (room_un hr)
    have key : Dss (XF P w K mg base ["actual", "due"] "_law_same" (topS 37) (ad 37) cdv A outer s H E) ⟨A0, [], none⟩ [] (fun a : E0__law_same_LQ => ((ac (cL (c2 cI cI)) (ac (cL (c2 cI cI)) an)) a).map some ++ List.replicate 0 none) cB (fun _ => []) [] (fun _ : Empty => []) (defBody (topS 37)) _ _ [] (fun _ : Empty => []) := (s_one (s_ret (r := fun v (_ : E0__law_same_LQ) => v) (fun _ _ => rfl) rfl (d_and ((d_cmp (op_eqD hu) (v_eqD (cq_L (cq_2 cq_I cq_I)) (cq_L (cq_2 cq_I cq_I))) (d_var 0 (fun q : E0__law_same_LQ => q.1) (cL (c2 cI cI)) (fun _ => rfl)) (d_var 1 (fun q : E0__law_same_LQ => q.2.1) (cL (c2 cI cI)) (fun _ => rfl)) (nomark _))) (d_one (d_cmp op_eq v_eqS (d_blt (cr_repr hg (room_un hr)) (v_repr (c := (cL (c2 cI cI)))) T.z_repr (by decide +kernel) (a_cons (d_var 0 (fun q : E0__law_same_LQ => q.1) (cL (c2 cI cI)) (fun _ => rfl)) a_nil)) (d_blt (cr_repr hg (room_un hr)) (v_repr (c := (cL (c2 cI cI)))) T.z_repr (by decide +kernel) (a_cons (d_var 1 (fun q : E0__law_same_LQ => q.2.1) (cL (c2 cI cI)) (fun _ => rfl)) a_nil)) (nomark _))))))
    exact dss_eq key (by kernel_rfl) (by kernel_rfl)) (fun _ h => h) (fun a _ => ends_ret (fun r => r) (fun _ => rfl) (o__law_same_LQ a))
abbrev E0__law_same_X : Type := (List PyData) × (List PyData) × Unit
def o__law_same_X (a : E0__law_same_X) : Out Empty (Bool) Empty :=
  (let actual := a.1; let due := a.2.1; (Out.rt (((PyData.eqv ((cL cD) actual) ((cL cD) due)) && (decide (((cL cD) actual).shown = ((cL cD) due).shown))))))
def m__law_same_X (a : E0__law_same_X) : Bool := (o__law_same_X a).ret
def g__law_same_X (a : E0__law_same_X) : Prop :=
  (let actual := a.1; let due := a.2.1; ((True ∧ True ∧ (SeqAt.shaped ((cL cD) actual) = true ∧ SeqAt.shaped ((cL cD) due) = true)) ∧ ((PyData.eqv ((cL cD) actual) ((cL cD) due)) = true → (((True ∧ True) ∧ (Shw ((cL cD) actual))) ∧ ((True ∧ True) ∧ (Shw ((cL cD) due))) ∧ True))))
theorem f__law_same_X {P : Program} {w : World} {K : Y.Frag} {mg : Str → Option Value} {base : Heap} {ad : Nat → Addr} {fd : Nat → FuncData} (T : Tx K mg ad fd) : FnG P w K mg base 1 (ad 37) (fd 37) ["actual", "due"] (spP K (ac (cL cD) (ac (cL cD) an)) cB g__law_same_X m__law_same_X) :=
  fn_pure T.F37 sc__law_same 0 (fun _ => rfl) rfl (owS := []) (ow' := []) (ΓS := fun _ : Empty => []) (Γ' := fun _ : Empty => []) (cr := cB) (ci := fun _ => []) (G := g__law_same_X) (d := o__law_same_X) (fun A0 cdv A outer s H E hr hg => by
    have hu : (A.deeper (envOfC _ (defScope (topS 37)) s.heap.objs.size _ cdv)).units + 64 < cLine := Nat.lt_of_le_of_lt (Nat.add_le_add_left (by decide) _) (room_un hr)
    have key : Dss (XF P w K mg base ["actual", "due"] "_law_same" (topS 37) (ad 37) cdv A outer s H E) ⟨A0, [], none⟩ [] (fun a : E0__law_same_X => ((ac (cL cD) (ac (cL cD) an)) a).map some ++ List.replicate 0 none) cB (fun _ => []) [] (fun _ : Empty => []) (defBody (topS 37)) _ _ [] (fun _ : Empty => []) := (s_one (s_ret (r := fun v (_ : E0__law_same_X) => v) (fun _ _ => rfl) rfl (d_and ((d_cmp (op_eqD hu) v_eqG (d_var 0 (fun q : E0__law_same_X => q.1) (cL cD) (fun _ => rfl)) (d_var 1 (fun q : E0__law_same_X => q.2.1) (cL cD) (fun _ => rfl)) (nomark _))) (d_one (d_cmp op_eq v_eqS (d_blt (cr_repr hg (room_un hr)) (v_repr (c := (cL cD))) T.z_repr (by decide +kernel) (a_cons (d_var 0 (fun q : E0__law_same_X => q.1) (cL cD) (fun _ => rfl)) a_nil)) (d_blt (cr_repr hg (room_un hr)) (v_repr (c := (cL cD))) T.z_repr (by decide +kernel) (a_cons (d_var 1 (fun q : E0__law_same_X => q.2.1) (cL cD) (fun _ => rfl)) a_nil)) (nomark _))))))
    exact dss_eq key (by kernel_rfl) (by kernel_rfl)) (fun _ h => h) (fun a _ => ends_ret (fun r => r) (fun _ => rfl) (o__law_same_X a))
abbrev E0__law_same_LL : Type := (List (PySem.Str × (Int × Int))) × (List (PySem.Str × (Int × Int))) × Unit
def o__law_same_LL (a : E0__law_same_LL) : Out Empty (Bool) Empty :=
  (let actual := a.1; let due := a.2.1; (Out.rt (((PyData.eqv ((cL (c2 cS (c2 cI cI))) actual) ((cL (c2 cS (c2 cI cI))) due)) && (decide (((cL (c2 cS (c2 cI cI))) actual).shown = ((cL (c2 cS (c2 cI cI))) due).shown))))))
def m__law_same_LL (a : E0__law_same_LL) : Bool := (o__law_same_LL a).ret
def g__law_same_LL (a : E0__law_same_LL) : Prop :=
  (let actual := a.1; let due := a.2.1; ((True ∧ True ∧ (SeqAt.shaped ((cL (c2 cS (c2 cI cI))) actual) = true ∧ SeqAt.shaped ((cL (c2 cS (c2 cI cI))) due) = true)) ∧ ((PyData.eqv ((cL (c2 cS (c2 cI cI))) actual) ((cL (c2 cS (c2 cI cI))) due)) = true → (((True ∧ True) ∧ (Shw ((cL (c2 cS (c2 cI cI))) actual))) ∧ ((True ∧ True) ∧ (Shw ((cL (c2 cS (c2 cI cI))) due))) ∧ True))))
theorem f__law_same_LL {P : Program} {w : World} {K : Y.Frag} {mg : Str → Option Value} {base : Heap} {ad : Nat → Addr} {fd : Nat → FuncData} (T : Tx K mg ad fd) : FnG P w K mg base 1 (ad 37) (fd 37) ["actual", "due"] (spP K (ac (cL (c2 cS (c2 cI cI))) (ac (cL (c2 cS (c2 cI cI))) an)) cB g__law_same_LL m__law_same_LL) :=
  fn_pure T.F37 sc__law_same 0 (fun _ => rfl) rfl (owS := []) (ow' := []) (ΓS := fun _ : Empty => []) (Γ' := fun _ : Empty => []) (cr := cB) (ci := fun _ => []) (G := g__law_same_LL) (d := o__law_same_LL) (fun A0 cdv A outer s H E hr hg => by
    have hu : (A.deeper (envOfC _ (defScope (topS 37)) s.heap.objs.size _ cdv)).units + 64 < cLine := Nat.lt_of_le_of_lt (Nat.add_le_add_left (by decide) _) (room_un hr)
    have key : Dss (XF P w K mg base ["actual", "due"] "_law_same" (topS 37) (ad 37) cdv A outer s H E) ⟨A0, [], none⟩ [] (fun a : E0__law_same_LL => ((ac (cL (c2 cS (c2 cI cI))) (ac (cL (c2 cS (c2 cI cI))) an)) a).map some ++ List.replicate 0 none) cB (fun _ => []) [] (fun _ : Empty => []) (defBody (topS 37)) _ _ [] (fun _ : Empty => []) := (s_one (s_ret (r := fun v (_ : E0__law_same_LL) => v) (fun _ _ => rfl) rfl (d_and ((d_cmp (op_eqD hu) v_eqG (d_var 0 (fun q : E0__law_same_LL => q.1) (cL (c2 cS (c2 cI cI))) (fun _ => rfl)) (d_var 1 (fun q : E0__law_same_LL => q.2.1) (cL (c2 cS (c2 cI cI))) (fun _ => rfl)) (nomark _))) (d_one (d_cmp op_eq v_eqS (d_blt (cr_repr hg (room_un hr)) (v_repr (c := (cL (c2 cS (c2 cI cI))))) T.z_repr (by decide +kernel) (a_cons (d_var 0 (fun q : E0__law_same_LL => q.1) (cL (c2 cS (c2 cI cI))) (fun _ => rfl)) a_nil)) (d_blt (cr_repr hg (room_un hr)) (v_repr (c := (cL (c2 cS (c2 cI cI))))) T.z_repr (by decide +kernel) (a_cons (d_var 1 (fun q : E0__law_same_LL => q.2.1) (cL (c2 cS (c2 cI cI))) (fun _ => rfl)) a_nil)) (nomark _))))))
    exact dss_eq key (by kernel_rfl) (by kernel_rfl)) (fun _ h => h) (fun a _ => ends_ret (fun r => r) (fun _ => rfl) (o__law_same_LL a))
abbrev E0__law_low : Type := Int × Int × Unit
abbrev E1__law_low : Type := E0__law_low × Int
abbrev E2__law_low : Type := E1__law_low × Int
abbrev E3__law_low : Type := Int × Int
abbrev E4__law_low : Type := E3__law_low × Int
abbrev E5__law_low : Type := E4__law_low × Int
abbrev E6__law_low : Type := E2__law_low × E3__law_low
def k1__law_low (q4 : E3__law_low) : Out E3__law_low (Int × Int) E3__law_low :=
  (let one5 : Int := q4.2; let other6 : Int := (q4.1 % q4.2); (Out.nx ((one5, other6))))
def kg1__law_low (q4 : E3__law_low) : Prop :=
  ((True ∧ ((((True ∧ True) ∧ True) ∧ True ∧ ((0 : Int) < q4.2)) ∧ True)) ∧ (let one5 : Int := q4.2; let other6 : Int := (q4.1 % q4.2); True))
def kt1__law_low (q4 : E3__law_low) : Bool :=
  (!decide (q4.2 = (0 : Int)))
def ktg1__law_low (q4 : E3__law_low) : Prop :=
  (True ∧ True ∧ True)
def o__law_low (a : E0__law_low) : Out Empty (Int × Int) Empty :=
  (let up := a.1; let down := a.2.1; (let one1 : Int := (((up).natAbs : Nat) : Int); let other2 : Int := down; ((whO kt1__law_low k1__law_low (((Int.toNat other2) + 1)) (one1, other2)).bind (fun l7 : E3__law_low => (Out.rt (((up / l7.1), (down / l7.1))))))))
def m__law_low (a : E0__law_low) : Int × Int := (o__law_low a).ret
def g__law_low (a : E0__law_low) : Prop :=
  (let up := a.1; let down := a.2.1; ((((True ∧ True) ∧ True) ∧ (True ∧ True)) ∧ (let one1 : Int := (((up).natAbs : Nat) : Int); let other2 : Int := down; ((whG ktg1__law_low kt1__law_low kg1__law_low k1__law_low (((Int.toNat other2) + 1)) (one1, other2)) ∧ (∀ l7 : E3__law_low, (whO kt1__law_low k1__law_low (((Int.toNat other2) + 1)) (one1, other2)) = Out.nx (S := Empty) l7 → ((True ∧ True ∧ (CDivW up l7.1)) ∧ ((True ∧ True ∧ (CDivW down l7.1)) ∧ True)))))))
theorem sc__law_low : FnScope ["up", "down", "one", "other"] ["up", "down"] (defScope (topS 38)) := ⟨rfl, rfl, rfl, by decide +kernel, rfl, by decide +kernel, by decide +kernel⟩
theorem b__law_low {K : Y.Frag} {mg : Str → Option Value} {ad : Nat → Addr} {fd : Nat → FuncData} (T : Tx K mg ad fd) : Binds K (fd 38) ["up", "down"] [] := T.F38.binds (ps := ["up", "down"]) fun _ _ _ _ _ _ us hl => match us, hl with | [_, _], _ => rfl
theorem f__law_low {P : Program} {w : World} {K : Y.Frag} {mg : Str → Option Value} {base : Heap} {ad : Nat → Addr} {fd : Nat → FuncData} (T : Tx K mg ad fd) : FnG P w K mg base 1 (ad 38) (fd 38) ["up", "down"] (spP K (ac cI (ac cI an)) (c2 cI cI) g__law_low m__law_low) :=
  fn_pure T.F38 sc__law_low 2 (fun _ => rfl) rfl (owS := []) (ow' := []) (ΓS := fun _ : Empty => []) (Γ' := fun _ : Empty => []) (cr := (c2 cI cI)) (ci := fun _ => []) (G := g__law_low) (d := o__law_low) (fun A0 cdv A outer s H E hr hg => by
    have hu : (A.deeper (envOfC _ (defScope (topS 38)) s.heap.objs.size _ cdv)).units + 64 < cLine := Nat.lt_of_le_of_lt (Nat.add_le_add_left (by decide) _) (room_un hr)
    have key : Dss (XF P w K mg base ["up", "down", "one", "other"] "_law_low" (topS 38) (ad 38) cdv A outer s H E) ⟨A0, [], none⟩ [] (fun a : E0__law_low => ((ac cI (ac cI an)) a).map some ++ List.replicate 2 none) (c2 cI cI) (fun _ => []) [] (fun _ : Empty => []) (defBody (topS 38)) _ _ [] (fun _ : Empty => []) := (s_cons (s_par 2 3 (ca := cI) (cb := cI) (ga := fun x : Int × Int × Unit => x.1) (gb := fun x : Int × Int × Unit => x.2.1) (a_cons (d_blt call_abs v_abs T.z_abs (by decide +kernel) (a_cons (d_var 0 (fun q : E0__law_low => q.1) cI (fun _ => rfl)) a_nil)) (a_cons (d_var 1 (fun q : E0__law_low => q.2.1) cI (fun _ => rfl)) a_nil)) (fun _ => rfl) rfl (hN := sc__law_low.nd)) (s_consK (s_whileP (ΓL := (fun (e3 : E2__law_low) (m : E3__law_low) => [some (cI e3.1.1.1), some (cI e3.1.1.2.1), some (cI m.1), some (cI m.2)])) (fun q : E2__law_low => (q.1.2, q.2)) (fun (e3 : E2__law_low) (m : E3__law_low) => ((Int.toNat m.2) + 1)) (fun _ _ _ _ r => r) (fun e3 : E2__law_low => (t_cmp op_ne v_neI (d_var 3 (fun q : E3__law_low => q.2) cI (fun _ => rfl)) d_int (nomark _))) (fun e3 : E2__law_low => (s_cons (s_par 2 3 (ca := cI) (cb := cI) (ga := fun x : Int × Int × Unit => x.1) (gb := fun x : Int × Int × Unit => x.2.1) (a_cons (d_var 3 (fun q : E3__law_low => q.2) cI (fun _ => rfl)) (a_cons (d_op op_mod v_mod (d_ty call_int1 v_int T.z_int (by decide +kernel) (a_cons (d_var 2 (fun q : E3__law_low => q.1) cI (fun _ => rfl)) a_nil)) (d_var 3 (fun q : E3__law_low => q.2) cI (fun _ => rfl))) a_nil)) (fun _ => rfl) rfl (hN := sc__law_low.nd)) (s_end (ow2 := []) (Γ2 := (fun m : E3__law_low => [some (cI e3.1.1.1), some (cI e3.1.1.2.1), some (cI m.1), some (cI m.2)])) (fun q : E5__law_low => (q.1.2, q.2)) (fun _ _ _ _ r => r)))) PassesOwn.never) (s_one (s_ret (r := fun v (_ : E6__law_low) => v) (fun _ _ => rfl) rfl (d_tp2 (a_cons (d_op op_fdivW v_fdiv (d_var 0 (fun q : E6__law_low => q.1.1.1.1) cI (fun _ => rfl)) (d_var 2 (fun q : E6__law_low => q.2.1) cI (fun _ => rfl))) (a_cons (d_op op_fdivW v_fdiv (d_var 1 (fun q : E6__law_low => q.1.1.1.2.1) cI (fun _ => rfl)) (d_var 2 (fun q : E6__law_low => q.2.1) cI (fun _ => rfl))) a_nil)))))))
    exact dss_eq key (by kernel_rfl) (by kernel_rfl)) (fun _ h => h) (fun a _ => ends_ret (fun r => r) (fun _ => rfl) (o__law_low a))
abbrev E0__law_plus : Type := (Int × Int) × (Int × Int) × Unit
def o__law_plus (a : E0__law_plus) : Out Empty (Int × Int) Empty :=
  (let one := a.1; let other := a.2.1; (Out.rt ((m__law_low (((one.1 * other.2) + (other.1 * one.2)), (one.2 * other.2), ())))))
def m__law_plus (a : E0__law_plus) : Int × Int := (o__law_plus a).ret
def g__law_plus (a : E0__law_plus) : Prop :=
  (let one := a.1; let other := a.2.1; ((((True ∧ True ∧ (CMulW one.1 other.2)) ∧ (True ∧ True ∧ (CMulW other.1 one.2)) ∧ True) ∧ ((True ∧ True ∧ (CMulW one.2 other.2)) ∧ True)) ∧ (g__law_low (((one.1 * other.2) + (other.1 * one.2)), (one.2 * other.2), ()))))
theorem sc__law_plus : FnScope ["one", "other"] ["one", "other"] (defScope (topS 39)) := ⟨rfl, rfl, rfl, by decide +kernel, rfl, by decide +kernel, by decide +kernel⟩
theorem b__law_plus {K : Y.Frag} {mg : Str → Option Value} {ad : Nat → Addr} {fd : Nat → FuncData} (T : Tx K mg ad fd) : Binds K (fd 39) ["one", "other"] [] := T.F39.binds (ps := ["one", "other"]) fun _ _ _ _ _ _ us hl => match us, hl with | [_, _], _ => rfl
theorem f__law_plus {P : Program} {w : World} {K : Y.Frag} {mg : Str → Option Value} {base : Heap} {ad : Nat → Addr} {fd : Nat → FuncData} (T : Tx K mg ad fd) : FnG P w K mg base 2 (ad 39) (fd 39) ["one", "other"] (spP K (ac (c2 cI cI) (ac (c2 cI cI) an)) (c2 cI cI) g__law_plus m__law_plus) :=
  fn_pure T.F39 sc__law_plus 0 (fun _ => rfl) rfl (owS := []) (ow' := []) (ΓS := fun _ : Empty => []) (Γ' := fun _ : Empty => []) (cr := (c2 cI cI)) (ci := fun _ => []) (G := g__law_plus) (d := o__law_plus) (fun A0 cdv A outer s H E hr hg => by
    have hu : (A.deeper (envOfC _ (defScope (topS 39)) s.heap.objs.size _ cdv)).units + 64 < cLine := Nat.lt_of_le_of_lt (Nat.add_le_add_left (by decide) _) (room_un hr)
    have key : Dss (XF P w K mg base ["one", "other"] "_law_plus" (topS 39) (ad 39) cdv A outer s H E) ⟨A0, [], none⟩ [] (fun a : E0__law_plus => ((ac (c2 cI cI) (ac (c2 cI cI) an)) a).map some ++ List.replicate 0 none) (c2 cI cI) (fun _ => []) [] (fun _ : Empty => []) (defBody (topS 39)) _ _ [] (fun _ : Empty => []) := (s_one (s_ret (r := fun v (_ : E0__law_plus) => v) (fun _ _ => rfl) rfl (d_call ((f__law_low T).mono (by decide)) hr hg T.M38 T.F38.kp (b__law_low T) (a_cons (d_op op_add v_add (d_op op_mulW v_mulW (d_prj 0 (fun x : Int × Int => x.1) (cb := cI) (fun _ => ⟨_, rfl, rfl⟩) (d_var 0 (fun q : E0__law_plus => q.1) (c2 cI cI) (fun _ => rfl)) d_int) (d_prj 1 (fun x : Int × Int => x.2) (cb := cI) (fun _ => ⟨_, rfl, rfl⟩) (d_var 1 (fun q : E0__law_plus => q.2.1) (c2 cI cI) (fun _ => rfl)) d_int)) (d_op op_mulW v_mulW (d_prj 0 (fun x : Int × Int => x.1) (cb := cI) (fun _ => ⟨_, rfl, rfl⟩) (d_var 1 (fun q : E0__law_plus => q.2.1) (c2 cI cI) (fun _ => rfl)) d_int) (d_prj 1 (fun x : Int × Int => x.2) (cb := cI) (fun _ => ⟨_, rfl, rfl⟩) (d_var 0 (fun q : E0__law_plus => q.1) (c2 cI cI) (fun _ => rfl)) d_int))) (a_cons (d_op op_mulW v_mulW (d_prj 1 (fun x : Int × Int => x.2) (cb := cI) (fun _ => ⟨_, rfl, rfl⟩) (d_var 0 (fun q : E0__law_plus => q.1) (c2 cI cI) (fun _ => rfl)) d_int) (d_prj 1 (fun x : Int × Int => x.2) (cb := cI) (fun _ => ⟨_, rfl, rfl⟩) (d_var 1 (fun q : E0__law_plus => q.2.1) (c2 cI cI) (fun _ => rfl)) d_int)) a_nil)))))
    exact dss_eq key (by kernel_rfl) (by kernel_rfl)) (fun _ h => h) (fun a _ => ends_ret (fun r => r) (fun _ => rfl) (o__law_plus a))
abbrev E0__law_mul : Type := (Int × Int) × (Int × Int) × Unit
def o__law_mul (a : E0__law_mul) : Out Empty (Int × Int) Empty :=
  (let one := a.1; let other := a.2.1; (Out.rt ((m__law_low ((one.1 * other.1), (one.2 * other.2), ())))))
def m__law_mul (a : E0__law_mul) : Int × Int := (o__law_mul a).ret
def g__law_mul (a : E0__law_mul) : Prop :=
  (let one := a.1; let other := a.2.1; (((True ∧ True ∧ (CMulW one.1 other.1)) ∧ ((True ∧ True ∧ (CMulW one.2 other.2)) ∧ True)) ∧ (g__law_low ((one.1 * other.1), (one.2 * other.2), ()))))
theorem sc__law_mul : FnScope ["one", "other"] ["one", "other"] (defScope (topS 40)) := ⟨rfl, rfl, rfl, by decide +kernel, rfl, by decide +kernel, by decide +kernel⟩
theorem b__law_mul {K : Y.Frag} {mg : Str → Option Value} {ad : Nat → Addr} {fd : Nat → FuncData} (T : Tx K mg ad fd) : Binds K (fd 40) ["one", "other"] [] := T.F40.binds (ps := ["one", "other"]) fun _ _ _ _ _ _ us hl => match us, hl with | [_, _], _ => rfl
theorem f__law_mul {P : Program} {w : World} {K : Y.Frag} {mg : Str → Option Value} {base : Heap} {ad : Nat → Addr} {fd : Nat → FuncData} (T : Tx K mg ad fd) : FnG P w K mg base 2 (ad 40) (fd 40) ["one", "other"] (spP K (ac (c2 cI cI) (ac (c2 cI cI) an)) (c2 cI cI) g__law_mul m__law_mul) :=
  fn_pure T.F40 sc__law_mul 0 (fun _ => rfl) rfl (owS := []) (ow' := []) (ΓS := fun _ : Empty => []) (Γ' := fun _ : Empty => []) (cr := (c2 cI cI)) (ci := fun _ => []) (G := g__law_mul) (d := o__law_mul) (fun A0 cdv A outer s H E hr hg => by
    have hu : (A.deeper (envOfC _ (defScope (topS 40)) s.heap.objs.size _ cdv)).units + 64 < cLine := Nat.lt_of_le_of_lt (Nat.add_le_add_left (by decide) _) (room_un hr)
    have key : Dss (XF P w K mg base ["one", "other"] "_law_mul" (topS 40) (ad 40) cdv A outer s H E) ⟨A0, [], none⟩ [] (fun a : E0__law_mul => ((ac (c2 cI cI) (ac (c2 cI cI) an)) a).map some ++ List.replicate 0 none) (c2 cI cI) (fun _ => []) [] (fun _ : Empty => []) (defBody (topS 40)) _ _ [] (fun _ : Empty => []) := (s_one (s_ret (r := fun v (_ : E0__law_mul) => v) (fun _ _ => rfl) rfl (d_call ((f__law_low T).mono (by decide)) hr hg T.M38 T.F38.kp (b__law_low T) (a_cons (d_op op_mulW v_mulW (d_prj 0 (fun x : Int × Int => x.1) (cb := cI) (fun _ => ⟨_, rfl, rfl⟩) (d_var 0 (fun q : E0__law_mul => q.1) (c2 cI cI) (fun _ => rfl)) d_int) (d_prj 0 (fun x : Int × Int => x.1) (cb := cI) (fun _ => ⟨_, rfl, rfl⟩) (d_var 1 (fun q : E0__law_mul => q.2.1) (c2 cI cI) (fun _ => rfl)) d_int)) (a_cons (d_op op_mulW v_mulW (d_prj 1 (fun x : Int × Int => x.2) (cb := cI) (fun _ => ⟨_, rfl, rfl⟩) (d_var 0 (fun q : E0__law_mul => q.1) (c2 cI cI) (fun _ => rfl)) d_int) (d_prj 1 (fun x : Int × Int => x.2) (cb := cI) (fun _ => ⟨_, rfl, rfl⟩) (d_var 1 (fun q : E0__law_mul => q.2.1) (c2 cI cI) (fun _ => rfl)) d_int)) a_nil)))))
    exact dss_eq key (by kernel_rfl) (by kernel_rfl)) (fun _ h => h) (fun a _ => ends_ret (fun r => r) (fun _ => rfl) (o__law_mul a))
abbrev E0__law_number : Type := (Int × Unit) × St4
def o__law_number (a : E0__law_number) : Out Empty ((Int × Int) × St4) Empty :=
  (let least := a.1.1; (let r1 := m__law_draw (((12 : Int), ()), a.2); let r2 := m__law_draw (((3 : Int), ()), r1.2); (Out.rt ((m__law_low ((least + r1.1), ((1 : Int) + r2.1), ())), r2.2))))
def m__law_number (a : E0__law_number) : (Int × Int) × St4 := (o__law_number a).ret
def g__law_number (a : E0__law_number) : Prop :=
  (let least := a.1.1; (let r1 := m__law_draw (((12 : Int), ()), a.2); let r2 := m__law_draw (((3 : Int), ()), r1.2); (((True ∧ ((True ∧ True) ∧ (g__law_draw (((12 : Int), ()), a.2))) ∧ True) ∧ ((True ∧ ((True ∧ True) ∧ (g__law_draw (((3 : Int), ()), r1.2))) ∧ True) ∧ True)) ∧ (g__law_low ((least + r1.1), ((1 : Int) + r2.1), ())))))
theorem sc__law_number : FnScope ["state", "least"] ["state", "least"] (defScope (topS 41)) := ⟨rfl, rfl, rfl, by decide +kernel, rfl, by decide +kernel, by decide +kernel⟩
theorem b__law_number {K : Y.Frag} {mg : Str → Option Value} {ad : Nat → Addr} {fd : Nat → FuncData} (T : Tx K mg ad fd) : Binds K (fd 41) ["state", "least"] [] := T.F41.binds (ps := ["state", "least"]) fun _ _ _ _ _ _ us hl => match us, hl with | [_, _], _ => rfl
theorem f__law_number {P : Program} {w : World} {K : Y.Frag} {mg : Str → Option Value} {base : Heap} {ad : Nat → Addr} {fd : Nat → FuncData} (T : Tx K mg ad fd) : FnG P w K mg base 2 (ad 41) (fd 41) ["state", "least"] (spS K (ac cI an) cSt (c2 cI cI) g__law_number m__law_number) :=
  fn_state T.F41 sc__law_number 0 (fun _ => rfl) rfl (owS := []) (ow' := []) (ΓS := fun _ : Empty => []) (Γ' := fun _ : Empty => []) (cr := fun r : (Int × Int) × St4 => (c2 cI cI) r.1) (ci := fun r : (Int × Int) × St4 => cSt r.2) (G := g__law_number) (d := o__law_number) (fun A0 p cdv A outer s H E hr hg => by
    have hu : (A.deeper (envOfC _ (defScope (topS 41)) s.heap.objs.size _ cdv)).units + 64 < cLine := Nat.lt_of_le_of_lt (Nat.add_le_add_left (by decide) _) (room_un hr)
    have key : Dss (XF P w K mg base ["state", "least"] "_law_number" (topS 41) (ad 41) cdv A outer s H E) ⟨A0, [], some p⟩ [0] (fun a : E0__law_number => some (.list (cSt a.2)) :: (((ac cI an) a.1).map some ++ List.replicate 0 none)) (fun r : (Int × Int) × St4 => (c2 cI cI) r.1) (fun r : (Int × Int) × St4 => cSt r.2) [] (fun _ : Empty => []) (defBody (topS 41)) _ _ [] (fun _ : Empty => []) := (s_one (s_retS (r := fun v (q : E0__law_number) => (v, q.2)) (fun _ _ => rfl) (fun _ _ => rfl) (d_call ((f__law_low T).mono (by decide)) hr hg T.M38 T.F38.kp (b__law_low T) (a_cons (d_op op_add v_add (d_var 1 (fun q : E0__law_number => q.1.1) cI (fun _ => rfl)) (d_callS 0 (fun q : E0__law_number => q.2) (fun (q : E0__law_number) t => (q.1, t)) (fun _ => rfl) (fun _ _ => rfl) ((f__law_draw T).mono (by decide)) hr hg T.M35 T.F35.kp (b__law_draw T) (a_cons d_int a_nil))) (a_cons (d_op op_add v_add d_int (d_callS 0 (fun q : E0__law_number => q.2) (fun (q : E0__law_number) t => (q.1, t)) (fun _ => rfl) (fun _ _ => rfl) ((f__law_draw T).mono (by decide)) hr hg T.M35 T.F35.kp (b__law_draw T) (a_cons d_int a_nil))) a_nil)))))
    exact dss_eq key (by kernel_rfl) (by kernel_rfl)) (fun _ h => h) (fun a _ => ret_ex (o__law_number a))
abbrev E0__law_river : Type := (Unit) × St4
abbrev E1__law_river : Type := E0__law_river × Int
def c1__law_river (s4 : St4) (x1 : Int) : ((Int × Int) × (Int × Int)) × St4 :=
  (let r5 := m__law_number (((1 : Int), ()), s4); let r6 := m__law_number (((0 : Int), ()), r5.2); ((r5.1, r6.1), r6.2))
def cg1__law_river (s4 : St4) (x1 : Int) : Prop :=
  (let r5 := m__law_number (((1 : Int), ()), s4); let r6 := m__law_number (((0 : Int), ()), r5.2); (((True ∧ True) ∧ (g__law_number (((1 : Int), ()), s4))) ∧ (((True ∧ True) ∧ (g__law_number (((0 : Int), ()), r5.2))) ∧ True)))
abbrev E2__law_river : Type := E0__law_river × (List ((Int × Int) × (Int × Int)))
abbrev E3__law_river : Type := E2__law_river × Int
def c2__law_river (some8 : List ((Int × Int) × (Int × Int))) (s17 : St4) (x10 : Int) : ((Int × Int) × (Int × Int)) × St4 :=
  (let r18 := m__law_draw (((2 : Int), ()), s17); let i22 : (Int × Int) × (Int × Int) := (if (decide (r18.1 = (0 : Int))) = true then (let r19 := m__law_pick_BA ((some8, ()), r18.2); r19.1) else (let r20 := m__law_number (((1 : Int), ()), r18.2); let r21 := m__law_number (((0 : Int), ()), r20.2); (r20.1, r21.1))); let i23 : St4 := (if (decide (r18.1 = (0 : Int))) = true then (let r19 := m__law_pick_BA ((some8, ()), r18.2); r19.2) else (let r20 := m__law_number (((1 : Int), ()), r18.2); let r21 := m__law_number (((0 : Int), ()), r20.2); r21.2)); (i22, i23))
def cg2__law_river (some8 : List ((Int × Int) × (Int × Int))) (s17 : St4) (x10 : Int) : Prop :=
  (let r18 := m__law_draw (((2 : Int), ()), s17); let i22 : (Int × Int) × (Int × Int) := (if (decide (r18.1 = (0 : Int))) = true then (let r19 := m__law_pick_BA ((some8, ()), r18.2); r19.1) else (let r20 := m__law_number (((1 : Int), ()), r18.2); let r21 := m__law_number (((0 : Int), ()), r20.2); (r20.1, r21.1))); let i23 : St4 := (if (decide (r18.1 = (0 : Int))) = true then (let r19 := m__law_pick_BA ((some8, ()), r18.2); r19.2) else (let r20 := m__law_number (((1 : Int), ()), r18.2); let r21 := m__law_number (((0 : Int), ()), r20.2); r21.2)); ((((True ∧ True) ∧ (g__law_draw (((2 : Int), ()), s17))) ∧ True ∧ True) ∧ ((decide (r18.1 = (0 : Int))) = true → (let r19 := m__law_pick_BA ((some8, ()), r18.2); ((True ∧ True) ∧ (g__law_pick_BA ((some8, ()), r18.2))))) ∧ ((decide (r18.1 = (0 : Int))) = false → (let r20 := m__law_number (((1 : Int), ()), r18.2); let r21 := m__law_number (((0 : Int), ()), r20.2); (((True ∧ True) ∧ (g__law_number (((1 : Int), ()), r18.2))) ∧ (((True ∧ True) ∧ (g__law_number (((0 : Int), ()), r20.2))) ∧ True))))))
def o__law_river (a : E0__law_river) : Out Empty ((List ((Int × Int) × (Int × Int))) × St4) Empty :=
  (let r7 := lcS c1__law_river a.2 ((rng 0 ((2 : Int)))); (let some8 : List ((Int × Int) × (Int × Int)) := r7.1; (let r9 := m__law_draw (((4 : Int), ()), r7.2); let r24 := lcS (c2__law_river some8) r9.2 ((rng 0 (((1 : Int) + r9.1)))); (Out.rt (r24.1, r24.2)))))
def m__law_river (a : E0__law_river) : (List ((Int × Int) × (Int × Int))) × St4 := (o__law_river a).ret
def g__law_river (a : E0__law_river) : Prop :=
  (let r7 := lcS c1__law_river a.2 ((rng 0 ((2 : Int)))); ((((True ∧ True) ∧ (CRg 0 ((2 : Int)))) ∧ (lcG cg1__law_river c1__law_river a.2 ((rng 0 ((2 : Int)))))) ∧ (let some8 : List ((Int × Int) × (Int × Int)) := r7.1; (let r9 := m__law_draw (((4 : Int), ()), r7.2); let r24 := lcS (c2__law_river some8) r9.2 ((rng 0 (((1 : Int) + r9.1)))); ((((((True ∧ ((True ∧ True) ∧ (g__law_draw (((4 : Int), ()), r7.2))) ∧ True) ∧ True) ∧ (CRg 0 (((1 : Int) + r9.1)))) ∧ (lcG (cg2__law_river some8) (c2__law_river some8) r9.2 ((rng 0 (((1 : Int) + r9.1)))))) ∧ True) ∧ True)))))
theorem sc__law_river : FnScope ["state", "some", "k"] ["state"] (defScope (topS 42)) := ⟨rfl, rfl, rfl, by decide +kernel, rfl, by decide +kernel, by decide +kernel⟩
theorem b__law_river {K : Y.Frag} {mg : Str → Option Value} {ad : Nat → Addr} {fd : Nat → FuncData} (T : Tx K mg ad fd) : Binds K (fd 42) ["state"] [] := T.F42.binds (ps := ["state"]) fun _ _ _ _ _ _ us hl => match us, hl with | [_], _ => rfl
theorem f__law_river {P : Program} {w : World} {K : Y.Frag} {mg : Str → Option Value} {base : Heap} {ad : Nat → Addr} {fd : Nat → FuncData} (T : Tx K mg ad fd) : FnG P w K mg base 3 (ad 42) (fd 42) ["state"] (spS K an cSt (cT (c2 (c2 cI cI) (c2 cI cI))) g__law_river m__law_river) :=
  fn_state T.F42 sc__law_river 2 (fun _ => rfl) rfl (owS := []) (ow' := []) (ΓS := fun _ : Empty => []) (Γ' := fun _ : Empty => []) (cr := fun r : (List ((Int × Int) × (Int × Int))) × St4 => (cT (c2 (c2 cI cI) (c2 cI cI))) r.1) (ci := fun r : (List ((Int × Int) × (Int × Int))) × St4 => cSt r.2) (G := g__law_river) (d := o__law_river) (fun A0 p cdv A outer s H E hr hg => by
    have hu : (A.deeper (envOfC _ (defScope (topS 42)) s.heap.objs.size _ cdv)).units + 64 < cLine := Nat.lt_of_le_of_lt (Nat.add_le_add_left (by decide) _) (room_un hr)
    have key : Dss (XF P w K mg base ["state", "some", "k"] "_law_river" (topS 42) (ad 42) cdv A outer s H E) ⟨A0, [], some p⟩ [0] (fun a : E0__law_river => some (.list (cSt a.2)) :: ((an a.1).map some ++ List.replicate 2 none)) (fun r : (List ((Int × Int) × (Int × Int))) × St4 => (cT (c2 (c2 cI cI) (c2 cI cI))) r.1) (fun r : (List ((Int × Int) × (Int × Int))) × St4 => cSt r.2) [] (fun _ : Empty => []) (defBody (topS 42)) _ _ [] (fun _ : Empty => []) := (s_cons (s_asg 1 (d_lcS (fun q : E0__law_river => q.2) (fun (q : E0__law_river) t => (q.1, t)) (fun _ _ _ => rfl) (fun _ => rfl) (fun _ _ => rfl) (tg_name 2) (tgf_name 2) (fun _ _ _ => rfl) (fun _ t t' i d hi h => hfz_of 0 (by decide) (x := some (.list (cSt t'))) rfl hi h) (i_rng1 (a_cons d_int a_nil) T.z_range) (blkOk_by (N := ["state", "some", "k"]) (sc := defScope (topS 42)) (own := [("k", 2)]) (by decide +kernel)) (fun _ _ _ _ _ => (pg_name (i := 2) sc__law_river.nd rfl (by first | exact .inl rfl | exact .inr rfl))) (fun _ _ _ _ _ _ => (d_tp2 (a_cons (d_callS 0 (fun q : E1__law_river => q.1.2) (fun (q : E1__law_river) t => ((q.1.1, t), q.2)) (fun _ => rfl) (fun _ _ => rfl) ((f__law_number T).mono (by decide)) hr hg T.M41 T.F41.kp (b__law_number T) (a_cons d_int a_nil)) (a_cons (d_callS 0 (fun q : E1__law_river => q.1.2) (fun (q : E1__law_river) t => ((q.1.1, t), q.2)) (fun _ => rfl) (fun _ _ => rfl) ((f__law_number T).mono (by decide)) hr hg T.M41 T.F41.kp (b__law_number T) (a_cons d_int a_nil)) a_nil)))) (own := [("k", 2)]) (hN := sc__law_river.nd)).de (hN := sc__law_river.nd)) (s_one (s_retS (r := fun v (q : E2__law_river) => (v, q.1.2)) (fun _ _ => rfl) (fun _ _ => rfl) (d_ty call_tuple_of (v_tuple sq_L) T.z_tuple (by decide +kernel) (a_cons (d_lcS (fun q : E2__law_river => q.1.2) (fun (q : E2__law_river) t => ((q.1.1, t), q.2)) (fun _ _ _ => rfl) (fun _ => rfl) (fun _ _ => rfl) (tg_name 2) (tgf_name 2) (fun _ _ _ => rfl) (fun _ t t' i d hi h => hfz_of 0 (by decide) (x := some (.list (cSt t'))) rfl hi h) (i_rng1 (a_cons (d_op op_add v_add d_int (d_callS 0 (fun q : E2__law_river => q.1.2) (fun (q : E2__law_river) t => ((q.1.1, t), q.2)) (fun _ => rfl) (fun _ _ => rfl) ((f__law_draw T).mono (by decide)) hr hg T.M35 T.F35.kp (b__law_draw T) (a_cons d_int a_nil))) a_nil) T.z_range) (blkOk_by (N := ["state", "some", "k"]) (sc := defScope (topS 42)) (own := [("k", 2)]) (by decide +kernel)) (fun _ _ _ _ _ => (pg_name (i := 2) sc__law_river.nd rfl (by first | exact .inl rfl | exact .inr rfl))) (fun _ _ _ _ _ _ => (d_ifE (fun (q : E3__law_river) t => (((q.1.1.1, t), q.1.2), q.2)) (t_cmp op_eq v_eqI (d_callS 0 (fun q : E3__law_river => q.1.1.2) (fun (q : E3__law_river) t => (((q.1.1.1, t), q.1.2), q.2)) (fun _ => rfl) (fun _ _ => rfl) ((f__law_draw T).mono (by decide)) hr hg T.M35 T.F35.kp (b__law_draw T) (a_cons d_int a_nil)) d_int (nomark _)) (d_callS 0 (fun q : E3__law_river => q.1.1.2) (fun (q : E3__law_river) t => (((q.1.1.1, t), q.1.2), q.2)) (fun _ => rfl) (fun _ _ => rfl) ((f__law_pick_BA T).mono (by decide)) hr hg T.M36 T.F36.kp (b__law_pick T) (a_cons (d_var 1 (fun q : E3__law_river => q.1.2) (cL (c2 (c2 cI cI) (c2 cI cI))) (fun _ => rfl)) a_nil)) (d_tp2 (a_cons (d_callS 0 (fun q : E3__law_river => q.1.1.2) (fun (q : E3__law_river) t => (((q.1.1.1, t), q.1.2), q.2)) (fun _ => rfl) (fun _ _ => rfl) ((f__law_number T).mono (by decide)) hr hg T.M41 T.F41.kp (b__law_number T) (a_cons d_int a_nil)) (a_cons (d_callS 0 (fun q : E3__law_river => q.1.1.2) (fun (q : E3__law_river) t => (((q.1.1.1, t), q.1.2), q.2)) (fun _ => rfl) (fun _ _ => rfl) ((f__law_number T).mono (by decide)) hr hg T.M41 T.F41.kp (b__law_number T) (a_cons d_int a_nil)) a_nil))) (fun _ => rfl) (fun _ => rfl))) (own := [("k", 2)]) (hN := sc__law_river.nd)).de a_nil)))))
    exact dss_eq key (by kernel_rfl) (by kernel_rfl)) (fun _ h => h) (fun a _ => ret_ex (o__law_river a))
abbrev E0__law_headings : Type := (Int × Unit) × St4
abbrev E1__law_headings : Type := E0__law_headings × (List (Int × Int × Int))
abbrev E2__law_headings : Type := E1__law_headings × Int
def c1__law_headings (some1 : List (Int × Int × Int)) (s4 : St4) (x2 : Int) : (Int × Int × Int) × St4 :=
  (let r5 := m__law_pick_HD ((some1, ()), s4); (r5.1, r5.2))
def cg1__law_headings (some1 : List (Int × Int × Int)) (s4 : St4) (x2 : Int) : Prop :=
  (let r5 := m__law_pick_HD ((some1, ()), s4); ((True ∧ True) ∧ (g__law_pick_HD ((some1, ()), s4))))
def o__law_headings (a : E0__law_headings) : Out Empty ((List (Int × Int × Int)) × St4) Empty :=
  (let many := a.1.1; (let some1 : List (Int × Int × Int) := [((0 : Int), (1 : Int), (1 : Int)), ((3 : Int), (4 : Int), (5 : Int)), (((0 : Int) - (3 : Int)), (4 : Int), (5 : Int)), ((4 : Int), (3 : Int), (5 : Int)), (((0 : Int) - (4 : Int)), (3 : Int), (5 : Int)), ((5 : Int), (12 : Int), (13 : Int)), (((0 : Int) - (12 : Int)), (5 : Int), (13 : Int)), (((0 : Int) - (8 : Int)), (15 : Int), (17 : Int))]; (let r6 := lcS (c1__law_headings some1) a.2 ((rng 0 many)); (Out.rt (r6.1, r6.2)))))
def m__law_headings (a : E0__law_headings) : (List (Int × Int × Int)) × St4 := (o__law_headings a).ret
def g__law_headings (a : E0__law_headings) : Prop :=
  (let many := a.1.1; (((True ∧ (True ∧ (True ∧ True))) ∧ ((True ∧ (True ∧ (True ∧ True))) ∧ (((True ∧ True ∧ True) ∧ (True ∧ (True ∧ True))) ∧ ((True ∧ (True ∧ (True ∧ True))) ∧ (((True ∧ True ∧ True) ∧ (True ∧ (True ∧ True))) ∧ ((True ∧ (True ∧ (True ∧ True))) ∧ (((True ∧ True ∧ True) ∧ (True ∧ (True ∧ True))) ∧ (((True ∧ True ∧ True) ∧ (True ∧ (True ∧ True))) ∧ True)))))))) ∧ (let some1 : List (Int × Int × Int) := [((0 : Int), (1 : Int), (1 : Int)), ((3 : Int), (4 : Int), (5 : Int)), (((0 : Int) - (3 : Int)), (4 : Int), (5 : Int)), ((4 : Int), (3 : Int), (5 : Int)), (((0 : Int) - (4 : Int)), (3 : Int), (5 : Int)), ((5 : Int), (12 : Int), (13 : Int)), (((0 : Int) - (12 : Int)), (5 : Int), (13 : Int)), (((0 : Int) - (8 : Int)), (15 : Int), (17 : Int))]; (let r6 := lcS (c1__law_headings some1) a.2 ((rng 0 many)); (((((True ∧ True) ∧ (CRg 0 many)) ∧ (lcG (cg1__law_headings some1) (c1__law_headings some1) a.2 ((rng 0 many)))) ∧ True) ∧ True)))))
theorem sc__law_headings : FnScope ["state", "many", "some", "k"] ["state", "many"] (defScope (topS 43)) := ⟨rfl, rfl, rfl, by decide +kernel, rfl, by decide +kernel, by decide +kernel⟩
theorem b__law_headings {K : Y.Frag} {mg : Str → Option Value} {ad : Nat → Addr} {fd : Nat → FuncData} (T : Tx K mg ad fd) : Binds K (fd 43) ["state", "many"] [] := T.F43.binds (ps := ["state", "many"]) fun _ _ _ _ _ _ us hl => match us, hl with | [_, _], _ => rfl
theorem f__law_headings {P : Program} {w : World} {K : Y.Frag} {mg : Str → Option Value} {base : Heap} {ad : Nat → Addr} {fd : Nat → FuncData} (T : Tx K mg ad fd) : FnG P w K mg base 3 (ad 43) (fd 43) ["state", "many"] (spS K (ac cI an) cSt (cT (c3 cI cI cI)) g__law_headings m__law_headings) :=
  fn_state T.F43 sc__law_headings 2 (fun _ => rfl) rfl (owS := []) (ow' := []) (ΓS := fun _ : Empty => []) (Γ' := fun _ : Empty => []) (cr := fun r : (List (Int × Int × Int)) × St4 => (cT (c3 cI cI cI)) r.1) (ci := fun r : (List (Int × Int × Int)) × St4 => cSt r.2) (G := g__law_headings) (d := o__law_headings) (fun A0 p cdv A outer s H E hr hg => by
    have hu : (A.deeper (envOfC _ (defScope (topS 43)) s.heap.objs.size _ cdv)).units + 64 < cLine := Nat.lt_of_le_of_lt (Nat.add_le_add_left (by decide) _) (room_un hr)
    have key : Dss (XF P w K mg base ["state", "many", "some", "k"] "_law_headings" (topS 43) (ad 43) cdv A outer s H E) ⟨A0, [], some p⟩ [0] (fun a : E0__law_headings => some (.list (cSt a.2)) :: (((ac cI an) a.1).map some ++ List.replicate 2 none)) (fun r : (List (Int × Int × Int)) × St4 => (cT (c3 cI cI cI)) r.1) (fun r : (List (Int × Int × Int)) × St4 => cSt r.2) [] (fun _ : Empty => []) (defBody (topS 43)) _ _ [] (fun _ : Empty => []) := (s_cons (s_asg 2 (l_disp (c := (c3 cI cI cI)) (g := fun x : (Int × Int × Int) × (Int × Int × Int) × (Int × Int × Int) × (Int × Int × Int) × (Int × Int × Int) × (Int × Int × Int) × (Int × Int × Int) × (Int × Int × Int) × Unit => [x.1, x.2.1, x.2.2.1, x.2.2.2.1, x.2.2.2.2.1, x.2.2.2.2.2.1, x.2.2.2.2.2.2.1, x.2.2.2.2.2.2.2.1]) (fun _ => rfl) (fun _ => Nat.le_of_ble_eq_true rfl) (a_cons (d_tp3 (a_cons d_int (a_cons d_int (a_cons d_int a_nil)))) (a_cons (d_tp3 (a_cons d_int (a_cons d_int (a_cons d_int a_nil)))) (a_cons (d_tp3 (a_cons (d_op op_sub v_sub d_int d_int) (a_cons d_int (a_cons d_int a_nil)))) (a_cons (d_tp3 (a_cons d_int (a_cons d_int (a_cons d_int a_nil)))) (a_cons (d_tp3 (a_cons (d_op op_sub v_sub d_int d_int) (a_cons d_int (a_cons d_int a_nil)))) (a_cons (d_tp3 (a_cons d_int (a_cons d_int (a_cons d_int a_nil)))) (a_cons (d_tp3 (a_cons (d_op op_sub v_sub d_int d_int) (a_cons d_int (a_cons d_int a_nil)))) (a_cons (d_tp3 (a_cons (d_op op_sub v_sub d_int d_int) (a_cons d_int (a_cons d_int a_nil)))) a_nil))))))))).de (hN := sc__law_headings.nd)) (s_one (s_retS (r := fun v (q : E1__law_headings) => (v, q.1.2)) (fun _ _ => rfl) (fun _ _ => rfl) (d_ty call_tuple_of (v_tuple sq_L) T.z_tuple (by decide +kernel) (a_cons (d_lcS (fun q : E1__law_headings => q.1.2) (fun (q : E1__law_headings) t => ((q.1.1, t), q.2)) (fun _ _ _ => rfl) (fun _ => rfl) (fun _ _ => rfl) (tg_name 3) (tgf_name 3) (fun _ _ _ => rfl) (fun _ t t' i d hi h => hfz_of 0 (by decide) (x := some (.list (cSt t'))) rfl hi h) (i_rng1 (a_cons (d_var 1 (fun q : E1__law_headings => q.1.1.1) cI (fun _ => rfl)) a_nil) T.z_range) (blkOk_by (N := ["state", "many", "some", "k"]) (sc := defScope (topS 43)) (own := [("k", 3)]) (by decide +kernel)) (fun _ _ _ _ _ => (pg_name (i := 3) sc__law_headings.nd rfl (by first | exact .inl rfl | exact .inr rfl))) (fun _ _ _ _ _ _ => (d_callS 0 (fun q : E2__law_headings => q.1.1.2) (fun (q : E2__law_headings) t => (((q.1.1.1, t), q.1.2), q.2)) (fun _ => rfl) (fun _ _ => rfl) ((f__law_pick_HD T).mono (by decide)) hr hg T.M36 T.F36.kp (b__law_pick T) (a_cons (d_var 2 (fun q : E2__law_headings => q.1.2) (cL (c3 cI cI cI)) (fun _ => rfl)) a_nil))) (own := [("k", 3)]) (hN := sc__law_headings.nd)).de a_nil)))))
    exact dss_eq key (by kernel_rfl) (by kernel_rfl)) (fun _ h => h) (fun a _ => ret_ex (o__law_headings a))
abbrev E0__law_currents_hold : Type := (List ((Int × Int) × (Int × Int))) × (Int × Int) × (List (Int × Int × Int)) × Unit
abbrev E1__law_currents_hold : Type := E0__law_currents_hold × ((Int × Int) × (Int × Int))
abbrev E2__law_currents_hold : Type := E1__law_currents_hold × ((Int × Int) × (Int × Int))
abbrev E3__law_currents_hold : Type := E1__law_currents_hold × (List ((Int × Int) × (Int × Int)))
abbrev E4__law_currents_hold : Type := E3__law_currents_hold × ((Int × Int) × (Int × Int))
abbrev E5__law_currents_hold : Type := E4__law_currents_hold × ((Int × Int) × (Int × Int))
abbrev E6__law_currents_hold : Type := E5__law_currents_hold × (List ((Int × Int) × (Int × Int) × (Int × Int)))
abbrev E7__law_currents_hold : Type := (Int × Int) × (Int × Int)
abbrev E8__law_currents_hold : Type := E7__law_currents_hold × Int
abbrev E9__law_currents_hold : Type := E8__law_currents_hold × (Int × Int)
abbrev E10__law_currents_hold : Type := E9__law_currents_hold × (Int × Int)
abbrev E11__law_currents_hold : Type := E6__law_currents_hold × E7__law_currents_hold
def k1__law_currents_hold (bands : List ((Int × Int) × (Int × Int))) (rows6 : List ((Int × Int) × (Int × Int) × (Int × Int))) (q8 : E8__law_currents_hold) : E7__law_currents_hold :=
  (let carried9 : Int × Int := (m__law_plus (q8.1.1, (m__law_mul ((m__law_plus (((ixD rows6 q8.2)).1, (((0 : Int) - q8.1.2.1), q8.1.2.2), ())), ((ixD bands q8.2)).2, ())), ())); (let ahead10 : Int × Int := ((ixD rows6 q8.2)).1; (carried9, ahead10)))
def kg1__law_currents_hold (bands : List ((Int × Int) × (Int × Int))) (rows6 : List ((Int × Int) × (Int × Int) × (Int × Int))) (q8 : E8__law_currents_hold) : Prop :=
  (((True ∧ ((((((True ∧ True ∧ (CIx rows6 q8.2)) ∧ (((True ∧ True ∧ True) ∧ (True ∧ True)) ∧ True)) ∧ (g__law_plus (((ixD rows6 q8.2)).1, (((0 : Int) - q8.1.2.1), q8.1.2.2), ()))) ∧ ((True ∧ True ∧ (CIx bands q8.2)) ∧ True)) ∧ (g__law_mul ((m__law_plus (((ixD rows6 q8.2)).1, (((0 : Int) - q8.1.2.1), q8.1.2.2), ())), ((ixD bands q8.2)).2, ()))) ∧ True)) ∧ (g__law_plus (q8.1.1, (m__law_mul ((m__law_plus (((ixD rows6 q8.2)).1, (((0 : Int) - q8.1.2.1), q8.1.2.2), ())), ((ixD bands q8.2)).2, ())), ()))) ∧ (let carried9 : Int × Int := (m__law_plus (q8.1.1, (m__law_mul ((m__law_plus (((ixD rows6 q8.2)).1, (((0 : Int) - q8.1.2.1), q8.1.2.2), ())), ((ixD bands q8.2)).2, ())), ())); ((True ∧ True ∧ (CIx rows6 q8.2)) ∧ (let ahead10 : Int × Int := ((ixD rows6 q8.2)).1; True))))
abbrev E12__law_currents_hold : Type := E11__law_currents_hold × (Int × Int × Int)
abbrev E13__law_currents_hold : Type := E11__law_currents_hold × ((Int × Int) × (Int × Int))
def o__law_currents_hold (a : E0__law_currents_hold) : Out Empty (Bool) Empty :=
  (let bands := a.1; let speed := a.2.1; let headings := a.2.2.1; (let u1 : (Int × Int) × (Int × Int) := (m_way_across (bands, speed, headings, ())); (let still3 : List ((Int × Int) × (Int × Int)) := (bands.map fun x2 => (x2.1, ((0 : Int), (1 : Int)))); (let calm4 : (Int × Int) × (Int × Int) := (m_way_across (still3, speed, headings, ())); (let u5 : (Int × Int) × (Int × Int) := (((0 : Int), (1 : Int)), ((0 : Int), (1 : Int))); (let rows6 : List ((Int × Int) × (Int × Int) × (Int × Int)) := (m_way_by_bands (bands, speed, headings, ())); (let l11 : E7__law_currents_hold := (((rng 0 (((bands).length : Int)))).foldl (fun m x => (k1__law_currents_hold bands rows6) (m, x)) (u5.1, u5.2)); (if (!((m__law_same_LQ ([calm4.1, (m__law_plus (calm4.2, l11.1, ())), ((ixD rows6 ((-1 : Int)))).1, ((ixD rows6 ((-1 : Int)))).2.2], [u1.1, u1.2, u1.1, u1.2], ())))) = true then (Out.rt false) else (let other13 : (Int × Int) × (Int × Int) := (m_way_across (still3, speed, (headings.map fun x12 => ((((0 : Int) - x12.1)), ((x12.2.1, x12.2.2)).1, ((x12.2.1, x12.2.2)).2)), ())); (Out.rt ((m__law_same_QQ (other13, (u1.1, (((0 : Int) - calm4.2.1), calm4.2.2)), ())))))))))))))
def m__law_currents_hold (a : E0__law_currents_hold) : Bool := (o__law_currents_hold a).ret
def g__law_currents_hold (a : E0__law_currents_hold) : Prop :=
  (let bands := a.1; let speed := a.2.1; let headings := a.2.2.1; (((True ∧ (True ∧ (True ∧ True))) ∧ (g_way_across (bands, speed, headings, ()))) ∧ (let u1 : (Int × Int) × (Int × Int) := (m_way_across (bands, speed, headings, ())); ((((True ∧ (∀ x2 ∈ bands, (True ∧ ((True ∧ (True ∧ True)) ∧ True)))) ∧ True) ∧ True) ∧ (let still3 : List ((Int × Int) × (Int × Int)) := (bands.map fun x2 => (x2.1, ((0 : Int), (1 : Int)))); (((True ∧ (True ∧ (True ∧ True))) ∧ (g_way_across (still3, speed, headings, ()))) ∧ (let calm4 : (Int × Int) × (Int × Int) := (m_way_across (still3, speed, headings, ())); (((True ∧ (True ∧ True)) ∧ ((True ∧ (True ∧ True)) ∧ True)) ∧ (let u5 : (Int × Int) × (Int × Int) := (((0 : Int), (1 : Int)), ((0 : Int), (1 : Int))); (((True ∧ (True ∧ (True ∧ True))) ∧ (g_way_by_bands (bands, speed, headings, ()))) ∧ (let rows6 : List ((Int × Int) × (Int × Int) × (Int × Int)) := (m_way_by_bands (bands, speed, headings, ())); ((((((True ∧ True) ∧ True) ∧ True) ∧ (CRg 0 (((bands).length : Int)))) ∧ (forN (kg1__law_currents_hold bands rows6) (k1__law_currents_hold bands rows6) (u5.1, u5.2) (rng 0 (((bands).length : Int))))) ∧ (let l11 : E7__law_currents_hold := (((rng 0 (((bands).length : Int)))).foldl (fun m x => (k1__law_currents_hold bands rows6) (m, x)) (u5.1, u5.2)); ((((True ∧ (((True ∧ (True ∧ True)) ∧ (g__law_plus (calm4.2, l11.1, ()))) ∧ ((True ∧ True ∧ (CIx rows6 ((-1 : Int)))) ∧ ((True ∧ True ∧ (CIx rows6 ((-1 : Int)))) ∧ True)))) ∧ ((True ∧ (True ∧ (True ∧ (True ∧ True)))) ∧ True)) ∧ (g__law_same_LQ ([calm4.1, (m__law_plus (calm4.2, l11.1, ())), ((ixD rows6 ((-1 : Int)))).1, ((ixD rows6 ((-1 : Int)))).2.2], [u1.1, u1.2, u1.1, u1.2], ()))) ∧ ((!((m__law_same_LQ ([calm4.1, (m__law_plus (calm4.2, l11.1, ())), ((ixD rows6 ((-1 : Int)))).1, ((ixD rows6 ((-1 : Int)))).2.2], [u1.1, u1.2, u1.1, u1.2], ())))) = true → True) ∧ ((!((m__law_same_LQ ([calm4.1, (m__law_plus (calm4.2, l11.1, ())), ((ixD rows6 ((-1 : Int)))).1, ((ixD rows6 ((-1 : Int)))).2.2], [u1.1, u1.2, u1.1, u1.2], ())))) = false → (((True ∧ (True ∧ ((((True ∧ (∀ x12 ∈ headings, (((True ∧ True ∧ True) ∧ True) ∧ (True ∧ True ∧ True) ∧ (([(((0 : Int) - x12.1))]).length + ([((x12.2.1, x12.2.2)).1, ((x12.2.1, x12.2.2)).2]).length ≤ 16777216)))) ∧ True) ∧ True) ∧ True))) ∧ (g_way_across (still3, speed, (headings.map fun x12 => ((((0 : Int) - x12.1)), ((x12.2.1, x12.2.2)).1, ((x12.2.1, x12.2.2)).2)), ()))) ∧ (let other13 : (Int × Int) × (Int × Int) := (m_way_across (still3, speed, (headings.map fun x12 => ((((0 : Int) - x12.1)), ((x12.2.1, x12.2.2)).1, ((x12.2.1, x12.2.2)).2)), ())); ((True ∧ ((True ∧ (((True ∧ True ∧ True) ∧ (True ∧ True)) ∧ True)) ∧ True)) ∧ (g__law_same_QQ (other13, (u1.1, (((0 : Int) - calm4.2.1), calm4.2.2)), ()))))))))))))))))))))
theorem sc__law_currents_hold : FnScope ["bands", "speed", "headings", "time", "drift", "still", "calm", "carried", "ahead", "rows", "k", "other", "own"] ["bands", "speed", "headings"] (defScope (topS 44)) := ⟨rfl, rfl, rfl, by decide +kernel, rfl, by decide +kernel, by decide +kernel⟩
theorem b__law_currents_hold {K : Y.Frag} {mg : Str → Option Value} {ad : Nat → Addr} {fd : Nat → FuncData} (T : Tx K mg ad fd) : Binds K (fd 44) ["bands", "speed", "headings"] [] := T.F44.binds (ps := ["bands", "speed", "headings"]) fun _ _ _ _ _ _ us hl => match us, hl with | [_, _, _], _ => rfl
theorem f__law_currents_hold {P : Program} {w : World} {K : Y.Frag} {mg : Str → Option Value} {base : Heap} {ad : Nat → Addr} {fd : Nat → FuncData} (T : Tx K mg ad fd) : FnG P w K mg base 8 (ad 44) (fd 44) ["bands", "speed", "headings"] (spP K (ac (cT (c2 (c2 cI cI) (c2 cI cI))) (ac (c2 cI cI) (ac (cT (c3 cI cI cI)) an))) cB g__law_currents_hold m__law_currents_hold) :=
  fn_pure T.F44 sc__law_currents_hold 10 (fun _ => rfl) rfl (owS := []) (ow' := []) (ΓS := fun _ : Empty => []) (Γ' := fun _ : Empty => []) (cr := cB) (ci := fun _ => []) (G := g__law_currents_hold) (d := o__law_currents_hold) (fun A0 cdv A outer s H E hr hg => by
    have hu : (A.deeper (envOfC _ (defScope (topS 44)) s.heap.objs.size _ cdv)).units + 64 < cLine := Nat.lt_of_le_of_lt (Nat.add_le_add_left (by decide) _) (room_un hr)
    have key : Dss (XF P w K mg base ["bands", "speed", "headings", "time", "drift", "still", "calm", "carried", "ahead", "rows", "k", "other", "own"] "_law_currents_hold" (topS 44) (ad 44) cdv A outer s H E) ⟨A0, [], none⟩ [] (fun a : E0__law_currents_hold => ((ac (cT (c2 (c2 cI cI) (c2 cI cI))) (ac (c2 cI cI) (ac (cT (c3 cI cI cI)) an))) a).map some ++ List.replicate 10 none) cB (fun _ => []) [] (fun _ : Empty => []) (defBody (topS 44)) _ _ [] (fun _ : Empty => []) := (s_cons (s_asgT (d_call ((f_way_across T).mono (by decide)) hr hg T.M25 T.F25.kp (b_way_across T) (a_cons (d_var 0 (fun q : E0__law_currents_hold => q.1) (cT (c2 (c2 cI cI) (c2 cI cI))) (fun _ => rfl)) (a_cons (d_var 1 (fun q : E0__law_currents_hold => q.2.1) (c2 cI cI) (fun _ => rfl)) (a_cons (d_var 2 (fun q : E0__law_currents_hold => q.2.2.1) (cT (c3 cI cI cI)) (fun _ => rfl)) a_nil)))) (pg_tup rfl (pgs_cons (pg_name (i := 3) sc__law_currents_hold.nd rfl (by first | exact .inl rfl | exact .inr rfl)) (pgs_cons (pg_name (i := 4) sc__law_currents_hold.nd rfl (by first | exact .inl rfl | exact .inr rfl)) pgs_nil))) (tg_pair 3 4)) (s_cons (s_asg 5 (d_ty call_tuple_of (v_tuple sq_L) T.z_tuple (by decide +kernel) (a_cons (d_lc0 (i_tup (d_var 0 (fun q : E1__law_currents_hold => q.1.1) (cT (c2 (c2 cI cI) (c2 cI cI))) (fun _ => rfl))) (blkOk_by (N := ["bands", "speed", "headings", "time", "drift", "still", "calm", "carried", "ahead", "rows", "k", "other", "own"]) (sc := defScope (topS 44)) (own := [("own", 12)]) (by decide +kernel)) (tg_name 12) (fun _ _ _ _ _ => (pg_name (i := 12) sc__law_currents_hold.nd rfl (by first | exact .inl rfl | exact .inr rfl))) (fun _ _ _ _ _ _ => (d_tp2 (a_cons (d_prj 0 (fun x : (Int × Int) × (Int × Int) => x.1) (cb := (c2 cI cI)) (fun _ => ⟨_, rfl, rfl⟩) (d_var 12 (fun q : E2__law_currents_hold => q.2) (c2 (c2 cI cI) (c2 cI cI)) (fun _ => rfl)) d_int) (a_cons (d_tp2 (a_cons d_int (a_cons d_int a_nil))) a_nil)))) (own := [("own", 12)]) (hN := sc__law_currents_hold.nd)).de a_nil)) (hN := sc__law_currents_hold.nd)) (s_cons (s_asg 6 (d_call ((f_way_across T).mono (by decide)) hr hg T.M25 T.F25.kp (b_way_across T) (a_cons (d_var 5 (fun q : E3__law_currents_hold => q.2) (cT (c2 (c2 cI cI) (c2 cI cI))) (fun _ => rfl)) (a_cons (d_var 1 (fun q : E3__law_currents_hold => q.1.1.2.1) (c2 cI cI) (fun _ => rfl)) (a_cons (d_var 2 (fun q : E3__law_currents_hold => q.1.1.2.2.1) (cT (c3 cI cI cI)) (fun _ => rfl)) a_nil)))) (hN := sc__law_currents_hold.nd)) (s_cons (s_asgT (d_tp2 (a_cons (d_tp2 (a_cons d_int (a_cons d_int a_nil))) (a_cons (d_tp2 (a_cons d_int (a_cons d_int a_nil))) a_nil))) (pg_tup rfl (pgs_cons (pg_name (i := 7) sc__law_currents_hold.nd rfl (by first | exact .inl rfl | exact .inr rfl)) (pgs_cons (pg_name (i := 8) sc__law_currents_hold.nd rfl (by first | exact .inl rfl | exact .inr rfl)) pgs_nil))) (tg_pair 7 8)) (s_cons (s_asg 9 (d_call ((f_way_by_bands T).mono (by decide)) hr hg T.M27 T.F27.kp (b_way_by_bands T) (a_cons (d_var 0 (fun q : E5__law_currents_hold => q.1.1.1.1.1) (cT (c2 (c2 cI cI) (c2 cI cI))) (fun _ => rfl)) (a_cons (d_var 1 (fun q : E5__law_currents_hold => q.1.1.1.1.2.1) (c2 cI cI) (fun _ => rfl)) (a_cons (d_var 2 (fun q : E5__law_currents_hold => q.1.1.1.1.2.2.1) (cT (c3 cI cI cI)) (fun _ => rfl)) a_nil)))) (hN := sc__law_currents_hold.nd)) (s_cons (s_forN (ΓL := (fun (e7 : E6__law_currents_hold) (m : E7__law_currents_hold) => [some ((cT (c2 (c2 cI cI) (c2 cI cI))) e7.1.1.1.1.1.1), some ((c2 cI cI) e7.1.1.1.1.1.2.1), some ((cT (c3 cI cI cI)) e7.1.1.1.1.1.2.2.1), some ((c2 cI cI) e7.1.1.1.1.2.1), some ((c2 cI cI) e7.1.1.1.1.2.2), some ((cT (c2 (c2 cI cI) (c2 cI cI))) e7.1.1.1.2), some ((c2 (c2 cI cI) (c2 cI cI)) e7.1.1.2), some ((c2 cI cI) m.1), some ((c2 cI cI) m.2), some ((cT (c3 (c2 cI cI) (c2 cI cI) (c2 cI cI))) e7.2), none, none, none])) (fun q : E6__law_currents_hold => (q.1.2.1, q.1.2.2)) (i_rng1 (a_cons (d_blt call_len_seq (v_len sq_T) T.z_len (by decide +kernel) (a_cons (d_var 0 (fun q : E6__law_currents_hold => q.1.1.1.1.1.1) (cT (c2 (c2 cI cI) (c2 cI cI))) (fun _ => rfl)) a_nil)) a_nil) T.z_range) (fun _ _ _ _ r => r) (pg_name (i := 10) sc__law_currents_hold.nd rfl (by first | exact .inl rfl | exact .inr rfl)) (tg_name 10) (fun e7 : E6__law_currents_hold => (s_cons (s_asg 7 (d_call ((f__law_plus T).mono (by decide)) hr hg T.M39 T.F39.kp (b__law_plus T) (a_cons (d_var 7 (fun q : E8__law_currents_hold => q.1.1) (c2 cI cI) (fun _ => rfl)) (a_cons (d_call ((f__law_mul T).mono (by decide)) hr hg T.M40 T.F40.kp (b__law_mul T) (a_cons (d_call ((f__law_plus T).mono (by decide)) hr hg T.M39 T.F39.kp (b__law_plus T) (a_cons (d_prj 0 (fun x : (Int × Int) × (Int × Int) × (Int × Int) => x.1) (cb := (c2 cI cI)) (fun _ => ⟨_, rfl, rfl⟩) (d_ix ix_tup v_ixT (d_var 9 (fun q : E8__law_currents_hold => e7.2) (cT (c3 (c2 cI cI) (c2 cI cI) (c2 cI cI))) (fun _ => rfl)) (d_var 10 (fun q : E8__law_currents_hold => q.2) cI (fun _ => rfl))) d_int) (a_cons (d_tp2 (a_cons (d_op op_sub v_sub d_int (d_prj 0 (fun x : Int × Int => x.1) (cb := cI) (fun _ => ⟨_, rfl, rfl⟩) (d_var 8 (fun q : E8__law_currents_hold => q.1.2) (c2 cI cI) (fun _ => rfl)) d_int)) (a_cons (d_prj 1 (fun x : Int × Int => x.2) (cb := cI) (fun _ => ⟨_, rfl, rfl⟩) (d_var 8 (fun q : E8__law_currents_hold => q.1.2) (c2 cI cI) (fun _ => rfl)) d_int) a_nil))) a_nil))) (a_cons (d_prj 1 (fun x : (Int × Int) × (Int × Int) => x.2) (cb := (c2 cI cI)) (fun _ => ⟨_, rfl, rfl⟩) (d_ix ix_tup v_ixT (d_var 0 (fun q : E8__law_currents_hold => e7.1.1.1.1.1.1) (cT (c2 (c2 cI cI) (c2 cI cI))) (fun _ => rfl)) (d_var 10 (fun q : E8__law_currents_hold => q.2) cI (fun _ => rfl))) d_int) a_nil))) a_nil))) (hN := sc__law_currents_hold.nd)) (s_cons (s_asg 8 (d_prj 0 (fun x : (Int × Int) × (Int × Int) × (Int × Int) => x.1) (cb := (c2 cI cI)) (fun _ => ⟨_, rfl, rfl⟩) (d_ix ix_tup v_ixT (d_var 9 (fun q : E9__law_currents_hold => e7.2) (cT (c3 (c2 cI cI) (c2 cI cI) (c2 cI cI))) (fun _ => rfl)) (d_var 10 (fun q : E9__law_currents_hold => q.1.2) cI (fun _ => rfl))) d_int) (hN := sc__law_currents_hold.nd)) (s_end (ow2 := []) (Γ2 := (fun m : E7__law_currents_hold => [some ((cT (c2 (c2 cI cI) (c2 cI cI))) e7.1.1.1.1.1.1), some ((c2 cI cI) e7.1.1.1.1.1.2.1), some ((cT (c3 cI cI cI)) e7.1.1.1.1.1.2.2.1), some ((c2 cI cI) e7.1.1.1.1.2.1), some ((c2 cI cI) e7.1.1.1.1.2.2), some ((cT (c2 (c2 cI cI) (c2 cI cI))) e7.1.1.1.2), some ((c2 (c2 cI cI) (c2 cI cI)) e7.1.1.2), some ((c2 cI cI) m.1), some ((c2 cI cI) m.2), some ((cT (c3 (c2 cI cI) (c2 cI cI) (c2 cI cI))) e7.2), none, none, none])) (fun q : E10__law_currents_hold => (q.1.2, q.2)) (fun _ _ _ _ r => r.wk (.k (.k (.k (.k (.k (.k (.k (.k (.k (.k (.f (.k (.k .nil)))))))))))))))))) (fun _ _ => rfl) PassesOwn.never) (s_ifR (t_not (t_val (d_call ((f__law_same_LQ T).mono (by decide)) hr hg T.M37 T.F37.kp (b__law_same T) (a_cons (l_disp (c := (c2 cI cI)) (g := fun x : (Int × Int) × (Int × Int) × (Int × Int) × (Int × Int) × Unit => [x.1, x.2.1, x.2.2.1, x.2.2.2.1]) (fun _ => rfl) (fun _ => Nat.le_of_ble_eq_true rfl) (a_cons (d_prj 0 (fun x : (Int × Int) × (Int × Int) => x.1) (cb := (c2 cI cI)) (fun _ => ⟨_, rfl, rfl⟩) (d_var 6 (fun q : E11__law_currents_hold => q.1.1.1.2) (c2 (c2 cI cI) (c2 cI cI)) (fun _ => rfl)) d_int) (a_cons (d_call ((f__law_plus T).mono (by decide)) hr hg T.M39 T.F39.kp (b__law_plus T) (a_cons (d_prj 1 (fun x : (Int × Int) × (Int × Int) => x.2) (cb := (c2 cI cI)) (fun _ => ⟨_, rfl, rfl⟩) (d_var 6 (fun q : E11__law_currents_hold => q.1.1.1.2) (c2 (c2 cI cI) (c2 cI cI)) (fun _ => rfl)) d_int) (a_cons (d_var 7 (fun q : E11__law_currents_hold => q.2.1) (c2 cI cI) (fun _ => rfl)) a_nil))) (a_cons (d_prj 0 (fun x : (Int × Int) × (Int × Int) × (Int × Int) => x.1) (cb := (c2 cI cI)) (fun _ => ⟨_, rfl, rfl⟩) (d_ix ix_tup v_ixT (d_var 9 (fun q : E11__law_currents_hold => q.1.2) (cT (c3 (c2 cI cI) (c2 cI cI) (c2 cI cI))) (fun _ => rfl)) d_neg1) d_int) (a_cons (d_prj 2 (fun x : (Int × Int) × (Int × Int) × (Int × Int) => x.2.2) (cb := (c2 cI cI)) (fun _ => ⟨_, rfl, rfl⟩) (d_ix ix_tup v_ixT (d_var 9 (fun q : E11__law_currents_hold => q.1.2) (cT (c3 (c2 cI cI) (c2 cI cI) (c2 cI cI))) (fun _ => rfl)) d_neg1) d_int) a_nil))))).de (a_cons (l_disp (c := (c2 cI cI)) (g := fun x : (Int × Int) × (Int × Int) × (Int × Int) × (Int × Int) × Unit => [x.1, x.2.1, x.2.2.1, x.2.2.2.1]) (fun _ => rfl) (fun _ => Nat.le_of_ble_eq_true rfl) (a_cons (d_var 3 (fun q : E11__law_currents_hold => q.1.1.1.1.1.2.1) (c2 cI cI) (fun _ => rfl)) (a_cons (d_var 4 (fun q : E11__law_currents_hold => q.1.1.1.1.1.2.2) (c2 cI cI) (fun _ => rfl)) (a_cons (d_var 3 (fun q : E11__law_currents_hold => q.1.1.1.1.1.2.1) (c2 cI cI) (fun _ => rfl)) (a_cons (d_var 4 (fun q : E11__law_currents_hold => q.1.1.1.1.1.2.2) (c2 cI cI) (fun _ => rfl)) a_nil))))).de a_nil))))) (s_one (s_ret (r := fun v (_ : E11__law_currents_hold) => v) (fun _ _ => rfl) rfl d_bl)) (by intro ε n; (repeat' (first | (intro h; nomatch h) | split))) (s_cons (s_asg 11 (d_call ((f_way_across T).mono (by decide)) hr hg T.M25 T.F25.kp (b_way_across T) (a_cons (d_var 5 (fun q : E11__law_currents_hold => q.1.1.1.1.2) (cT (c2 (c2 cI cI) (c2 cI cI))) (fun _ => rfl)) (a_cons (d_var 1 (fun q : E11__law_currents_hold => q.1.1.1.1.1.1.2.1) (c2 cI cI) (fun _ => rfl)) (a_cons (d_ty call_tuple_of (v_tuple sq_L) T.z_tuple (by decide +kernel) (a_cons (d_lc0 (i_tup (d_var 2 (fun q : E11__law_currents_hold => q.1.1.1.1.1.1.2.2.1) (cT (c3 cI cI cI)) (fun _ => rfl))) (blkOk_by (N := ["bands", "speed", "headings", "time", "drift", "still", "calm", "carried", "ahead", "rows", "k", "other", "own"]) (sc := defScope (topS 44)) (own := [("own", 12)]) (by decide +kernel)) (tg_name 12) (fun _ _ _ _ _ => (pg_name (i := 12) sc__law_currents_hold.nd rfl (by first | exact .inl rfl | exact .inr rfl))) (fun _ _ _ _ _ _ => ((d_op op_catA v_catT ((d_tp1 (a_cons (d_op op_sub v_sub d_int (d_prj 0 (fun x : Int × Int × Int => x.1) (cb := cI) (fun _ => ⟨_, rfl, rfl⟩) (d_var 12 (fun q : E12__law_currents_hold => q.2) (c3 cI cI cI) (fun _ => rfl)) d_int)) a_nil)).as (c' := (cT cI)) (g := fun x : Int => [x]) (fun _ => rfl)) (((d_slT ((d_var 12 (fun q : E12__law_currents_hold => q.2) (c3 cI cI cI) (fun _ => rfl)).as (c' := (cT cI)) (g := fun x : Int × Int × Int => [x.1, x.2.1, x.2.2]) (fun _ => rfl)) (o_some d_int) o_none).asD (c' := (c2 cI cI)) fx2 (fun _ => rfl)).as (c' := (cT cI)) (g := fun x : Int × Int => [x.1, x.2]) (fun _ => rfl))).asD (c' := (c3 cI cI cI)) fx3 (fun _ => rfl))) (own := [("own", 12)]) (hN := sc__law_currents_hold.nd)).de a_nil)) a_nil)))) (hN := sc__law_currents_hold.nd)) (s_one (s_ret (r := fun v (_ : E13__law_currents_hold) => v) (fun _ _ => rfl) rfl (d_call ((f__law_same_QQ T).mono (by decide)) hr hg T.M37 T.F37.kp (b__law_same T) (a_cons (d_var 11 (fun q : E13__law_currents_hold => q.2) (c2 (c2 cI cI) (c2 cI cI)) (fun _ => rfl)) (a_cons (d_tp2 (a_cons (d_var 3 (fun q : E13__law_currents_hold => q.1.1.1.1.1.1.2.1) (c2 cI cI) (fun _ => rfl)) (a_cons (d_tp2 (a_cons (d_op op_sub v_sub d_int (d_prj 0 (fun x : Int × Int => x.1) (cb := cI) (fun _ => ⟨_, rfl, rfl⟩) (d_prj 1 (fun x : (Int × Int) × (Int × Int) => x.2) (cb := (c2 cI cI)) (fun _ => ⟨_, rfl, rfl⟩) (d_var 6 (fun q : E13__law_currents_hold => q.1.1.1.1.2) (c2 (c2 cI cI) (c2 cI cI)) (fun _ => rfl)) d_int) d_int)) (a_cons (d_prj 1 (fun x : Int × Int => x.2) (cb := cI) (fun _ => ⟨_, rfl, rfl⟩) (d_prj 1 (fun x : (Int × Int) × (Int × Int) => x.2) (cb := (c2 cI cI)) (fun _ => ⟨_, rfl, rfl⟩) (d_var 6 (fun q : E13__law_currents_hold => q.1.1.1.1.2) (c2 (c2 cI cI) (c2 cI cI)) (fun _ => rfl)) d_int) d_int) a_nil))) a_nil))) a_nil)))))))))))))
    exact dss_eq key (by kernel_rfl) (by kernel_rfl)) (fun _ h => h) (fun a _ => ends_ret (fun r => r) (fun _ => rfl) (o__law_currents_hold a))
abbrev E0__law_order_holds : Type := ((List ((Int × Int) × (Int × Int))) × (Int × Int) × (List (Int × Int × Int)) × Unit) × St4
abbrev E1__law_order_holds : Type := E0__law_order_holds × ((Int × Int) × (Int × Int))
abbrev E2__law_order_holds : Type := E1__law_order_holds × Int
abbrev E3__law_order_holds : Type := E2__law_order_holds × (Int × Int)
abbrev E4__law_order_holds : Type := E3__law_order_holds × (Int × Int)
abbrev E5__law_order_holds : Type := E4__law_order_holds × (List ((Int × Int) × (Int × Int)))
abbrev E6__law_order_holds : Type := E5__law_order_holds × (Int × Int)
abbrev E7__law_order_holds : Type := E6__law_order_holds × (Int × Int)
abbrev E8__law_order_holds : Type := E7__law_order_holds × ((Int × Int) × (Int × Int))
abbrev E9__law_order_holds : Type := E7__law_order_holds × (List ((Int × Int) × (Int × Int)))
abbrev E10__law_order_holds : Type := E9__law_order_holds × ((Int × Int) × (Int × Int))
abbrev E11__law_order_holds : Type := E9__law_order_holds × (List ((Int × Int) × (Int × Int)))
def o__law_order_holds (a : E0__law_order_holds) : Out Empty ((Bool) × St4) Empty :=
  (let bands := a.1.1; let speed := a.1.2.1; let headings := a.1.2.2.1; (let told1 : (Int × Int) × (Int × Int) := (m_way_across (bands, speed, headings, ())); (if (!((m__law_same_QQ ((m_way_across ((bands.reverse), speed, (headings.reverse), ())), told1, ())))) = true then (Out.rt (false, a.2)) else (let r2 := m__law_draw ((((bands).length : Int), ()), a.2); (let at_3 : Int := r2.1; (let r4 := m__law_draw (((2 : Int), ()), r2.2); (let half5 : Int × Int := (m__law_mul (((ixD bands at_3)).1, ((1 : Int), ((2 : Int) + r4.1)), ())); (let rest_6 : Int × Int := (m__law_plus (((ixD bands at_3)).1, (((0 : Int) - half5.1), half5.2), ())); (let wide7 : List ((Int × Int) × (Int × Int)) := (((cut bands none (some at_3)) ++ [(half5, ((ixD bands at_3)).2), (rest_6, ((ixD bands at_3)).2)]) ++ (cut bands (some ((at_3 + (1 : Int)))) none)); (if (!((m__law_same_X ([((c2 (c2 cI cI) (c2 cI cI)) ((m_way_across (wide7, speed, ((cut headings none (some ((at_3 + (1 : Int))))) ++ (cut headings (some at_3) none)), ())))), ((c2 cI cI) ((m_even_current (wide7, ()))))], [((c2 (c2 cI cI) (c2 cI cI)) told1), ((c2 cI cI) ((m_even_current (bands, ()))))], ())))) = true then (Out.rt (false, r4.2)) else (let r8 := m__law_draw (((5 : Int), ()), r4.2); (let more9 : Int × Int := (((2 : Int) + r8.1), (1 : Int)); (let less10 : Int × Int := ((1 : Int), more9.1); (let broad12 : List ((Int × Int) × (Int × Int)) := (bands.map fun x11 => ((m__law_mul (x11.1, more9, ())), x11.2)); (if (!((m__law_same_QQ ((m_way_across (broad12, speed, headings, ())), ((m__law_mul (told1.1, more9, ())), (m__law_mul (told1.2, more9, ()))), ())))) = true then (Out.rt (false, r8.2)) else (let fast14 : List ((Int × Int) × (Int × Int)) := (bands.map fun x13 => (x13.1, (m__law_mul (x13.2, more9, ())))); (Out.rt ((m__law_same_QQ ((m_way_across (fast14, (m__law_mul (speed, more9, ())), headings, ())), ((m__law_mul (told1.1, less10, ())), told1.2), ())), r8.2))))))))))))))))))
def m__law_order_holds (a : E0__law_order_holds) : (Bool) × St4 := (o__law_order_holds a).ret
def g__law_order_holds (a : E0__law_order_holds) : Prop :=
  (let bands := a.1.1; let speed := a.1.2.1; let headings := a.1.2.2.1; (((True ∧ (True ∧ (True ∧ True))) ∧ (g_way_across (bands, speed, headings, ()))) ∧ (let told1 : (Int × Int) × (Int × Int) := (m_way_across (bands, speed, headings, ())); (((((True ∧ (True ∧ (True ∧ True))) ∧ (g_way_across ((bands.reverse), speed, (headings.reverse), ()))) ∧ (True ∧ True)) ∧ (g__law_same_QQ ((m_way_across ((bands.reverse), speed, (headings.reverse), ())), told1, ()))) ∧ ((!((m__law_same_QQ ((m_way_across ((bands.reverse), speed, (headings.reverse), ())), told1, ())))) = true → True) ∧ ((!((m__law_same_QQ ((m_way_across ((bands.reverse), speed, (headings.reverse), ())), told1, ())))) = false → (let r2 := m__law_draw ((((bands).length : Int), ()), a.2); (((((True ∧ True) ∧ True) ∧ True) ∧ (g__law_draw ((((bands).length : Int), ()), a.2))) ∧ (let at_3 : Int := r2.1; (let r4 := m__law_draw (((2 : Int), ()), r2.2); ((((True ∧ True ∧ (CIx bands at_3)) ∧ ((True ∧ ((True ∧ ((True ∧ True) ∧ (g__law_draw (((2 : Int), ()), r2.2))) ∧ True) ∧ True)) ∧ True)) ∧ (g__law_mul (((ixD bands at_3)).1, ((1 : Int), ((2 : Int) + r4.1)), ()))) ∧ (let half5 : Int × Int := (m__law_mul (((ixD bands at_3)).1, ((1 : Int), ((2 : Int) + r4.1)), ())); ((((True ∧ True ∧ (CIx bands at_3)) ∧ (((True ∧ True ∧ True) ∧ (True ∧ True)) ∧ True)) ∧ (g__law_plus (((ixD bands at_3)).1, (((0 : Int) - half5.1), half5.2), ()))) ∧ (let rest_6 : Int × Int := (m__law_plus (((ixD bands at_3)).1, (((0 : Int) - half5.1), half5.2), ())); ((((True ∧ True ∧ True) ∧ ((True ∧ ((True ∧ True ∧ (CIx bands at_3)) ∧ True)) ∧ ((True ∧ ((True ∧ True ∧ (CIx bands at_3)) ∧ True)) ∧ True)) ∧ (((cut bands none (some at_3))).length + ([(half5, ((ixD bands at_3)).2), (rest_6, ((ixD bands at_3)).2)]).length ≤ 16777216)) ∧ (True ∧ (True ∧ True ∧ True) ∧ True) ∧ ((((cut bands none (some at_3)) ++ [(half5, ((ixD bands at_3)).2), (rest_6, ((ixD bands at_3)).2)])).length + ((cut bands (some ((at_3 + (1 : Int)))) none)).length ≤ 16777216)) ∧ (let wide7 : List ((Int × Int) × (Int × Int)) := (((cut bands none (some at_3)) ++ [(half5, ((ixD bands at_3)).2), (rest_6, ((ixD bands at_3)).2)]) ++ (cut bands (some ((at_3 + (1 : Int)))) none)); ((((((True ∧ (True ∧ (((True ∧ True ∧ (True ∧ True ∧ True)) ∧ (True ∧ True ∧ True) ∧ (((cut headings none (some ((at_3 + (1 : Int)))))).length + ((cut headings (some at_3) none)).length ≤ 16777216)) ∧ True))) ∧ (g_way_across (wide7, speed, ((cut headings none (some ((at_3 + (1 : Int))))) ++ (cut headings (some at_3) none)), ()))) ∧ (((True ∧ True) ∧ (g_even_current (wide7, ()))) ∧ True)) ∧ ((True ∧ (((True ∧ True) ∧ (g_even_current (bands, ()))) ∧ True)) ∧ True)) ∧ (g__law_same_X ([((c2 (c2 cI cI) (c2 cI cI)) ((m_way_across (wide7, speed, ((cut headings none (some ((at_3 + (1 : Int))))) ++ (cut headings (some at_3) none)), ())))), ((c2 cI cI) ((m_even_current (wide7, ()))))], [((c2 (c2 cI cI) (c2 cI cI)) told1), ((c2 cI cI) ((m_even_current (bands, ()))))], ()))) ∧ ((!((m__law_same_X ([((c2 (c2 cI cI) (c2 cI cI)) ((m_way_across (wide7, speed, ((cut headings none (some ((at_3 + (1 : Int))))) ++ (cut headings (some at_3) none)), ())))), ((c2 cI cI) ((m_even_current (wide7, ()))))], [((c2 (c2 cI cI) (c2 cI cI)) told1), ((c2 cI cI) ((m_even_current (bands, ()))))], ())))) = true → True) ∧ ((!((m__law_same_X ([((c2 (c2 cI cI) (c2 cI cI)) ((m_way_across (wide7, speed, ((cut headings none (some ((at_3 + (1 : Int))))) ++ (cut headings (some at_3) none)), ())))), ((c2 cI cI) ((m_even_current (wide7, ()))))], [((c2 (c2 cI cI) (c2 cI cI)) told1), ((c2 cI cI) ((m_even_current (bands, ()))))], ())))) = false → (let r8 := m__law_draw (((5 : Int), ()), r4.2); (((True ∧ ((True ∧ True) ∧ (g__law_draw (((5 : Int), ()), r4.2))) ∧ True) ∧ (True ∧ True)) ∧ (let more9 : Int × Int := (((2 : Int) + r8.1), (1 : Int)); ((True ∧ (True ∧ True)) ∧ (let less10 : Int × Int := ((1 : Int), more9.1); ((((True ∧ (∀ x11 ∈ bands, (((True ∧ (True ∧ True)) ∧ (g__law_mul (x11.1, more9, ()))) ∧ (True ∧ True)))) ∧ True) ∧ True) ∧ (let broad12 : List ((Int × Int) × (Int × Int)) := (bands.map fun x11 => ((m__law_mul (x11.1, more9, ())), x11.2)); (((((True ∧ (True ∧ (True ∧ True))) ∧ (g_way_across (broad12, speed, headings, ()))) ∧ ((((True ∧ (True ∧ True)) ∧ (g__law_mul (told1.1, more9, ()))) ∧ (((True ∧ (True ∧ True)) ∧ (g__law_mul (told1.2, more9, ()))) ∧ True)) ∧ True)) ∧ (g__law_same_QQ ((m_way_across (broad12, speed, headings, ())), ((m__law_mul (told1.1, more9, ())), (m__law_mul (told1.2, more9, ()))), ()))) ∧ ((!((m__law_same_QQ ((m_way_across (broad12, speed, headings, ())), ((m__law_mul (told1.1, more9, ())), (m__law_mul (told1.2, more9, ()))), ())))) = true → True) ∧ ((!((m__law_same_QQ ((m_way_across (broad12, speed, headings, ())), ((m__law_mul (told1.1, more9, ())), (m__law_mul (told1.2, more9, ()))), ())))) = false → ((((True ∧ (∀ x13 ∈ bands, (True ∧ (((True ∧ (True ∧ True)) ∧ (g__law_mul (x13.2, more9, ()))) ∧ True)))) ∧ True) ∧ True) ∧ (let fast14 : List ((Int × Int) × (Int × Int)) := (bands.map fun x13 => (x13.1, (m__law_mul (x13.2, more9, ())))); ((((True ∧ (((True ∧ (True ∧ True)) ∧ (g__law_mul (speed, more9, ()))) ∧ (True ∧ True))) ∧ (g_way_across (fast14, (m__law_mul (speed, more9, ())), headings, ()))) ∧ ((((True ∧ (True ∧ True)) ∧ (g__law_mul (told1.1, less10, ()))) ∧ (True ∧ True)) ∧ True)) ∧ (g__law_same_QQ ((m_way_across (fast14, (m__law_mul (speed, more9, ())), headings, ())), ((m__law_mul (told1.1, less10, ())), told1.2), ())))))))))))))))))))))))))))))))
theorem sc__law_order_holds : FnScope ["state", "bands", "speed", "headings", "told", "at", "half", "rest", "wide", "more", "less", "broad", "fast", "own"] ["state", "bands", "speed", "headings"] (defScope (topS 45)) := ⟨rfl, rfl, rfl, by decide +kernel, rfl, by decide +kernel, by decide +kernel⟩
theorem b__law_order_holds {K : Y.Frag} {mg : Str → Option Value} {ad : Nat → Addr} {fd : Nat → FuncData} (T : Tx K mg ad fd) : Binds K (fd 45) ["state", "bands", "speed", "headings"] [] := T.F45.binds (ps := ["state", "bands", "speed", "headings"]) fun _ _ _ _ _ _ us hl => match us, hl with | [_, _, _, _], _ => rfl
theorem f__law_order_holds {P : Program} {w : World} {K : Y.Frag} {mg : Str → Option Value} {base : Heap} {ad : Nat → Addr} {fd : Nat → FuncData} (T : Tx K mg ad fd) : FnG P w K mg base 8 (ad 45) (fd 45) ["state", "bands", "speed", "headings"] (spS K (ac (cT (c2 (c2 cI cI) (c2 cI cI))) (ac (c2 cI cI) (ac (cT (c3 cI cI cI)) an))) cSt cB g__law_order_holds m__law_order_holds) :=
  fn_state T.F45 sc__law_order_holds 10 (fun _ => rfl) rfl (owS := []) (ow' := []) (ΓS := fun _ : Empty => []) (Γ' := fun _ : Empty => []) (cr := fun r : (Bool) × St4 => cB r.1) (ci := fun r : (Bool) × St4 => cSt r.2) (G := g__law_order_holds) (d := o__law_order_holds) (fun A0 p cdv A outer s H E hr hg => by
    have hu : (A.deeper (envOfC _ (defScope (topS 45)) s.heap.objs.size _ cdv)).units + 64 < cLine := Nat.lt_of_le_of_lt (Nat.add_le_add_left (by decide) _) (room_un hr)
    have key : Dss (XF P w K mg base ["state", "bands", "speed", "headings", "told", "at", "half", "rest", "wide", "more", "less", "broad", "fast", "own"] "_law_order_holds" (topS 45) (ad 45) cdv A outer s H E) ⟨A0, [], some p⟩ [0] (fun a : E0__law_order_holds => some (.list (cSt a.2)) :: (((ac (cT (c2 (c2 cI cI) (c2 cI cI))) (ac (c2 cI cI) (ac (cT (c3 cI cI cI)) an))) a.1).map some ++ List.replicate 10 none)) (fun r : (Bool) × St4 => cB r.1) (fun r : (Bool) × St4 => cSt r.2) [] (fun _ : Empty => []) (defBody (topS 45)) _ _ [] (fun _ : Empty => []) := (s_cons (s_asg 4 (d_call ((f_way_across T).mono (by decide)) hr hg T.M25 T.F25.kp (b_way_across T) (a_cons (d_var 1 (fun q : E0__law_order_holds => q.1.1) (cT (c2 (c2 cI cI) (c2 cI cI))) (fun _ => rfl)) (a_cons (d_var 2 (fun q : E0__law_order_holds => q.1.2.1) (c2 cI cI) (fun _ => rfl)) (a_cons (d_var 3 (fun q : E0__law_order_holds => q.1.2.2.1) (cT (c3 cI cI cI)) (fun _ => rfl)) a_nil)))) (hN := sc__law_order_holds.nd)) (s_ifR (t_not (t_val (d_call ((f__law_same_QQ T).mono (by decide)) hr hg T.M37 T.F37.kp (b__law_same T) (a_cons (d_call ((f_way_across T).mono (by decide)) hr hg T.M25 T.F25.kp (b_way_across T) (a_cons (d_revT (d_var 1 (fun q : E1__law_order_holds => q.1.1.1) (cT (c2 (c2 cI cI) (c2 cI cI))) (fun _ => rfl))) (a_cons (d_var 2 (fun q : E1__law_order_holds => q.1.1.2.1) (c2 cI cI) (fun _ => rfl)) (a_cons (d_revT (d_var 3 (fun q : E1__law_order_holds => q.1.1.2.2.1) (cT (c3 cI cI cI)) (fun _ => rfl))) a_nil)))) (a_cons (d_var 4 (fun q : E1__law_order_holds => q.2) (c2 (c2 cI cI) (c2 cI cI)) (fun _ => rfl)) a_nil))))) (s_one (s_retS (r := fun v (q : E1__law_order_holds) => (v, q.1.2)) (fun _ _ => rfl) (fun _ _ => rfl) d_bl)) (by intro ε n; (repeat' (first | (intro h; nomatch h) | split))) (s_cons (s_asg 5 (d_callS 0 (fun q : E1__law_order_holds => q.1.2) (fun (q : E1__law_order_holds) t => ((q.1.1, t), q.2)) (fun _ => rfl) (fun _ _ => rfl) ((f__law_draw T).mono (by decide)) hr hg T.M35 T.F35.kp (b__law_draw T) (a_cons (d_blt call_len_seq (v_len sq_T) T.z_len (by decide +kernel) (a_cons (d_var 1 (fun q : E1__law_order_holds => q.1.1.1) (cT (c2 (c2 cI cI) (c2 cI cI))) (fun _ => rfl)) a_nil)) a_nil)) (hN := sc__law_order_holds.nd)) (s_cons (s_asg 6 (d_call ((f__law_mul T).mono (by decide)) hr hg T.M40 T.F40.kp (b__law_mul T) (a_cons (d_prj 0 (fun x : (Int × Int) × (Int × Int) => x.1) (cb := (c2 cI cI)) (fun _ => ⟨_, rfl, rfl⟩) (d_ix ix_tup v_ixT (d_var 1 (fun q : E2__law_order_holds => q.1.1.1.1) (cT (c2 (c2 cI cI) (c2 cI cI))) (fun _ => rfl)) (d_var 5 (fun q : E2__law_order_holds => q.2) cI (fun _ => rfl))) d_int) (a_cons (d_tp2 (a_cons d_int (a_cons (d_op op_add v_add d_int (d_callS 0 (fun q : E2__law_order_holds => q.1.1.2) (fun (q : E2__law_order_holds) t => (((q.1.1.1, t), q.1.2), q.2)) (fun _ => rfl) (fun _ _ => rfl) ((f__law_draw T).mono (by decide)) hr hg T.M35 T.F35.kp (b__law_draw T) (a_cons d_int a_nil))) a_nil))) a_nil))) (hN := sc__law_order_holds.nd)) (s_cons (s_asg 7 (d_call ((f__law_plus T).mono (by decide)) hr hg T.M39 T.F39.kp (b__law_plus T) (a_cons (d_prj 0 (fun x : (Int × Int) × (Int × Int) => x.1) (cb := (c2 cI cI)) (fun _ => ⟨_, rfl, rfl⟩) (d_ix ix_tup v_ixT (d_var 1 (fun q : E3__law_order_holds => q.1.1.1.1.1) (cT (c2 (c2 cI cI) (c2 cI cI))) (fun _ => rfl)) (d_var 5 (fun q : E3__law_order_holds => q.1.2) cI (fun _ => rfl))) d_int) (a_cons (d_tp2 (a_cons (d_op op_sub v_sub d_int (d_prj 0 (fun x : Int × Int => x.1) (cb := cI) (fun _ => ⟨_, rfl, rfl⟩) (d_var 6 (fun q : E3__law_order_holds => q.2) (c2 cI cI) (fun _ => rfl)) d_int)) (a_cons (d_prj 1 (fun x : Int × Int => x.2) (cb := cI) (fun _ => ⟨_, rfl, rfl⟩) (d_var 6 (fun q : E3__law_order_holds => q.2) (c2 cI cI) (fun _ => rfl)) d_int) a_nil))) a_nil))) (hN := sc__law_order_holds.nd)) (s_cons (s_asg 8 (d_op op_catA v_catT (d_op op_catA v_catT (d_slT (d_var 1 (fun q : E4__law_order_holds => q.1.1.1.1.1.1) (cT (c2 (c2 cI cI) (c2 cI cI))) (fun _ => rfl)) o_none (o_some (d_var 5 (fun q : E4__law_order_holds => q.1.1.2) cI (fun _ => rfl)))) (d_tpT (a := (c2 (c2 cI cI) (c2 cI cI))) (fun x : ((Int × Int) × (Int × Int)) × ((Int × Int) × (Int × Int)) × Unit => [x.1, x.2.1]) (fun _ => rfl) (fun _ => Nat.le_of_ble_eq_true rfl) (a_cons (d_tp2 (a_cons (d_var 6 (fun q : E4__law_order_holds => q.1.2) (c2 cI cI) (fun _ => rfl)) (a_cons (d_prj 1 (fun x : (Int × Int) × (Int × Int) => x.2) (cb := (c2 cI cI)) (fun _ => ⟨_, rfl, rfl⟩) (d_ix ix_tup v_ixT (d_var 1 (fun q : E4__law_order_holds => q.1.1.1.1.1.1) (cT (c2 (c2 cI cI) (c2 cI cI))) (fun _ => rfl)) (d_var 5 (fun q : E4__law_order_holds => q.1.1.2) cI (fun _ => rfl))) d_int) a_nil))) (a_cons (d_tp2 (a_cons (d_var 7 (fun q : E4__law_order_holds => q.2) (c2 cI cI) (fun _ => rfl)) (a_cons (d_prj 1 (fun x : (Int × Int) × (Int × Int) => x.2) (cb := (c2 cI cI)) (fun _ => ⟨_, rfl, rfl⟩) (d_ix ix_tup v_ixT (d_var 1 (fun q : E4__law_order_holds => q.1.1.1.1.1.1) (cT (c2 (c2 cI cI) (c2 cI cI))) (fun _ => rfl)) (d_var 5 (fun q : E4__law_order_holds => q.1.1.2) cI (fun _ => rfl))) d_int) a_nil))) a_nil)))) (d_slT (d_var 1 (fun q : E4__law_order_holds => q.1.1.1.1.1.1) (cT (c2 (c2 cI cI) (c2 cI cI))) (fun _ => rfl)) (o_some (d_op op_add v_add (d_var 5 (fun q : E4__law_order_holds => q.1.1.2) cI (fun _ => rfl)) d_int)) o_none)) (hN := sc__law_order_holds.nd)) (s_ifR (t_not (t_val (d_call ((f__law_same_X T).mono (by decide)) hr hg T.M37 T.F37.kp (b__law_same T) (a_cons (l_disp (c := cD) (g := fun x : PyData × PyData × Unit => [x.1, x.2.1]) (fun _ => rfl) (fun _ => Nat.le_of_ble_eq_true rfl) (a_cons ((d_call ((f_way_across T).mono (by decide)) hr hg T.M25 T.F25.kp (b_way_across T) (a_cons (d_var 8 (fun q : E5__law_order_holds => q.2) (cT (c2 (c2 cI cI) (c2 cI cI))) (fun _ => rfl)) (a_cons (d_var 2 (fun q : E5__law_order_holds => q.1.1.1.1.1.1.2.1) (c2 cI cI) (fun _ => rfl)) (a_cons (d_op op_catA v_catT (d_slT (d_var 3 (fun q : E5__law_order_holds => q.1.1.1.1.1.1.2.2.1) (cT (c3 cI cI cI)) (fun _ => rfl)) o_none (o_some (d_op op_add v_add (d_var 5 (fun q : E5__law_order_holds => q.1.1.1.2) cI (fun _ => rfl)) d_int))) (d_slT (d_var 3 (fun q : E5__law_order_holds => q.1.1.1.1.1.1.2.2.1) (cT (c3 cI cI cI)) (fun _ => rfl)) (o_some (d_var 5 (fun q : E5__law_order_holds => q.1.1.1.2) cI (fun _ => rfl))) o_none)) a_nil)))).as (c' := cD) (g := fun x : (Int × Int) × (Int × Int) => ((c2 (c2 cI cI) (c2 cI cI)) x)) (fun _ => rfl)) (a_cons ((d_call ((f_even_current T).mono (by decide)) hr hg T.M31 T.F31.kp (b_even_current T) (a_cons (d_var 8 (fun q : E5__law_order_holds => q.2) (cT (c2 (c2 cI cI) (c2 cI cI))) (fun _ => rfl)) a_nil)).as (c' := cD) (g := fun x : Int × Int => ((c2 cI cI) x)) (fun _ => rfl)) a_nil))).de (a_cons (l_disp (c := cD) (g := fun x : PyData × PyData × Unit => [x.1, x.2.1]) (fun _ => rfl) (fun _ => Nat.le_of_ble_eq_true rfl) (a_cons ((d_var 4 (fun q : E5__law_order_holds => q.1.1.1.1.2) (c2 (c2 cI cI) (c2 cI cI)) (fun _ => rfl)).as (c' := cD) (g := fun x : (Int × Int) × (Int × Int) => ((c2 (c2 cI cI) (c2 cI cI)) x)) (fun _ => rfl)) (a_cons ((d_call ((f_even_current T).mono (by decide)) hr hg T.M31 T.F31.kp (b_even_current T) (a_cons (d_var 1 (fun q : E5__law_order_holds => q.1.1.1.1.1.1.1) (cT (c2 (c2 cI cI) (c2 cI cI))) (fun _ => rfl)) a_nil)).as (c' := cD) (g := fun x : Int × Int => ((c2 cI cI) x)) (fun _ => rfl)) a_nil))).de a_nil))))) (s_one (s_retS (r := fun v (q : E5__law_order_holds) => (v, q.1.1.1.1.1.2)) (fun _ _ => rfl) (fun _ _ => rfl) d_bl)) (by intro ε n; (repeat' (first | (intro h; nomatch h) | split))) (s_cons (s_asg 9 (d_tp2 (a_cons (d_op op_add v_add d_int (d_callS 0 (fun q : E5__law_order_holds => q.1.1.1.1.1.2) (fun (q : E5__law_order_holds) t => ((((((q.1.1.1.1.1.1, t), q.1.1.1.1.2), q.1.1.1.2), q.1.1.2), q.1.2), q.2)) (fun _ => rfl) (fun _ _ => rfl) ((f__law_draw T).mono (by decide)) hr hg T.M35 T.F35.kp (b__law_draw T) (a_cons d_int a_nil))) (a_cons d_int a_nil))) (hN := sc__law_order_holds.nd)) (s_cons (s_asg 10 (d_tp2 (a_cons d_int (a_cons (d_prj 0 (fun x : Int × Int => x.1) (cb := cI) (fun _ => ⟨_, rfl, rfl⟩) (d_var 9 (fun q : E6__law_order_holds => q.2) (c2 cI cI) (fun _ => rfl)) d_int) a_nil))) (hN := sc__law_order_holds.nd)) (s_cons (s_asg 11 (d_ty call_tuple_of (v_tuple sq_L) T.z_tuple (by decide +kernel) (a_cons (d_lc0 (i_tup (d_var 1 (fun q : E7__law_order_holds => q.1.1.1.1.1.1.1.1.1) (cT (c2 (c2 cI cI) (c2 cI cI))) (fun _ => rfl))) (blkOk_by (N := ["state", "bands", "speed", "headings", "told", "at", "half", "rest", "wide", "more", "less", "broad", "fast", "own"]) (sc := defScope (topS 45)) (own := [("own", 13)]) (by decide +kernel)) (tg_name 13) (fun _ _ _ _ _ => (pg_name (i := 13) sc__law_order_holds.nd rfl (by first | exact .inl rfl | exact .inr rfl))) (fun _ _ _ _ _ _ => (d_tp2 (a_cons (d_call ((f__law_mul T).mono (by decide)) hr hg T.M40 T.F40.kp (b__law_mul T) (a_cons (d_prj 0 (fun x : (Int × Int) × (Int × Int) => x.1) (cb := (c2 cI cI)) (fun _ => ⟨_, rfl, rfl⟩) (d_var 13 (fun q : E8__law_order_holds => q.2) (c2 (c2 cI cI) (c2 cI cI)) (fun _ => rfl)) d_int) (a_cons (d_var 9 (fun q : E8__law_order_holds => q.1.1.2) (c2 cI cI) (fun _ => rfl)) a_nil))) (a_cons (d_prj 1 (fun x : (Int × Int) × (Int × Int) => x.2) (cb := (c2 cI cI)) (fun _ => ⟨_, rfl, rfl⟩) (d_var 13 (fun q : E8__law_order_holds => q.2) (c2 (c2 cI cI) (c2 cI cI)) (fun _ => rfl)) d_int) a_nil)))) (own := [("own", 13)]) (hN := sc__law_order_holds.nd)).de a_nil)) (hN := sc__law_order_holds.nd)) (s_ifR (t_not (t_val (d_call ((f__law_same_QQ T).mono (by decide)) hr hg T.M37 T.F37.kp (b__law_same T) (a_cons (d_call ((f_way_across T).mono (by decide)) hr hg T.M25 T.F25.kp (b_way_across T) (a_cons (d_var 11 (fun q : E9__law_order_holds => q.2) (cT (c2 (c2 cI cI) (c2 cI cI))) (fun _ => rfl)) (a_cons (d_var 2 (fun q : E9__law_order_holds => q.1.1.1.1.1.1.1.1.1.2.1) (c2 cI cI) (fun _ => rfl)) (a_cons (d_var 3 (fun q : E9__law_order_holds => q.1.1.1.1.1.1.1.1.1.2.2.1) (cT (c3 cI cI cI)) (fun _ => rfl)) a_nil)))) (a_cons (d_tp2 (a_cons (d_call ((f__law_mul T).mono (by decide)) hr hg T.M40 T.F40.kp (b__law_mul T) (a_cons (d_prj 0 (fun x : (Int × Int) × (Int × Int) => x.1) (cb := (c2 cI cI)) (fun _ => ⟨_, rfl, rfl⟩) (d_var 4 (fun q : E9__law_order_holds => q.1.1.1.1.1.1.1.2) (c2 (c2 cI cI) (c2 cI cI)) (fun _ => rfl)) d_int) (a_cons (d_var 9 (fun q : E9__law_order_holds => q.1.1.2) (c2 cI cI) (fun _ => rfl)) a_nil))) (a_cons (d_call ((f__law_mul T).mono (by decide)) hr hg T.M40 T.F40.kp (b__law_mul T) (a_cons (d_prj 1 (fun x : (Int × Int) × (Int × Int) => x.2) (cb := (c2 cI cI)) (fun _ => ⟨_, rfl, rfl⟩) (d_var 4 (fun q : E9__law_order_holds => q.1.1.1.1.1.1.1.2) (c2 (c2 cI cI) (c2 cI cI)) (fun _ => rfl)) d_int) (a_cons (d_var 9 (fun q : E9__law_order_holds => q.1.1.2) (c2 cI cI) (fun _ => rfl)) a_nil))) a_nil))) a_nil))))) (s_one (s_retS (r := fun v (q : E9__law_order_holds) => (v, q.1.1.1.1.1.1.1.1.2)) (fun _ _ => rfl) (fun _ _ => rfl) d_bl)) (by intro ε n; (repeat' (first | (intro h; nomatch h) | split))) (s_cons (s_asg 12 (d_ty call_tuple_of (v_tuple sq_L) T.z_tuple (by decide +kernel) (a_cons (d_lc0 (i_tup (d_var 1 (fun q : E9__law_order_holds => q.1.1.1.1.1.1.1.1.1.1) (cT (c2 (c2 cI cI) (c2 cI cI))) (fun _ => rfl))) (blkOk_by (N := ["state", "bands", "speed", "headings", "told", "at", "half", "rest", "wide", "more", "less", "broad", "fast", "own"]) (sc := defScope (topS 45)) (own := [("own", 13)]) (by decide +kernel)) (tg_name 13) (fun _ _ _ _ _ => (pg_name (i := 13) sc__law_order_holds.nd rfl (by first | exact .inl rfl | exact .inr rfl))) (fun _ _ _ _ _ _ => (d_tp2 (a_cons (d_prj 0 (fun x : (Int × Int) × (Int × Int) => x.1) (cb := (c2 cI cI)) (fun _ => ⟨_, rfl, rfl⟩) (d_var 13 (fun q : E10__law_order_holds => q.2) (c2 (c2 cI cI) (c2 cI cI)) (fun _ => rfl)) d_int) (a_cons (d_call ((f__law_mul T).mono (by decide)) hr hg T.M40 T.F40.kp (b__law_mul T) (a_cons (d_prj 1 (fun x : (Int × Int) × (Int × Int) => x.2) (cb := (c2 cI cI)) (fun _ => ⟨_, rfl, rfl⟩) (d_var 13 (fun q : E10__law_order_holds => q.2) (c2 (c2 cI cI) (c2 cI cI)) (fun _ => rfl)) d_int) (a_cons (d_var 9 (fun q : E10__law_order_holds => q.1.1.1.2) (c2 cI cI) (fun _ => rfl)) a_nil))) a_nil)))) (own := [("own", 13)]) (hN := sc__law_order_holds.nd)).de a_nil)) (hN := sc__law_order_holds.nd)) (s_one (s_retS (r := fun v (q : E11__law_order_holds) => (v, q.1.1.1.1.1.1.1.1.1.2)) (fun _ _ => rfl) (fun _ _ => rfl) (d_call ((f__law_same_QQ T).mono (by decide)) hr hg T.M37 T.F37.kp (b__law_same T) (a_cons (d_call ((f_way_across T).mono (by decide)) hr hg T.M25 T.F25.kp (b_way_across T) (a_cons (d_var 12 (fun q : E11__law_order_holds => q.2) (cT (c2 (c2 cI cI) (c2 cI cI))) (fun _ => rfl)) (a_cons (d_call ((f__law_mul T).mono (by decide)) hr hg T.M40 T.F40.kp (b__law_mul T) (a_cons (d_var 2 (fun q : E11__law_order_holds => q.1.1.1.1.1.1.1.1.1.1.2.1) (c2 cI cI) (fun _ => rfl)) (a_cons (d_var 9 (fun q : E11__law_order_holds => q.1.1.1.2) (c2 cI cI) (fun _ => rfl)) a_nil))) (a_cons (d_var 3 (fun q : E11__law_order_holds => q.1.1.1.1.1.1.1.1.1.1.2.2.1) (cT (c3 cI cI cI)) (fun _ => rfl)) a_nil)))) (a_cons (d_tp2 (a_cons (d_call ((f__law_mul T).mono (by decide)) hr hg T.M40 T.F40.kp (b__law_mul T) (a_cons (d_prj 0 (fun x : (Int × Int) × (Int × Int) => x.1) (cb := (c2 cI cI)) (fun _ => ⟨_, rfl, rfl⟩) (d_var 4 (fun q : E11__law_order_holds => q.1.1.1.1.1.1.1.1.2) (c2 (c2 cI cI) (c2 cI cI)) (fun _ => rfl)) d_int) (a_cons (d_var 10 (fun q : E11__law_order_holds => q.1.1.2) (c2 cI cI) (fun _ => rfl)) a_nil))) (a_cons (d_prj 1 (fun x : (Int × Int) × (Int × Int) => x.2) (cb := (c2 cI cI)) (fun _ => ⟨_, rfl, rfl⟩) (d_var 4 (fun q : E11__law_order_holds => q.1.1.1.1.1.1.1.1.2) (c2 (c2 cI cI) (c2 cI cI)) (fun _ => rfl)) d_int) a_nil))) a_nil)))))))))))))))))
    exact dss_eq key (by kernel_rfl) (by kernel_rfl)) (fun _ h => h) (fun a _ => ret_ex (o__law_order_holds a))
abbrev E0__law_goals_hold : Type := ((List ((Int × Int) × (Int × Int))) × (Int × Int) × (List (Int × Int × Int)) × Unit) × St4
abbrev E1__law_goals_hold : Type := E0__law_goals_hold × (Int × Int)
abbrev E2__law_goals_hold : Type := E1__law_goals_hold × (Int × Int)
abbrev E3__law_goals_hold : Type := E2__law_goals_hold × (Int × Int)
abbrev E4__law_goals_hold : Type := E3__law_goals_hold × (List (PySem.Str × (Int × Int)))
abbrev E5__law_goals_hold : Type := E4__law_goals_hold × ((Int × Int) × (Int × Int))
abbrev E6__law_goals_hold : Type := E5__law_goals_hold × (Int × Int)
abbrev E7__law_goals_hold : Type := Int × Int
abbrev E8__law_goals_hold : Type := E7__law_goals_hold × ((Int × Int) × (Int × Int))
abbrev E9__law_goals_hold : Type := E8__law_goals_hold × (Int × Int)
abbrev E10__law_goals_hold : Type := E6__law_goals_hold × E7__law_goals_hold
def k1__law_goals_hold (q9 : E8__law_goals_hold) : E7__law_goals_hold :=
  (let width10 : Int × Int := (m__law_plus (q9.1, q9.2.1, ())); width10)
def kg1__law_goals_hold (q9 : E8__law_goals_hold) : Prop :=
  (((True ∧ (True ∧ True)) ∧ (g__law_plus (q9.1, q9.2.1, ()))) ∧ (let width10 : Int × Int := (m__law_plus (q9.1, q9.2.1, ())); True))
def o__law_goals_hold (a : E0__law_goals_hold) : Out Empty ((Bool) × St4) Empty :=
  (let bands := a.1.1; let speed := a.1.2.1; let headings := a.1.2.2.1; (let r1 := m__law_number (((0 : Int), ()), a.2); (let drift2 : Int × Int := ((m_way_across (bands, speed, headings, ()))).2; let goal3 : Int × Int := r1.1; (if (!((m__law_same_Q ((m__law_plus ((m_start_for (bands, speed, headings, goal3, ())), drift2, ())), goal3, ())))) = true then (Out.rt (false, r1.2)) else (let more4 : Int × Int := (m__law_plus (drift2, ((1 : Int), (1 : Int)), ())); (let told5 : List (PySem.Str × (Int × Int)) := [(m_judge_landing (bands, speed, headings, drift2, drift2, ())), (m_judge_landing (bands, speed, headings, more4, more4, ()))]; (if ((!((m__law_same_LL (told5, [((PySem.Str.ofString "lands"), drift2), ((PySem.Str.ofString "short"), ((1 : Int), (1 : Int)))], ())))) || (!((m__law_same_QQ ((m_drift_between ([more4, drift2, more4], ())), (drift2, more4), ()))))) = true then (Out.rt (false, r1.2)) else (let over_v6 : (Int × Int) × (Int × Int) := (m_way_across (bands, speed, (repI [((0 : Int), (1 : Int), (1 : Int))] ((bands).length : Int)), ())); (let width7 : Int × Int := ((0 : Int), (1 : Int)); (let l11 : E7__law_goals_hold := (bands.foldl (fun m x => k1__law_goals_hold (m, x)) width7); (Out.rt (((m__law_same_LQ ([(m_least_time (bands, speed, ())), (m__law_mul (over_v6.1, (m__law_mul ((m_even_current (bands, ())), ((1 : Int), (1 : Int)), ())), ()))], [over_v6.1, over_v6.2], ())) && (m__law_same_Q ((m__law_mul (over_v6.1, speed, ())), l11, ()))), r1.2))))))))))))
def m__law_goals_hold (a : E0__law_goals_hold) : (Bool) × St4 := (o__law_goals_hold a).ret
def g__law_goals_hold (a : E0__law_goals_hold) : Prop :=
  (let bands := a.1.1; let speed := a.1.2.1; let headings := a.1.2.2.1; (let r1 := m__law_number (((0 : Int), ()), a.2); ((((True ∧ (True ∧ (True ∧ True))) ∧ (g_way_across (bands, speed, headings, ()))) ∧ (((True ∧ True) ∧ (g__law_number (((0 : Int), ()), a.2))) ∧ True)) ∧ (let drift2 : Int × Int := ((m_way_across (bands, speed, headings, ()))).2; let goal3 : Int × Int := r1.1; (((((((True ∧ (True ∧ (True ∧ (True ∧ True)))) ∧ (g_start_for (bands, speed, headings, goal3, ()))) ∧ (True ∧ True)) ∧ (g__law_plus ((m_start_for (bands, speed, headings, goal3, ())), drift2, ()))) ∧ (True ∧ True)) ∧ (g__law_same_Q ((m__law_plus ((m_start_for (bands, speed, headings, goal3, ())), drift2, ())), goal3, ()))) ∧ ((!((m__law_same_Q ((m__law_plus ((m_start_for (bands, speed, headings, goal3, ())), drift2, ())), goal3, ())))) = true → True) ∧ ((!((m__law_same_Q ((m__law_plus ((m_start_for (bands, speed, headings, goal3, ())), drift2, ())), goal3, ())))) = false → (((True ∧ ((True ∧ (True ∧ True)) ∧ True)) ∧ (g__law_plus (drift2, ((1 : Int), (1 : Int)), ()))) ∧ (let more4 : Int × Int := (m__law_plus (drift2, ((1 : Int), (1 : Int)), ())); ((((True ∧ (True ∧ (True ∧ (True ∧ (True ∧ True))))) ∧ (g_judge_landing (bands, speed, headings, drift2, drift2, ()))) ∧ (((True ∧ (True ∧ (True ∧ (True ∧ (True ∧ True))))) ∧ (g_judge_landing (bands, speed, headings, more4, more4, ()))) ∧ True)) ∧ (let told5 : List (PySem.Str × (Int × Int)) := [(m_judge_landing (bands, speed, headings, drift2, drift2, ())), (m_judge_landing (bands, speed, headings, more4, more4, ()))]; ((((True ∧ (((True ∧ (True ∧ True)) ∧ ((True ∧ ((True ∧ (True ∧ True)) ∧ True)) ∧ True)) ∧ True)) ∧ (g__law_same_LL (told5, [((PySem.Str.ofString "lands"), drift2), ((PySem.Str.ofString "short"), ((1 : Int), (1 : Int)))], ()))) ∧ ((!((m__law_same_LL (told5, [((PySem.Str.ofString "lands"), drift2), ((PySem.Str.ofString "short"), ((1 : Int), (1 : Int)))], ())))) = false → (((((True ∧ (True ∧ (True ∧ True))) ∧ True) ∧ (g_drift_between ([more4, drift2, more4], ()))) ∧ ((True ∧ (True ∧ True)) ∧ True)) ∧ (g__law_same_QQ ((m_drift_between ([more4, drift2, more4], ())), (drift2, more4), ()))))) ∧ (((!((m__law_same_LL (told5, [((PySem.Str.ofString "lands"), drift2), ((PySem.Str.ofString "short"), ((1 : Int), (1 : Int)))], ())))) || (!((m__law_same_QQ ((m_drift_between ([more4, drift2, more4], ())), (drift2, more4), ()))))) = true → True) ∧ (((!((m__law_same_LL (told5, [((PySem.Str.ofString "lands"), drift2), ((PySem.Str.ofString "short"), ((1 : Int), (1 : Int)))], ())))) || (!((m__law_same_QQ ((m_drift_between ([more4, drift2, more4], ())), (drift2, more4), ()))))) = false → (((True ∧ (True ∧ ((((True ∧ (True ∧ (True ∧ True))) ∧ True) ∧ ((True ∧ True) ∧ True) ∧ (-1000000 ≤ ((bands).length : Int) ∧ ((bands).length : Int) ≤ 1000 ∧ ([((0 : Int), (1 : Int), (1 : Int))]).length ≤ 1000)) ∧ True))) ∧ (g_way_across (bands, speed, (repI [((0 : Int), (1 : Int), (1 : Int))] ((bands).length : Int)), ()))) ∧ (let over_v6 : (Int × Int) × (Int × Int) := (m_way_across (bands, speed, (repI [((0 : Int), (1 : Int), (1 : Int))] ((bands).length : Int)), ())); ((True ∧ (True ∧ True)) ∧ (let width7 : Int × Int := ((0 : Int), (1 : Int)); ((True ∧ (forN kg1__law_goals_hold k1__law_goals_hold width7 bands)) ∧ (let l11 : E7__law_goals_hold := (bands.foldl (fun m x => k1__law_goals_hold (m, x)) width7); ((((((True ∧ (True ∧ True)) ∧ (g_least_time (bands, speed, ()))) ∧ (((True ∧ (((((True ∧ True) ∧ (g_even_current (bands, ()))) ∧ ((True ∧ (True ∧ True)) ∧ True)) ∧ (g__law_mul ((m_even_current (bands, ())), ((1 : Int), (1 : Int)), ()))) ∧ True)) ∧ (g__law_mul (over_v6.1, (m__law_mul ((m_even_current (bands, ())), ((1 : Int), (1 : Int)), ())), ()))) ∧ True)) ∧ ((True ∧ (True ∧ True)) ∧ True)) ∧ (g__law_same_LQ ([(m_least_time (bands, speed, ())), (m__law_mul (over_v6.1, (m__law_mul ((m_even_current (bands, ())), ((1 : Int), (1 : Int)), ())), ()))], [over_v6.1, over_v6.2], ()))) ∧ ((m__law_same_LQ ([(m_least_time (bands, speed, ())), (m__law_mul (over_v6.1, (m__law_mul ((m_even_current (bands, ())), ((1 : Int), (1 : Int)), ())), ()))], [over_v6.1, over_v6.2], ())) = true → ((((True ∧ (True ∧ True)) ∧ (g__law_mul (over_v6.1, speed, ()))) ∧ (True ∧ True)) ∧ (g__law_same_Q ((m__law_mul (over_v6.1, speed, ())), l11, ())))))))))))))))))))))))
theorem sc__law_goals_hold : FnScope ["state", "bands", "speed", "headings", "drift", "goal", "more", "told", "over_v", "width", "own"] ["state", "bands", "speed", "headings"] (defScope (topS 46)) := ⟨rfl, rfl, rfl, by decide +kernel, rfl, by decide +kernel, by decide +kernel⟩
theorem b__law_goals_hold {K : Y.Frag} {mg : Str → Option Value} {ad : Nat → Addr} {fd : Nat → FuncData} (T : Tx K mg ad fd) : Binds K (fd 46) ["state", "bands", "speed", "headings"] [] := T.F46.binds (ps := ["state", "bands", "speed", "headings"]) fun _ _ _ _ _ _ us hl => match us, hl with | [_, _, _, _], _ => rfl
theorem f__law_goals_hold {P : Program} {w : World} {K : Y.Frag} {mg : Str → Option Value} {base : Heap} {ad : Nat → Addr} {fd : Nat → FuncData} (T : Tx K mg ad fd) : FnG P w K mg base 9 (ad 46) (fd 46) ["state", "bands", "speed", "headings"] (spS K (ac (cT (c2 (c2 cI cI) (c2 cI cI))) (ac (c2 cI cI) (ac (cT (c3 cI cI cI)) an))) cSt cB g__law_goals_hold m__law_goals_hold) :=
  fn_state T.F46 sc__law_goals_hold 7 (fun _ => rfl) rfl (owS := []) (ow' := []) (ΓS := fun _ : Empty => []) (Γ' := fun _ : Empty => []) (cr := fun r : (Bool) × St4 => cB r.1) (ci := fun r : (Bool) × St4 => cSt r.2) (G := g__law_goals_hold) (d := o__law_goals_hold) (fun A0 p cdv A outer s H E hr hg => by
    have hu : (A.deeper (envOfC _ (defScope (topS 46)) s.heap.objs.size _ cdv)).units + 64 < cLine := Nat.lt_of_le_of_lt (Nat.add_le_add_left (by decide) _) (room_un hr)
    have key : Dss (XF P w K mg base ["state", "bands", "speed", "headings", "drift", "goal", "more", "told", "over_v", "width", "own"] "_law_goals_hold" (topS 46) (ad 46) cdv A outer s H E) ⟨A0, [], some p⟩ [0] (fun a : E0__law_goals_hold => some (.list (cSt a.2)) :: (((ac (cT (c2 (c2 cI cI) (c2 cI cI))) (ac (c2 cI cI) (ac (cT (c3 cI cI cI)) an))) a.1).map some ++ List.replicate 7 none)) (fun r : (Bool) × St4 => cB r.1) (fun r : (Bool) × St4 => cSt r.2) [] (fun _ : Empty => []) (defBody (topS 46)) _ _ [] (fun _ : Empty => []) := (s_cons (s_par 4 5 (ca := (c2 cI cI)) (cb := (c2 cI cI)) (ga := fun x : (Int × Int) × (Int × Int) × Unit => x.1) (gb := fun x : (Int × Int) × (Int × Int) × Unit => x.2.1) (a_cons (d_prj 1 (fun x : (Int × Int) × (Int × Int) => x.2) (cb := (c2 cI cI)) (fun _ => ⟨_, rfl, rfl⟩) (d_call ((f_way_across T).mono (by decide)) hr hg T.M25 T.F25.kp (b_way_across T) (a_cons (d_var 1 (fun q : E0__law_goals_hold => q.1.1) (cT (c2 (c2 cI cI) (c2 cI cI))) (fun _ => rfl)) (a_cons (d_var 2 (fun q : E0__law_goals_hold => q.1.2.1) (c2 cI cI) (fun _ => rfl)) (a_cons (d_var 3 (fun q : E0__law_goals_hold => q.1.2.2.1) (cT (c3 cI cI cI)) (fun _ => rfl)) a_nil)))) d_int) (a_cons (d_callS 0 (fun q : E0__law_goals_hold => q.2) (fun (q : E0__law_goals_hold) t => (q.1, t)) (fun _ => rfl) (fun _ _ => rfl) ((f__law_number T).mono (by decide)) hr hg T.M41 T.F41.kp (b__law_number T) (a_cons d_int a_nil)) a_nil)) (fun _ => rfl) rfl (hN := sc__law_goals_hold.nd)) (s_ifR (t_not (t_val (d_call ((f__law_same_Q T).mono (by decide)) hr hg T.M37 T.F37.kp (b__law_same T) (a_cons (d_call ((f__law_plus T).mono (by decide)) hr hg T.M39 T.F39.kp (b__law_plus T) (a_cons (d_call ((f_start_for T).mono (by decide)) hr hg T.M32 T.F32.kp (b_start_for T) (a_cons (d_var 1 (fun q : E2__law_goals_hold => q.1.1.1.1) (cT (c2 (c2 cI cI) (c2 cI cI))) (fun _ => rfl)) (a_cons (d_var 2 (fun q : E2__law_goals_hold => q.1.1.1.2.1) (c2 cI cI) (fun _ => rfl)) (a_cons (d_var 3 (fun q : E2__law_goals_hold => q.1.1.1.2.2.1) (cT (c3 cI cI cI)) (fun _ => rfl)) (a_cons (d_var 5 (fun q : E2__law_goals_hold => q.2) (c2 cI cI) (fun _ => rfl)) a_nil))))) (a_cons (d_var 4 (fun q : E2__law_goals_hold => q.1.2) (c2 cI cI) (fun _ => rfl)) a_nil))) (a_cons (d_var 5 (fun q : E2__law_goals_hold => q.2) (c2 cI cI) (fun _ => rfl)) a_nil))))) (s_one (s_retS (r := fun v (q : E2__law_goals_hold) => (v, q.1.1.2)) (fun _ _ => rfl) (fun _ _ => rfl) d_bl)) (by intro ε n; (repeat' (first | (intro h; nomatch h) | split))) (s_cons (s_asg 6 (d_call ((f__law_plus T).mono (by decide)) hr hg T.M39 T.F39.kp (b__law_plus T) (a_cons (d_var 4 (fun q : E2__law_goals_hold => q.1.2) (c2 cI cI) (fun _ => rfl)) (a_cons (d_tp2 (a_cons d_int (a_cons d_int a_nil))) a_nil))) (hN := sc__law_goals_hold.nd)) (s_cons (s_asg 7 (l_disp (c := (c2 cS (c2 cI cI))) (g := fun x : (PySem.Str × (Int × Int)) × (PySem.Str × (Int × Int)) × Unit => [x.1, x.2.1]) (fun _ => rfl) (fun _ => Nat.le_of_ble_eq_true rfl) (a_cons (d_call ((f_judge_landing T).mono (by decide)) hr hg T.M28 T.F28.kp (b_judge_landing T) (a_cons (d_var 1 (fun q : E3__law_goals_hold => q.1.1.1.1.1) (cT (c2 (c2 cI cI) (c2 cI cI))) (fun _ => rfl)) (a_cons (d_var 2 (fun q : E3__law_goals_hold => q.1.1.1.1.2.1) (c2 cI cI) (fun _ => rfl)) (a_cons (d_var 3 (fun q : E3__law_goals_hold => q.1.1.1.1.2.2.1) (cT (c3 cI cI cI)) (fun _ => rfl)) (a_cons (d_var 4 (fun q : E3__law_goals_hold => q.1.1.2) (c2 cI cI) (fun _ => rfl)) (a_cons (d_var 4 (fun q : E3__law_goals_hold => q.1.1.2) (c2 cI cI) (fun _ => rfl)) a_nil)))))) (a_cons (d_call ((f_judge_landing T).mono (by decide)) hr hg T.M28 T.F28.kp (b_judge_landing T) (a_cons (d_var 1 (fun q : E3__law_goals_hold => q.1.1.1.1.1) (cT (c2 (c2 cI cI) (c2 cI cI))) (fun _ => rfl)) (a_cons (d_var 2 (fun q : E3__law_goals_hold => q.1.1.1.1.2.1) (c2 cI cI) (fun _ => rfl)) (a_cons (d_var 3 (fun q : E3__law_goals_hold => q.1.1.1.1.2.2.1) (cT (c3 cI cI cI)) (fun _ => rfl)) (a_cons (d_var 6 (fun q : E3__law_goals_hold => q.2) (c2 cI cI) (fun _ => rfl)) (a_cons (d_var 6 (fun q : E3__law_goals_hold => q.2) (c2 cI cI) (fun _ => rfl)) a_nil)))))) a_nil))).de (hN := sc__law_goals_hold.nd)) (s_ifR (w_orP (t_not (t_val (d_call ((f__law_same_LL T).mono (by decide)) hr hg T.M37 T.F37.kp (b__law_same T) (a_cons (d_var 7 (fun q : E4__law_goals_hold => q.2) (cL (c2 cS (c2 cI cI))) (fun _ => rfl)) (a_cons (l_disp (c := (c2 cS (c2 cI cI))) (g := fun x : (PySem.Str × (Int × Int)) × (PySem.Str × (Int × Int)) × Unit => [x.1, x.2.1]) (fun _ => rfl) (fun _ => Nat.le_of_ble_eq_true rfl) (a_cons (d_tp2 (a_cons d_str (a_cons (d_var 4 (fun q : E4__law_goals_hold => q.1.1.1.2) (c2 cI cI) (fun _ => rfl)) a_nil))) (a_cons (d_tp2 (a_cons d_str (a_cons (d_tp2 (a_cons d_int (a_cons d_int a_nil))) a_nil))) a_nil))).de a_nil))))) (w_or1 (t_not (t_val (d_call ((f__law_same_QQ T).mono (by decide)) hr hg T.M37 T.F37.kp (b__law_same T) (a_cons (d_call ((f_drift_between T).mono (by decide)) hr hg T.M30 T.F30.kp (b_drift_between T) (a_cons (d_tpT (a := (c2 cI cI)) (fun x : (Int × Int) × (Int × Int) × (Int × Int) × Unit => [x.1, x.2.1, x.2.2.1]) (fun _ => rfl) (fun _ => Nat.le_of_ble_eq_true rfl) (a_cons (d_var 6 (fun q : E4__law_goals_hold => q.1.2) (c2 cI cI) (fun _ => rfl)) (a_cons (d_var 4 (fun q : E4__law_goals_hold => q.1.1.1.2) (c2 cI cI) (fun _ => rfl)) (a_cons (d_var 6 (fun q : E4__law_goals_hold => q.1.2) (c2 cI cI) (fun _ => rfl)) a_nil)))) a_nil)) (a_cons (d_tp2 (a_cons (d_var 4 (fun q : E4__law_goals_hold => q.1.1.1.2) (c2 cI cI) (fun _ => rfl)) (a_cons (d_var 6 (fun q : E4__law_goals_hold => q.1.2) (c2 cI cI) (fun _ => rfl)) a_nil))) a_nil))))))).dt (s_one (s_retS (r := fun v (q : E4__law_goals_hold) => (v, q.1.1.1.1.2)) (fun _ _ => rfl) (fun _ _ => rfl) d_bl)) (by intro ε n; (repeat' (first | (intro h; nomatch h) | split))) (s_cons (s_asg 8 (d_call ((f_way_across T).mono (by decide)) hr hg T.M25 T.F25.kp (b_way_across T) (a_cons (d_var 1 (fun q : E4__law_goals_hold => q.1.1.1.1.1.1) (cT (c2 (c2 cI cI) (c2 cI cI))) (fun _ => rfl)) (a_cons (d_var 2 (fun q : E4__law_goals_hold => q.1.1.1.1.1.2.1) (c2 cI cI) (fun _ => rfl)) (a_cons (d_op op_repTA v_repT (d_tpT (a := (c3 cI cI cI)) (fun x : (Int × Int × Int) × Unit => [x.1]) (fun _ => rfl) (fun _ => Nat.le_of_ble_eq_true rfl) (a_cons (d_tp3 (a_cons d_int (a_cons d_int (a_cons d_int a_nil)))) a_nil)) (d_blt call_len_seq (v_len sq_T) T.z_len (by decide +kernel) (a_cons (d_var 1 (fun q : E4__law_goals_hold => q.1.1.1.1.1.1) (cT (c2 (c2 cI cI) (c2 cI cI))) (fun _ => rfl)) a_nil))) a_nil)))) (hN := sc__law_goals_hold.nd)) (s_cons (s_asg 9 (d_tp2 (a_cons d_int (a_cons d_int a_nil))) (hN := sc__law_goals_hold.nd)) (s_cons (s_forN (ΓL := (fun (e8 : E6__law_goals_hold) (m : E7__law_goals_hold) => [some (.list (cSt e8.1.1.1.1.1.1.2)), some ((cT (c2 (c2 cI cI) (c2 cI cI))) e8.1.1.1.1.1.1.1.1), some ((c2 cI cI) e8.1.1.1.1.1.1.1.2.1), some ((cT (c3 cI cI cI)) e8.1.1.1.1.1.1.1.2.2.1), some ((c2 cI cI) e8.1.1.1.1.1.2), some ((c2 cI cI) e8.1.1.1.1.2), some ((c2 cI cI) e8.1.1.1.2), some ((cL (c2 cS (c2 cI cI))) e8.1.1.2), some ((c2 (c2 cI cI) (c2 cI cI)) e8.1.2), some ((c2 cI cI) m), none])) (fun q : E6__law_goals_hold => q.2) (i_tup (d_var 1 (fun q : E6__law_goals_hold => q.1.1.1.1.1.1.1.1) (cT (c2 (c2 cI cI) (c2 cI cI))) (fun _ => rfl))) (fun _ _ _ _ r => r) (pg_name (i := 10) sc__law_goals_hold.nd rfl (by first | exact .inl rfl | exact .inr rfl)) (tg_name 10) (fun e8 : E6__law_goals_hold => (s_cons (s_asg 9 (d_call ((f__law_plus T).mono (by decide)) hr hg T.M39 T.F39.kp (b__law_plus T) (a_cons (d_var 9 (fun q : E8__law_goals_hold => q.1) (c2 cI cI) (fun _ => rfl)) (a_cons (d_prj 0 (fun x : (Int × Int) × (Int × Int) => x.1) (cb := (c2 cI cI)) (fun _ => ⟨_, rfl, rfl⟩) (d_var 10 (fun q : E8__law_goals_hold => q.2) (c2 (c2 cI cI) (c2 cI cI)) (fun _ => rfl)) d_int) a_nil))) (hN := sc__law_goals_hold.nd)) (s_end (ow2 := [0]) (Γ2 := (fun m : E7__law_goals_hold => [some (.list (cSt e8.1.1.1.1.1.1.2)), some ((cT (c2 (c2 cI cI) (c2 cI cI))) e8.1.1.1.1.1.1.1.1), some ((c2 cI cI) e8.1.1.1.1.1.1.1.2.1), some ((cT (c3 cI cI cI)) e8.1.1.1.1.1.1.1.2.2.1), some ((c2 cI cI) e8.1.1.1.1.1.2), some ((c2 cI cI) e8.1.1.1.1.2), some ((c2 cI cI) e8.1.1.1.2), some ((cL (c2 cS (c2 cI cI))) e8.1.1.2), some ((c2 (c2 cI cI) (c2 cI cI)) e8.1.2), some ((c2 cI cI) m), none])) (fun q : E9__law_goals_hold => q.2) (fun _ _ _ _ r => r.wk (.k (.k (.k (.k (.k (.k (.k (.k (.k (.k (.f .nil))))))))))))))) (fun _ _ => rfl) PassesOwn.never) (s_one (s_retS (r := fun v (q : E10__law_goals_hold) => (v, q.1.1.1.1.1.1.1.2)) (fun _ _ => rfl) (fun _ _ => rfl) (d_and (d_call ((f__law_same_LQ T).mono (by decide)) hr hg T.M37 T.F37.kp (b__law_same T) (a_cons (l_disp (c := (c2 cI cI)) (g := fun x : (Int × Int) × (Int × Int) × Unit => [x.1, x.2.1]) (fun _ => rfl) (fun _ => Nat.le_of_ble_eq_true rfl) (a_cons (d_call ((f_least_time T).mono (by decide)) hr hg T.M29 T.F29.kp (b_least_time T) (a_cons (d_var 1 (fun q : E10__law_goals_hold => q.1.1.1.1.1.1.1.1.1) (cT (c2 (c2 cI cI) (c2 cI cI))) (fun _ => rfl)) (a_cons (d_var 2 (fun q : E10__law_goals_hold => q.1.1.1.1.1.1.1.1.2.1) (c2 cI cI) (fun _ => rfl)) a_nil))) (a_cons (d_call ((f__law_mul T).mono (by decide)) hr hg T.M40 T.F40.kp (b__law_mul T) (a_cons (d_prj 0 (fun x : (Int × Int) × (Int × Int) => x.1) (cb := (c2 cI cI)) (fun _ => ⟨_, rfl, rfl⟩) (d_var 8 (fun q : E10__law_goals_hold => q.1.1.2) (c2 (c2 cI cI) (c2 cI cI)) (fun _ => rfl)) d_int) (a_cons (d_call ((f__law_mul T).mono (by decide)) hr hg T.M40 T.F40.kp (b__law_mul T) (a_cons (d_call ((f_even_current T).mono (by decide)) hr hg T.M31 T.F31.kp (b_even_current T) (a_cons (d_var 1 (fun q : E10__law_goals_hold => q.1.1.1.1.1.1.1.1.1) (cT (c2 (c2 cI cI) (c2 cI cI))) (fun _ => rfl)) a_nil)) (a_cons (d_tp2 (a_cons d_int (a_cons d_int a_nil))) a_nil))) a_nil))) a_nil))).de (a_cons (l_disp (c := (c2 cI cI)) (g := fun x : (Int × Int) × (Int × Int) × Unit => [x.1, x.2.1]) (fun _ => rfl) (fun _ => Nat.le_of_ble_eq_true rfl) (a_cons (d_prj 0 (fun x : (Int × Int) × (Int × Int) => x.1) (cb := (c2 cI cI)) (fun _ => ⟨_, rfl, rfl⟩) (d_var 8 (fun q : E10__law_goals_hold => q.1.1.2) (c2 (c2 cI cI) (c2 cI cI)) (fun _ => rfl)) d_int) (a_cons (d_prj 1 (fun x : (Int × Int) × (Int × Int) => x.2) (cb := (c2 cI cI)) (fun _ => ⟨_, rfl, rfl⟩) (d_var 8 (fun q : E10__law_goals_hold => q.1.1.2) (c2 (c2 cI cI) (c2 cI cI)) (fun _ => rfl)) d_int) a_nil))).de a_nil))) (d_one (d_call ((f__law_same_Q T).mono (by decide)) hr hg T.M37 T.F37.kp (b__law_same T) (a_cons (d_call ((f__law_mul T).mono (by decide)) hr hg T.M40 T.F40.kp (b__law_mul T) (a_cons (d_prj 0 (fun x : (Int × Int) × (Int × Int) => x.1) (cb := (c2 cI cI)) (fun _ => ⟨_, rfl, rfl⟩) (d_var 8 (fun q : E10__law_goals_hold => q.1.1.2) (c2 (c2 cI cI) (c2 cI cI)) (fun _ => rfl)) d_int) (a_cons (d_var 2 (fun q : E10__law_goals_hold => q.1.1.1.1.1.1.1.1.2.1) (c2 cI cI) (fun _ => rfl)) a_nil))) (a_cons (d_var 9 (fun q : E10__law_goals_hold => q.2) (c2 cI cI) (fun _ => rfl)) a_nil)))))))))))))))
    exact dss_eq key (by kernel_rfl) (by kernel_rfl)) (fun _ h => h) (fun a _ => ret_ex (o__law_goals_hold a))
abbrev E0_law : Type := St4
abbrev E1_law : Type := E0_law × Int
abbrev E2_law : Type := E1_law × (List ((Int × Int) × (Int × Int)))
abbrev E3_law : Type := E2_law × (Int × Int)
abbrev E4_law : Type := E3_law × (List (Int × Int × Int))
abbrev E5_law : Type := St4 × E0_law
def k1_law (q2 : E1_law) : Out E0_law Bool E0_law :=
  (let r3 := m__law_river ((), q2.1); let r4 := m__law_number (((1 : Int), ()), r3.2); (let bands5 : List ((Int × Int) × (Int × Int)) := r3.1; let speed6 : Int × Int := r4.1; (let r7 := m__law_headings ((((bands5).length : Int), ()), r4.2); (let headings8 : List (Int × Int × Int) := r7.1; (let r9 := m__law_order_holds ((bands5, speed6, headings8, ()), r7.2); let r10 := m__law_goals_hold ((bands5, speed6, headings8, ()), r9.2); let t11 := (if (!((m__law_currents_hold (bands5, speed6, headings8, ())))) = true then r7.2 else (if (!r9.1) = true then r9.2 else r10.2)); (if ((!((m__law_currents_hold (bands5, speed6, headings8, ())))) || ((!r9.1) || (!r10.1))) = true then (Out.rt false) else (Out.nx t11)))))))
def kg1_law (q2 : E1_law) : Prop :=
  (let r3 := m__law_river ((), q2.1); let r4 := m__law_number (((1 : Int), ()), r3.2); (((True ∧ (g__law_river ((), q2.1))) ∧ (((True ∧ True) ∧ (g__law_number (((1 : Int), ()), r3.2))) ∧ True)) ∧ (let bands5 : List ((Int × Int) × (Int × Int)) := r3.1; let speed6 : Int × Int := r4.1; (let r7 := m__law_headings ((((bands5).length : Int), ()), r4.2); (((((True ∧ True) ∧ True) ∧ True) ∧ (g__law_headings ((((bands5).length : Int), ()), r4.2))) ∧ (let headings8 : List (Int × Int × Int) := r7.1; (let r9 := m__law_order_holds ((bands5, speed6, headings8, ()), r7.2); let r10 := m__law_goals_hold ((bands5, speed6, headings8, ()), r9.2); let t11 := (if (!((m__law_currents_hold (bands5, speed6, headings8, ())))) = true then r7.2 else (if (!r9.1) = true then r9.2 else r10.2)); ((((True ∧ (True ∧ (True ∧ True))) ∧ (g__law_currents_hold (bands5, speed6, headings8, ()))) ∧ ((!((m__law_currents_hold (bands5, speed6, headings8, ())))) = false → (((True ∧ (True ∧ (True ∧ True))) ∧ (g__law_order_holds ((bands5, speed6, headings8, ()), r7.2))) ∧ ((!r9.1) = false → ((True ∧ (True ∧ (True ∧ True))) ∧ (g__law_goals_hold ((bands5, speed6, headings8, ()), r9.2))))))) ∧ (((!((m__law_currents_hold (bands5, speed6, headings8, ())))) || ((!r9.1) || (!r10.1))) = true → True) ∧ (((!((m__law_currents_hold (bands5, speed6, headings8, ())))) || ((!r9.1) || (!r10.1))) = false → True)))))))))
def o_law (a : St4) : Out Empty Bool Empty :=
  ((forO k1_law a (rng 0 ((5 : Int)))).bind (fun l12 : E0_law => (Out.rt true)))
def g_law (a : St4) : Prop :=
  ((((True ∧ True) ∧ (CRg 0 ((5 : Int)))) ∧ (forG kg1_law k1_law a (rng 0 ((5 : Int))))) ∧ (∀ l12 : E0_law, (forO k1_law a (rng 0 ((5 : Int)))) = Out.nx (S := Empty) l12 → True))
theorem sc_law : FnScope ["script", "state", "turn", "bands", "speed", "headings"] ["script"] (defScope (topS 47)) := ⟨rfl, rfl, rfl, by decide +kernel, rfl, by decide +kernel, by decide +kernel⟩
theorem f_law {P : Program} {w : World} {K : Y.Frag} {mg : Str → Option Value} {base : Heap} {ad : Nat → Addr} {fd : Nat → FuncData} (T : Tx K mg ad fd) (ok : ∀ t, Wf t → g_law t ∧ o_law t = .rt true) : FnG P w K mg base 10 (ad 47) (fd 47) ["script"] (spLaw K) :=
  fn_law T.F47 4 rfl sc_law rfl ((f__law_start T).mono (by decide : 1 ≤ 9)) T.M34 T.F34.kp (b__law_start T) (owS := []) (ow' := []) (ΓS := fun _ : Empty => []) (Γ' := fun _ : Empty => []) (G := g_law) (d := o_law) (fun cdv A outer s H E hr hg => by
    have hu : (A.deeper (envOfC _ (defScope (topS 47)) s.heap.objs.size _ cdv)).units + 64 < cLine := Nat.lt_of_le_of_lt (Nat.add_le_add_left (by decide) _) (room_un hr)
    refine ⟨⟨_, ps_set (i := 1) sc_law.nd rfl (by first | exact .inl rfl | exact .inr rfl) (pe_callG ((f__law_start T).mono (by decide : 1 ≤ 9)) hr hg T.M34 T.F34.kp (b__law_start T) (pa_cons (pv 0) pa_nil)), fun a D σ H e h => by subst e; exact ⟨.ref a, rfl, h⟩⟩, ?_⟩
    have key : Dss (XF P w K mg base ["script", "state", "turn", "bands", "speed", "headings"] "law" (topS 47) (ad 47) cdv A outer s H E) ⟨[], [], none⟩ [1] (fun t : St4 => none :: some (.list (cSt t)) :: List.replicate 4 none) cB (fun _ => []) [] (fun _ : Empty => []) ((defBody (topS 47)).drop 1) _ _ [] (fun _ : Empty => []) := (s_consK (s_forP (ΓL := (fun (e1 : St4) (m : E0_law) => [none, some (.list (cSt m)), none, none, none, none])) (fun q : St4 => q) (i_rng1 (a_cons d_int a_nil) T.z_range) (fun _ _ _ _ r => r) (pg_name (i := 2) sc_law.nd rfl (by first | exact .inl rfl | exact .inr rfl)) (tg_name 2) (fun e1 : St4 => (s_cons (s_par 3 4 (ca := (cT (c2 (c2 cI cI) (c2 cI cI)))) (cb := (c2 cI cI)) (ga := fun x : (List ((Int × Int) × (Int × Int))) × (Int × Int) × Unit => x.1) (gb := fun x : (List ((Int × Int) × (Int × Int))) × (Int × Int) × Unit => x.2.1) (a_cons (d_callS 1 (fun q : E1_law => q.1) (fun (q : E1_law) t => (t, q.2)) (fun _ => rfl) (fun _ _ => rfl) ((f__law_river T).mono (by decide)) hr hg T.M42 T.F42.kp (b__law_river T) a_nil) (a_cons (d_callS 1 (fun q : E1_law => q.1) (fun (q : E1_law) t => (t, q.2)) (fun _ => rfl) (fun _ _ => rfl) ((f__law_number T).mono (by decide)) hr hg T.M41 T.F41.kp (b__law_number T) (a_cons d_int a_nil)) a_nil)) (fun _ => rfl) rfl (hN := sc_law.nd)) (s_cons (s_asg 5 (d_callS 1 (fun q : E3_law => q.1.1.1) (fun (q : E3_law) t => (((t, q.1.1.2), q.1.2), q.2)) (fun _ => rfl) (fun _ _ => rfl) ((f__law_headings T).mono (by decide)) hr hg T.M43 T.F43.kp (b__law_headings T) (a_cons (d_blt call_len_seq (v_len sq_T) T.z_len (by decide +kernel) (a_cons (d_var 3 (fun q : E3_law => q.1.2) (cT (c2 (c2 cI cI) (c2 cI cI))) (fun _ => rfl)) a_nil)) a_nil)) (hN := sc_law.nd)) (s_ifR (w_orS (fun (q : E4_law) t => ((((t, q.1.1.1.2), q.1.1.2), q.1.2), q.2)) (t_not (t_val (d_call ((f__law_currents_hold T).mono (by decide)) hr hg T.M44 T.F44.kp (b__law_currents_hold T) (a_cons (d_var 3 (fun q : E4_law => q.1.1.2) (cT (c2 (c2 cI cI) (c2 cI cI))) (fun _ => rfl)) (a_cons (d_var 4 (fun q : E4_law => q.1.2) (c2 cI cI) (fun _ => rfl)) (a_cons (d_var 5 (fun q : E4_law => q.2) (cT (c3 cI cI cI)) (fun _ => rfl)) a_nil)))))) (w_orS (fun (q : E4_law) t => ((((t, q.1.1.1.2), q.1.1.2), q.1.2), q.2)) (t_not (t_val (d_callS 1 (fun q : E4_law => q.1.1.1.1) (fun (q : E4_law) t => ((((t, q.1.1.1.2), q.1.1.2), q.1.2), q.2)) (fun _ => rfl) (fun _ _ => rfl) ((f__law_order_holds T).mono (by decide)) hr hg T.M45 T.F45.kp (b__law_order_holds T) (a_cons (d_var 3 (fun q : E4_law => q.1.1.2) (cT (c2 (c2 cI cI) (c2 cI cI))) (fun _ => rfl)) (a_cons (d_var 4 (fun q : E4_law => q.1.2) (c2 cI cI) (fun _ => rfl)) (a_cons (d_var 5 (fun q : E4_law => q.2) (cT (c3 cI cI cI)) (fun _ => rfl)) a_nil)))))) (w_or1 (t_not (t_val (d_callS 1 (fun q : E4_law => q.1.1.1.1) (fun (q : E4_law) t => ((((t, q.1.1.1.2), q.1.1.2), q.1.2), q.2)) (fun _ => rfl) (fun _ _ => rfl) ((f__law_goals_hold T).mono (by decide)) hr hg T.M46 T.F46.kp (b__law_goals_hold T) (a_cons (d_var 3 (fun q : E4_law => q.1.1.2) (cT (c2 (c2 cI cI) (c2 cI cI))) (fun _ => rfl)) (a_cons (d_var 4 (fun q : E4_law => q.1.2) (c2 cI cI) (fun _ => rfl)) (a_cons (d_var 5 (fun q : E4_law => q.2) (cT (c3 cI cI cI)) (fun _ => rfl)) a_nil))))))) (fun _ => rfl) (fun _ => rfl)) (fun _ => rfl) (fun _ => rfl)).dt (s_one (s_ret (r := fun v (_ : E4_law) => v) (fun _ _ => rfl) rfl d_bl)) (by intro ε n; (repeat' (first | (intro h; nomatch h) | split))) (s_end (ow2 := [1]) (Γ2 := (fun m : E0_law => [none, some (.list (cSt m)), none, none, none, none])) (fun q : E4_law => q.1.1.1.1) (fun _ _ _ _ r => r.wk (.k (.k (.f (.f (.f (.f .nil)))))))))))) PassesOwn.never) (s_one (s_ret (r := fun v (_ : E5_law) => v) (fun _ _ => rfl) rfl d_bl)))
    exact dss_eq key (by kernel_rfl) (by kernel_rfl)) (fun t h => (ok t h).1) (fun t h => (ok t h).2)
end Z
namespace Y
open PySem PySem.Spec PyProof.Rows L2

/-! ### quotients as pairs -/
def qp (r : Rat) : Int × Int := (r.num, (r.den : Int))
theorem qp_inj {a b : Rat} : qp a = qp b ↔ a = b := by
  constructor
  · intro h
    have h1 : a.num = b.num := congrArg Prod.fst h
    have h2 : (a.den : Int) = (b.den : Int) := congrArg Prod.snd h
    exact Rat.ext h1 (by omega)
  · rintro rfl; rfl
theorem qp_int (n : Int) : (n, (1 : Int)) = qp (n : Rat) := rfl
theorem qp_zero : ((0 : Int), (1 : Int)) = qp 0 := rfl
theorem qp_one : ((1 : Int), (1 : Int)) = qp 1 := rfl
theorem qp_neg (a : Rat) : (0 - a.num, (a.den : Int)) = qp (-a) := by
  unfold qp
  rw [Rat.neg_num, Rat.neg_den, Int.zero_sub]
theorem qp_neg' (a : Rat) : (-a.num, (a.den : Int)) = qp (-a) := by
  unfold qp
  rw [Rat.neg_num, Rat.neg_den]
theorem qp_div {a b : Int} (h : 0 < b) : (a / (Int.gcd a b : Int), b / (Int.gcd a b : Int)) = qp (Rat.divInt a b) := by
  unfold qp
  have e1 := Rat.num_divInt a b
  have e2 := Rat.den_divInt a b
  rw [Int.sign_eq_one_of_pos h, Int.one_mul, Int.gcd_comm] at e1
  rw [if_neg (by omega), Int.gcd_comm] at e2
  refine Prod.ext e1.symm ?_
  show b / (Int.gcd a b : Int) = ((Rat.divInt a b).den : Int)
  rw [e2, Int.natCast_ediv]
  congr 1
  omega
theorem qp_inv {n : Int} (h : 0 < n) : ((1 : Int), n) = qp ((n : Rat)⁻¹) := by
  unfold qp
  rw [Rat.num_inv, Rat.den_inv]
  have e1 : (n : Rat).num = n := rfl
  have e2 : (n : Rat).den = 1 := rfl
  rw [e1, e2, Int.sign_eq_one_of_pos h, if_neg (by omega)]
  refine Prod.ext rfl ?_
  show n = (n.natAbs : Int)
  omega
theorem den_pos (a : Rat) : 0 < (a.den : Int) := by
  have := a.den_nz
  omega
theorem div_add (a b : Rat) : Rat.divInt (a.num * b.den + b.num * a.den) ((a.den : Int) * b.den) = a + b := by
  have h := Rat.divInt_add_divInt a.num b.num (d₁ := a.den) (d₂ := b.den) (by have := den_pos a; omega) (by have := den_pos b; omega)
  rw [Rat.num_divInt_den, Rat.num_divInt_den] at h
  exact h.symm
theorem div_sub (a b : Rat) : Rat.divInt (a.num * b.den - b.num * a.den) ((a.den : Int) * b.den) = a - b := by
  have h := Rat.divInt_sub_divInt a.num b.num (d₁ := a.den) (d₂ := b.den) (by have := den_pos a; omega) (by have := den_pos b; omega)
  rw [Rat.num_divInt_den, Rat.num_divInt_den] at h
  exact h.symm
theorem div_mul (a b : Rat) : Rat.divInt (a.num * b.num) ((a.den : Int) * b.den) = a * b := by
  have h := Rat.divInt_mul_divInt a.num b.num (d₁ := a.den) (d₂ := b.den)
  rw [Rat.num_divInt_den, Rat.num_divInt_den] at h
  exact h.symm
theorem div_div (a b : Rat) : Rat.divInt (a.num * b.den) ((a.den : Int) * b.num) = a / b := by
  have h := Rat.divInt_mul_divInt a.num b.den (d₁ := a.den) (d₂ := b.num)
  rw [Rat.num_divInt_den, ← Rat.inv_def] at h
  exact h.symm
/-! ### sizes -/
def Sz (k : Nat) (r : Rat) : Prop := r.num.natAbs < 2 ^ k ∧ r.den < 2 ^ k
theorem natAbs_div_le (a : Int) (n : Nat) : (a / (n : Int)).natAbs ≤ a.natAbs := Int.natAbs_ediv_le_natAbs a n
theorem Sz.mk {k : Nat} {a b : Int} (h1 : a.natAbs < 2 ^ k) (h2 : b.natAbs < 2 ^ k) (hb : b ≠ 0) : Sz k (Rat.divInt a b) := by
  constructor
  · rw [Rat.num_divInt]
    refine Nat.lt_of_le_of_lt (natAbs_div_le _ _) ?_
    rw [Int.natAbs_mul, Int.natAbs_sign_of_ne_zero hb, Nat.one_mul]
    exact h1
  · rw [Rat.den_divInt, if_neg hb]
    exact Nat.lt_of_le_of_lt (Nat.div_le_self _ _) h2
theorem Sz.mono {k l : Nat} {a : Rat} (h : Sz k a) (hl : k ≤ l) : Sz l a := ⟨Nat.lt_of_lt_of_le h.1 (Nat.pow_le_pow_right (by decide) hl), Nat.lt_of_lt_of_le h.2 (Nat.pow_le_pow_right (by decide) hl)⟩
theorem lt_pow_mul {a b k l : Nat} (h1 : a < 2 ^ k) (h2 : b < 2 ^ l) : a * b < 2 ^ (k + l) := by
  rw [Nat.pow_add]
  exact Nat.mul_lt_mul'' h1 h2
theorem Sz.d {k : Nat} {a : Rat} (h : Sz k a) : ((a.den : Int)).natAbs < 2 ^ k := by have := h.2; omega
theorem mul_abs {a b : Int} {k l : Nat} (h1 : a.natAbs < 2 ^ k) (h2 : b.natAbs < 2 ^ l) : (a * b).natAbs < 2 ^ (k + l) := by
  rw [Int.natAbs_mul]; exact lt_pow_mul h1 h2
theorem add_abs {a b : Int} {k : Nat} (h1 : a.natAbs < 2 ^ k) (h2 : b.natAbs < 2 ^ k) : (a + b).natAbs < 2 ^ (k + 1) := by
  have := Int.natAbs_add_le a b
  rw [Nat.pow_succ]; omega
theorem sub_abs {a b : Int} {k : Nat} (h1 : a.natAbs < 2 ^ k) (h2 : b.natAbs < 2 ^ k) : (a - b).natAbs < 2 ^ (k + 1) := by
  have := Int.natAbs_sub_le a b
  rw [Nat.pow_succ]; omega
theorem abs_mono {a : Int} {k l : Nat} (h : a.natAbs < 2 ^ k) (hl : k ≤ l) : a.natAbs < 2 ^ l := Nat.lt_of_lt_of_le h (Nat.pow_le_pow_right (by decide) hl)
theorem Sz.upAdd {k l : Nat} {a b : Rat} (h1 : Sz k a) (h2 : Sz l b) : (a.num * b.den + b.num * a.den).natAbs < 2 ^ (k + l + 1) := add_abs (mul_abs h1.1 h2.d) (by rw [Nat.add_comm k l]; exact mul_abs h2.1 h1.d)
theorem Sz.upSub {k l : Nat} {a b : Rat} (h1 : Sz k a) (h2 : Sz l b) : (a.num * b.den - b.num * a.den).natAbs < 2 ^ (k + l + 1) := sub_abs (mul_abs h1.1 h2.d) (by rw [Nat.add_comm k l]; exact mul_abs h2.1 h1.d)
theorem Sz.dens {k l : Nat} {a b : Rat} (h1 : Sz k a) (h2 : Sz l b) : ((a.den : Int) * b.den).natAbs < 2 ^ (k + l) := mul_abs h1.d h2.d
theorem dens_ne (a b : Rat) : (a.den : Int) * b.den ≠ 0 := by
  have h1 := den_pos a
  have h2 := den_pos b
  have := Int.mul_pos h1 h2
  omega
theorem Sz.add {k l : Nat} {a b : Rat} (h1 : Sz k a) (h2 : Sz l b) : Sz (k + l + 1) (a + b) := by
  rw [← div_add]
  exact .mk (h1.upAdd h2) (abs_mono (h1.dens h2) (by omega)) (dens_ne a b)
theorem Sz.sub {k l : Nat} {a b : Rat} (h1 : Sz k a) (h2 : Sz l b) : Sz (k + l + 1) (a - b) := by
  rw [← div_sub]
  exact .mk (h1.upSub h2) (abs_mono (h1.dens h2) (by omega)) (dens_ne a b)
theorem Sz.mul {k l : Nat} {a b : Rat} (h1 : Sz k a) (h2 : Sz l b) : Sz (k + l) (a * b) := by
  rw [← div_mul]
  exact .mk (mul_abs h1.1 h2.1) (h1.dens h2) (dens_ne a b)
theorem Sz.neg {k : Nat} {a : Rat} (h : Sz k a) : Sz k (-a) := ⟨by rw [Rat.neg_num, Int.natAbs_neg]; exact h.1, by rw [Rat.neg_den]; exact h.2⟩
theorem Sz.div {k l : Nat} {a b : Rat} (h1 : Sz k a) (h2 : Sz l b) (hb : b ≠ 0) : Sz (k + l) (a / b) := by
  rw [← div_div]
  refine .mk (mul_abs h1.1 h2.d) (mul_abs h1.d h2.1) ?_
  have h3 := den_pos a
  have h4 : b.num ≠ 0 := fun e => hb (Rat.num_eq_zero.mp e)
  exact Int.mul_ne_zero (by omega) h4
theorem Sz.int {k : Nat} {n : Int} (h : n.natAbs < 2 ^ k) (hk : 0 < k) : Sz k (n : Rat) := ⟨h, Nat.one_lt_two_pow (by omega)⟩
theorem Sz.inv {k : Nat} {a : Rat} (h : Sz k a) (ha : a ≠ 0) : Sz (1 + k) a⁻¹ := by
  have := Sz.div (k := 1) (a := 1) ⟨by decide, by decide⟩ h ha
  rwa [Rat.div_def, Rat.one_mul] at this
theorem Sz.zero : Sz 1 0 := ⟨by decide, by decide⟩
theorem Sz.one : Sz 1 1 := ⟨by decide, by decide⟩
theorem cmw {a b : Int} {k l : Nat} (h1 : a.natAbs < 2 ^ k) (h2 : b.natAbs < 2 ^ l) (h : k + l ≤ 100000) : CMulW a b := by
  have e1 : a.natAbs.log2 ≤ k := by
    by_cases h0 : a.natAbs = 0
    · rw [h0, Nat.log2_zero]; omega
    · exact Nat.le_of_lt ((Nat.log2_lt h0).mpr h1)
  have e2 : b.natAbs.log2 ≤ l := by
    by_cases h0 : b.natAbs = 0
    · rw [h0, Nat.log2_zero]; omega
    · exact Nat.le_of_lt ((Nat.log2_lt h0).mpr h2)
  show a.natAbs.log2 + b.natAbs.log2 < 1000000
  omega
/-! ### the greatest divisor by a loop -/
theorem gcd_step {a b : Int} (ha : 0 ≤ a) (hb : 0 < b) : Int.gcd b (a % b) = Int.gcd a b := by
  obtain ⟨m, rfl⟩ := Int.eq_ofNat_of_zero_le ha
  obtain ⟨n, rfl⟩ := Int.eq_ofNat_of_zero_le (show 0 ≤ b by omega)
  rw [← Int.natCast_emod, Int.gcd_natCast_natCast, Int.gcd_natCast_natCast, Nat.gcd_comm m n, Nat.gcd_rec n m, Nat.gcd_comm]
theorem gcd_loop {R S : Type} {c : Int × Int → Bool} {f : Int × Int → Out (Int × Int) R (Int × Int)} {gc gb : Int × Int → Prop} (hc : ∀ a b : Int, 0 ≤ b → c (a, b) = decide (0 < b)) (hf : ∀ a b : Int, f (a, b) = .nx (b, a % b)) (hgc : ∀ a b : Int, 0 ≤ b → gc (a, b)) (hgb : ∀ a b : Int, 0 < b → gb (a, b)) :
    ∀ (n : Nat) (a b : Int), 0 ≤ a → 0 ≤ b → b.toNat < n → whO (S := S) c f n (a, b) = .nx ((Int.gcd a b : Int), 0) ∧ whG gc c gb f n (a, b)
  | 0, a, b, _, _, h => absurd h (by omega)
  | n + 1, a, b, ha, hb, h => by
    by_cases h0 : 0 < b
    · have e : c (a, b) = true := by rw [hc a b hb]; exact decide_eq_true h0
      obtain ⟨i1, i2⟩ := gcd_loop (S := S) hc hf hgc hgb n b (a % b) hb (Int.emod_nonneg _ (by omega)) (by
        have := Int.emod_lt_of_pos a h0
        omega)
      refine ⟨?_, hgc a b hb, fun _ => ⟨hgb a b h0, ?_⟩⟩
      · rw [whO, if_pos e, hf]
        show whO c f n (b, a % b) = _
        rw [i1, gcd_step ha h0]
      · rw [hf]; exact i2
    · have e : c (a, b) = false := by rw [hc a b hb]; exact decide_eq_false h0
      have : b = 0 := by omega
      subst this
      refine ⟨?_, hgc a 0 hb, fun z => by rw [e] at z; cases z⟩
      rw [whO, e, if_neg Bool.false_ne_true]
      congr 1
      refine Prod.ext ?_ rfl
      show a = (Int.gcd a 0 : Int)
      rw [Int.gcd_zero_right]
      omega
theorem gcd_bd {a b : Int} {k : Nat} (hb : 0 < b) (h : b.natAbs < 2 ^ k) (hk : k ≤ 8000) : CDivW a (Int.gcd a b : Int) := by
  have h1 : 0 < Int.gcd a b := Int.gcd_pos_of_ne_zero_right _ (by omega)
  have h2 : Int.gcd a b ≤ b.natAbs := Int.gcd_le_natAbs_right _ (by omega)
  refine ⟨by omega, ?_⟩
  have h3 : ((Int.gcd a b : Int)).natAbs < 2 ^ k := by omega
  have := (Nat.log2_lt (show ((Int.gcd a b : Int)).natAbs ≠ 0 by omega)).mpr h3
  omega
theorem gcd_abs (a b : Int) : Int.gcd (a.natAbs : Int) b = Int.gcd a b := by
  unfold Int.gcd
  rw [Int.natAbs_natCast]
theorem Sz.ge1 {k : Nat} {a : Rat} (h : Sz k a) : 1 ≤ k := by
  have h1 := h.2
  have h2 := a.den_nz
  rcases k with _ | k
  · simp at h1; omega
  · omega
theorem Sz.num12 {a : Rat} (h : Sz 39 a) : a.num.natAbs ≤ 1000000000000 ∧ (a.den : Int) ≤ 1000000000000 := by
  have h1 := h.1
  have h2 := h.2
  have : (2 : Nat) ^ 39 = 549755813888 := by decide
  omega
/-! ### sums -/
def rsum (xs : List Rat) : Rat := xs.foldl (· + ·) 0
theorem rsum_go : ∀ (xs : List Rat) (t : Rat), xs.foldl (· + ·) t = t + rsum xs
  | [], t => by show t = t + 0; rw [Rat.add_zero]
  | x :: xs, t => by
    show xs.foldl (· + ·) (t + x) = t + xs.foldl (· + ·) (0 + x)
    rw [rsum_go xs (t + x), rsum_go xs (0 + x), Rat.zero_add, Rat.add_assoc]
theorem rsum_nil : rsum [] = 0 := rfl
theorem rsum_cons (x : Rat) (xs : List Rat) : rsum (x :: xs) = x + rsum xs := by
  show xs.foldl (· + ·) (0 + x) = _
  rw [rsum_go, Rat.zero_add]
theorem rsum_append : ∀ (xs ys : List Rat), rsum (xs ++ ys) = rsum xs + rsum ys
  | [], ys => by rw [List.nil_append, rsum_nil, Rat.zero_add]
  | x :: xs, ys => by rw [List.cons_append, rsum_cons, rsum_cons, rsum_append xs ys, Rat.add_assoc]
theorem rsum_rev : ∀ xs : List Rat, rsum xs.reverse = rsum xs
  | [] => rfl
  | x :: xs => by rw [List.reverse_cons, rsum_append, rsum_rev xs, rsum_cons, rsum_cons, rsum_nil, Rat.add_zero, Rat.add_comm]
theorem rsum_map_add {α : Type} (f g : α → Rat) : ∀ xs : List α, rsum (xs.map fun x => f x + g x) = rsum (xs.map f) + rsum (xs.map g)
  | [] => by show (0 : Rat) = 0 + 0; rw [Rat.add_zero]
  | x :: xs => by
    simp only [List.map_cons, rsum_cons, rsum_map_add f g xs]
    grind
theorem rsum_map_mul {α : Type} (f : α → Rat) (c : Rat) : ∀ xs : List α, rsum (xs.map fun x => f x * c) = rsum (xs.map f) * c
  | [] => by show (0 : Rat) = 0 * c; rw [Rat.zero_mul]
  | x :: xs => by
    simp only [List.map_cons, rsum_cons, rsum_map_mul f c xs]
    grind
theorem rsum_map_neg {α : Type} (f : α → Rat) : ∀ xs : List α, rsum (xs.map fun x => -f x) = -rsum (xs.map f)
  | [] => rfl
  | x :: xs => by
    simp only [List.map_cons, rsum_cons, rsum_map_neg f xs]
    grind
theorem rsum_congr {α : Type} {f g : α → Rat} : ∀ (xs : List α), (∀ x ∈ xs, f x = g x) → rsum (xs.map f) = rsum (xs.map g)
  | [], _ => rfl
  | x :: xs, h => by
    simp only [List.map_cons, rsum_cons, rsum_congr xs fun y hy => h y (List.mem_cons_of_mem _ hy), h x List.mem_cons_self]
theorem rsum_nonneg : ∀ (xs : List Rat), (∀ x ∈ xs, 0 ≤ x) → 0 ≤ rsum xs
  | [], _ => Rat.le_refl
  | x :: xs, h => by
    rw [rsum_cons]
    exact Rat.add_nonneg (h x List.mem_cons_self) (rsum_nonneg xs fun y hy => h y (List.mem_cons_of_mem _ hy))
theorem rsum_pos : ∀ (xs : List Rat), xs ≠ [] → (∀ x ∈ xs, 0 < x) → 0 < rsum xs
  | [], h, _ => absurd rfl h
  | x :: xs, _, h => by
    rw [rsum_cons]
    have h1 := h x List.mem_cons_self
    have h2 := rsum_nonneg xs fun y hy => Rat.le_of_lt (h y (List.mem_cons_of_mem _ hy))
    grind
theorem num_pos {a : Rat} (h : 0 < a) : 0 < a.num := by
  have := (Rat.lt_iff 0 a).mp h
  simpa using this
theorem num_nn {a : Rat} (h : 0 ≤ a) : 0 ≤ a.num := Rat.num_nonneg.mpr h
/-! ### shown -/
theorem sw_z {x : Int} (h : x.natAbs < 2 ^ 1800) : Sw 1901 0 (.int x) := by
  have h1 : x.natAbs.log2 < 1900 := Nat.lt_trans (log2_lt (k := 1799) h) (by decide)
  exact ⟨by simp only [PyData.showable, decide_eq_true_eq]; omega, by simp [PyData.hasDict], by simp [PyData.depth], by
    have e := int_text_length_le (k := 1900) (by decide) h1
    show (Str.ofString (toString x)).length ≤ 1901
    rw [PySem.ofString_length]; exact e⟩
theorem sw_qp {r : Rat} {k : Nat} (h : Sz k r) (hk : k ≤ 1800) : Sw 3809 1 (c2 cI cI (qp r)) := (sw_2 (sw_z (h.mono hk).1) (sw_z (h.mono hk).d)).mono (by decide) (by decide)
end Y
namespace Z
open PySem PySem.Spec PyProof.Rows L2 Y
/-! ### rivers, in plain words -/
abbrev Hd := Int × Int × Int
abbrev Bh := (Rat × Rat) × Hd
def HL : List Hd := [(0, 1, 1), (3, 4, 5), (-3, 4, 5), (4, 3, 5), (-4, 3, 5), (5, 12, 13), (-12, 5, 13), (-8, 15, 17), (-5, 12, 13), (12, 5, 13), (8, 15, 17)]
theorem HL_bd : ∀ h ∈ HL, 1 ≤ h.2.1 ∧ h.2.1 ≤ 15 ∧ 1 ≤ h.2.2 ∧ h.2.2 ≤ 17 ∧ -12 ≤ h.1 ∧ h.1 ≤ 12 ∧ h.2.1 * (60 / h.2.1) = 60 ∧ (-h.1, h.2.1, h.2.2) ∈ HL := by decide
def tm (w s : Rat) (h : Hd) : Rat := w * (h.2.2 : Rat) / (s * (h.2.1 : Rat))
def dr (b : Rat × Rat) (s : Rat) (h : Hd) : Rat := tm b.1 s h * (s * (h.1 : Rat) / (h.2.2 : Rat) + b.2)
def ts (s : Rat) (l : List Bh) : Rat := rsum (l.map fun x => tm x.1.1 s x.2)
def ds (s : Rat) (l : List Bh) : Rat := rsum (l.map fun x => dr x.1 s x.2)
def wd (l : List Bh) : Rat := rsum (l.map fun x => x.1.1)
def wc (l : List Bh) : Rat := rsum (l.map fun x => x.1.1 * x.1.2)
theorem hd_ne {h : Hd} (hh : h ∈ HL) : (h.2.1 : Rat) ≠ 0 ∧ (h.2.2 : Rat) ≠ 0 ∧ (0 : Rat) < (h.2.1 : Rat) ∧ (0 : Rat) < (h.2.2 : Rat) := by
  obtain ⟨h1, _, h3, _⟩ := HL_bd h hh
  have a : (0 : Rat) < (h.2.1 : Rat) := Rat.intCast_pos.mpr (by omega)
  have b : (0 : Rat) < (h.2.2 : Rat) := Rat.intCast_pos.mpr (by omega)
  exact ⟨Rat.ne_of_gt a, Rat.ne_of_gt b, a, b⟩
theorem dr_split (b : Rat × Rat) (s : Rat) (h : Hd) : dr b s h = dr (b.1, 0) s h + tm b.1 s h * b.2 := by
  unfold dr
  grind
theorem dr_neg (w s : Rat) (h : Hd) : dr (w, 0) s (-h.1, h.2.1, h.2.2) = -dr (w, 0) s h := by
  have e : (((-h.1 : Int)) : Rat) = -(h.1 : Rat) := Rat.intCast_neg h.1
  have : tm w s (-h.1, h.2.1, h.2.2) = tm w s h := rfl
  unfold dr
  simp only [this, e]
  grind
theorem ts_still (s : Rat) (l : List Bh) : ts s (l.map fun x => ((x.1.1, (0 : Rat)), x.2)) = ts s l := by
  unfold ts
  rw [List.map_map]
  rfl
theorem ds_still (s : Rat) (l : List Bh) : ds s l = ds s (l.map fun x => ((x.1.1, (0 : Rat)), x.2)) + rsum (l.map fun x => tm x.1.1 s x.2 * x.1.2) := by
  unfold ds
  rw [List.map_map, ← rsum_map_add]
  exact rsum_congr l fun x _ => dr_split x.1 s x.2
theorem ts_turn (s : Rat) (l : List Bh) : ts s (l.map fun x => ((x.1.1, (0 : Rat)), ((-x.2.1, x.2.2.1, x.2.2.2) : Hd))) = ts s l := by
  unfold ts
  rw [List.map_map]
  rfl
theorem ds_turn (s : Rat) (l : List Bh) : ds s (l.map fun x => ((x.1.1, (0 : Rat)), ((-x.2.1, x.2.2.1, x.2.2.2) : Hd))) = -ds s (l.map fun x => ((x.1.1, (0 : Rat)), x.2)) := by
  unfold ds
  rw [List.map_map, List.map_map, ← rsum_map_neg]
  exact rsum_congr l fun x _ => dr_neg x.1.1 s x.2
theorem ts_rev (s : Rat) (l : List Bh) : ts s l.reverse = ts s l := by
  unfold ts
  rw [List.map_reverse, rsum_rev]
theorem ds_rev (s : Rat) (l : List Bh) : ds s l.reverse = ds s l := by
  unfold ds
  rw [List.map_reverse, rsum_rev]
/-- a band told as two -/
def two (l1 l2 : List Bh) (x : Bh) (v : Rat) : List Bh := l1 ++ [((v, x.1.2), x.2), ((x.1.1 - v, x.1.2), x.2)] ++ l2
theorem tm_add (v w s : Rat) (h : Hd) : tm v s h + tm (w - v) s h = tm w s h := by
  unfold tm
  grind
theorem ts_two (s : Rat) (l1 l2 : List Bh) (x : Bh) (v : Rat) : ts s (two l1 l2 x v) = ts s (l1 ++ x :: l2) := by
  unfold ts two
  simp only [List.map_append, List.map_cons, List.map_nil, rsum_append, rsum_cons, rsum_nil]
  have := tm_add v x.1.1 s x.2
  grind
theorem ds_two (s : Rat) (l1 l2 : List Bh) (x : Bh) (v : Rat) : ds s (two l1 l2 x v) = ds s (l1 ++ x :: l2) := by
  unfold ds two
  simp only [List.map_append, List.map_cons, List.map_nil, rsum_append, rsum_cons, rsum_nil]
  have := tm_add v x.1.1 s x.2
  unfold dr
  grind
theorem wd_two (l1 l2 : List Bh) (x : Bh) (v : Rat) : wd (two l1 l2 x v) = wd (l1 ++ x :: l2) := by
  unfold wd two
  simp only [List.map_append, List.map_cons, List.map_nil, rsum_append, rsum_cons, rsum_nil]
  grind
theorem wc_two (l1 l2 : List Bh) (x : Bh) (v : Rat) : wc (two l1 l2 x v) = wc (l1 ++ x :: l2) := by
  unfold wc two
  simp only [List.map_append, List.map_cons, List.map_nil, rsum_append, rsum_cons, rsum_nil]
  grind
theorem ts_broad (s m : Rat) (l : List Bh) : ts s (l.map fun x => ((x.1.1 * m, x.1.2), x.2)) = ts s l * m := by
  unfold ts
  rw [List.map_map, ← rsum_map_mul]
  refine rsum_congr l fun x _ => ?_
  simp only [Function.comp, tm]
  grind
theorem ds_broad (s m : Rat) (l : List Bh) : ds s (l.map fun x => ((x.1.1 * m, x.1.2), x.2)) = ds s l * m := by
  unfold ds
  rw [List.map_map, ← rsum_map_mul]
  refine rsum_congr l fun x _ => ?_
  simp only [Function.comp, dr, tm]
  grind
theorem ts_fast (s m : Rat) (hm : m ≠ 0) (l : List Bh) : ts (s * m) (l.map fun x => ((x.1.1, x.1.2 * m), x.2)) = ts s l * m⁻¹ := by
  unfold ts
  rw [List.map_map, ← rsum_map_mul]
  refine rsum_congr l fun x _ => ?_
  simp only [Function.comp, tm]
  grind
theorem ds_fast (s m : Rat) (hm : m ≠ 0) (hs : s ≠ 0) (l : List Bh) (hl : ∀ x ∈ l, x.2 ∈ HL) : ds (s * m) (l.map fun x => ((x.1.1, x.1.2 * m), x.2)) = ds s l := by
  unfold ds
  rw [List.map_map]
  refine rsum_congr l fun x hx => ?_
  obtain ⟨n1, n2, _, _⟩ := hd_ne (hl x hx)
  simp only [Function.comp, dr, tm]
  grind
theorem over_t (s : Rat) (hs : s ≠ 0) (l : List Bh) : ts s (l.map fun x => (x.1, ((0, 1, 1) : Hd))) = wd l / s := by
  unfold ts wd
  rw [List.map_map, Rat.div_def, ← rsum_map_mul]
  refine rsum_congr l fun x _ => ?_
  simp only [Function.comp, tm]
  have e : ((1 : Int) : Rat) = 1 := rfl
  rw [e]
  grind
theorem over_d (s : Rat) (hs : s ≠ 0) (l : List Bh) : ds s (l.map fun x => (x.1, ((0, 1, 1) : Hd))) = wc l / s := by
  unfold ds wc
  rw [List.map_map, Rat.div_def, ← rsum_map_mul]
  refine rsum_congr l fun x _ => ?_
  simp only [Function.comp, dr, tm]
  have e : ((1 : Int) : Rat) = 1 := rfl
  have e0 : ((0 : Int) : Rat) = 0 := rfl
  rw [e, e0]
  grind
/-! drifts are not too great -/
structure Dn (r : Rat) : Prop where
  ex : ∃ n m : Int, r = (n : Rat) / (m : Rat) ∧ 0 ≤ n ∧ n ≤ 12 ∧ 1 ≤ m ∧ m ≤ 3
theorem six {m : Int} (h1 : 1 ≤ m) (h2 : m ≤ 3) : m * (6 / m) = 6 ∧ 2 ≤ 6 / m ∧ 6 / m ≤ 6 := by
  have : m = 1 ∨ m = 2 ∨ m = 3 := by omega
  rcases this with rfl | rfl | rfl <;> decide
theorem dr_dv {w c s : Rat} {h : Hd} {p q : Int} (hw : Dn w) (hc : Dn c) (hh : h ∈ HL) (hs : s = (p : Rat) / (q : Rat)) (p1 : 1 ≤ p) (p2 : p ≤ 12) (q1 : 1 ≤ q) (q2 : q ≤ 3) :
    ∃ z : Int, dr (w, c) s h * ((2160 * p : Int) : Rat) = (z : Rat) ∧ -31000000 ≤ z ∧ z ≤ 31000000 := by
  obtain ⟨n1, m1, rfl, a1, a2, a3, a4⟩ := hw.ex
  obtain ⟨n2, m2, rfl, b1, b2, b3, b4⟩ := hc.ex
  obtain ⟨h1, h2, h3, h4, h5, h6, h7, _⟩ := HL_bd h hh
  obtain ⟨s1, s2, s3⟩ := six a3 a4
  obtain ⟨t1, t2, t3⟩ := six b3 b4
  generalize eu : 6 / m1 = u at s1 s2 s3
  generalize ev : 6 / m2 = v at t1 t2 t3
  generalize et : 60 / h.2.1 = t at h7
  have tb : 1 ≤ t ∧ t ≤ 60 := by
    have k1 : 0 < t := Int.pos_of_mul_pos_right (a := h.2.1) (by omega) (by omega)
    have k2 : 1 * t ≤ h.2.1 * t := Int.mul_le_mul_of_nonneg_right h1 (by omega)
    omega
  refine ⟨n1 * h.1 * (t * u) * (6 * p) + n1 * n2 * h.2.2 * q * (t * u * v), ?_, ?_⟩
  · subst hs
    have m1' : (m1 : Rat) ≠ 0 := Rat.ne_of_gt (Rat.intCast_pos.mpr (by omega))
    have m2' : (m2 : Rat) ≠ 0 := Rat.ne_of_gt (Rat.intCast_pos.mpr (by omega))
    have p' : (p : Rat) ≠ 0 := Rat.ne_of_gt (Rat.intCast_pos.mpr (by omega))
    have q' : (q : Rat) ≠ 0 := Rat.ne_of_gt (Rat.intCast_pos.mpr (by omega))
    obtain ⟨k1, k2, _, _⟩ := hd_ne hh
    have E1 : (m1 : Rat) * (u : Rat) = 6 := by rw [← Rat.intCast_mul, s1]; rfl
    have E2 : (m2 : Rat) * (v : Rat) = 6 := by rw [← Rat.intCast_mul, t1]; rfl
    have E3 : (h.2.1 : Rat) * (t : Rat) = 60 := by rw [← Rat.intCast_mul, h7]; rfl
    simp only [dr, tm, Rat.intCast_add, Rat.intCast_mul]
    have c1 : ((2160 : Int) : Rat) = 2160 := rfl
    have c2 : ((6 : Int) : Rat) = 6 := rfl
    rw [c1, c2]
    generalize (h.2.1 : Rat) = ac at *
    generalize (h.2.2 : Rat) = wh at *
    generalize (h.1 : Rat) = al at *
    generalize (m1 : Rat) = m1 at *
    generalize (m2 : Rat) = m2 at *
    generalize (n1 : Rat) = n1 at *
    generalize (n2 : Rat) = n2 at *
    generalize (p : Rat) = p at *
    generalize (q : Rat) = q at *
    generalize (u : Rat) = u at *
    generalize (v : Rat) = v at *
    generalize (t : Rat) = t at *
    have f1 : n1 / m1 = n1 * u / 6 := by grind
    have f2 : n2 / m2 = n2 * v / 6 := by grind
    have f3 : ac⁻¹ = t / 60 := by grind
    have f4 : n1 / m1 * wh / (p / q * ac) = n1 * u / 6 * wh * q * p⁻¹ * (t / 60) := by rw [f1]; grind
    rw [f4, f2]
    grind
  · have ab : ∀ {a b x y : Int}, 0 ≤ a → a ≤ x → 0 ≤ b → b ≤ y → 0 ≤ a * b ∧ a * b ≤ x * y := fun h1 h2 h3 h4 => ⟨Int.mul_nonneg h1 h3, Int.mul_le_mul h2 h4 h3 (by omega)⟩
    obtain ⟨i1, i2⟩ := ab (a := t) (b := u) (x := 60) (y := 6) (by omega) (by omega) (by omega) (by omega)
    obtain ⟨i3, i4⟩ := ab (a := t * u) (b := v) (x := 360) (y := 6) (by omega) (by omega) (by omega) (by omega)
    obtain ⟨i5, i6⟩ := ab (a := n1) (b := n2) (x := 12) (y := 12) (by omega) (by omega) (by omega) (by omega)
    obtain ⟨i7, i8⟩ := ab (a := n1 * n2) (b := h.2.2) (x := 144) (y := 17) (by omega) (by omega) (by omega) (by omega)
    obtain ⟨i9, i10⟩ := ab (a := n1 * n2 * h.2.2) (b := q) (x := 2448) (y := 3) (by omega) (by omega) (by omega) (by omega)
    obtain ⟨i11, i12⟩ := ab (a := n1 * n2 * h.2.2 * q) (b := t * u * v) (x := 7344) (y := 2160) (by omega) (by omega) (by omega) (by omega)
    obtain ⟨j1, j2⟩ := ab (a := n1) (b := h.1 + 12) (x := 12) (y := 24) (by omega) (by omega) (by omega) (by omega)
    have j3 : n1 * (h.1 + 12) = n1 * h.1 + n1 * 12 := Int.mul_add ..
    have j4 : -144 ≤ n1 * h.1 ∧ n1 * h.1 ≤ 288 := by omega
    obtain ⟨j5, j6⟩ := ab (a := n1 * h.1 + 144) (b := t * u) (x := 432) (y := 360) (by omega) (by omega) (by omega) (by omega)
    have j7 : (n1 * h.1 + 144) * (t * u) = n1 * h.1 * (t * u) + 144 * (t * u) := Int.add_mul ..
    have j8 : -51840 ≤ n1 * h.1 * (t * u) ∧ n1 * h.1 * (t * u) ≤ 155520 := by omega
    obtain ⟨j9, j10⟩ := ab (a := n1 * h.1 * (t * u) + 51840) (b := 6 * p) (x := 207360) (y := 72) (by omega) (by omega) (by omega) (by omega)
    have j11 : (n1 * h.1 * (t * u) + 51840) * (6 * p) = n1 * h.1 * (t * u) * (6 * p) + 51840 * (6 * p) := Int.add_mul ..
    omega
theorem ds_dv {s : Rat} {p q : Int} (hs : s = (p : Rat) / (q : Rat)) (p1 : 1 ≤ p) (p2 : p ≤ 12) (q1 : 1 ≤ q) (q2 : q ≤ 3) : ∀ l : List Bh, (∀ x ∈ l, Dn x.1.1 ∧ Dn x.1.2 ∧ x.2 ∈ HL) → ∃ z : Int, ds s l * ((2160 * p : Int) : Rat) = (z : Rat) ∧ -31000000 * (l.length : Int) ≤ z ∧ z ≤ 31000000 * (l.length : Int)
  | [], _ => ⟨0, by show (0 : Rat) * _ = _; rw [Rat.zero_mul]; rfl, by simp, by simp⟩
  | x :: l, h => by
    obtain ⟨z1, e1, b1, b2⟩ := dr_dv (h x List.mem_cons_self).1 (h x List.mem_cons_self).2.1 (h x List.mem_cons_self).2.2 hs p1 p2 q1 q2
    obtain ⟨z2, e2, c1, c2⟩ := ds_dv hs p1 p2 q1 q2 l fun y hy => h y (List.mem_cons_of_mem _ hy)
    refine ⟨z1 + z2, ?_, by rw [List.length_cons]; push_cast; omega, by rw [List.length_cons]; push_cast; omega⟩
    have : ds s (x :: l) = dr x.1 s x.2 + ds s l := by unfold ds; rw [List.map_cons, rsum_cons]
    rw [this, Rat.add_mul, e2, Rat.intCast_add]
    rw [show dr x.1 s x.2 = dr (x.1.1, x.1.2) s x.2 from rfl, e1]
theorem dv_bd {r : Rat} {n z b : Int} (h : r * (n : Rat) = (z : Rat)) (hn : 0 < n) (h1 : -b ≤ z) (h2 : z ≤ b) : r.num.natAbs ≤ b.toNat ∧ (r.den : Int) ≤ n := by
  have hn' : (n : Rat) ≠ 0 := Rat.ne_of_gt (Rat.intCast_pos.mpr hn)
  have e : r = Rat.divInt z n := by
    rw [Rat.divInt_eq_div, ← h, Rat.mul_div_cancel hn']
  constructor
  · rw [e, Rat.num_divInt, Int.sign_eq_one_of_pos hn, Int.one_mul]
    refine Nat.le_trans (natAbs_div_le _ _) ?_
    omega
  · rw [e, Rat.den_divInt, if_neg (by omega)]
    have := Nat.div_le_self n.natAbs (n.gcd z)
    omega
end Z
namespace Z
open PySem PySem.Spec PyProof.Rows L2 Y

theorem draw_ok {t : St4} {m : Int} (h : Wf t) (h0 : 0 < m) (h1 : m < 2 ^ 63) : g__law_draw ((m, ()), t) ∧ 0 ≤ (m__law_draw ((m, ()), t)).1 ∧ (m__law_draw ((m, ()), t)).1 < m ∧ Wf (m__law_draw ((m, ()), t)).2 := by
  obtain ⟨xs, a, i, z⟩ := t
  obtain ⟨w1, w2, w3, w4, w5, w6⟩ := h
  simp only at w1 w2 w3 w4 w5 w6
  have dm : ∀ x : Int, CDivW x m := fun x => ⟨h0, Nat.lt_trans (log2_lt (k := 62) (by omega)) (by decide)⟩
  have d13 : ∀ x : Int, CDivW x 13 := fun x => ⟨by decide, by decide⟩
  have em : ∀ x : Int, 0 ≤ x % m ∧ x % m < m := fun x => ⟨Int.emod_nonneg _ (by omega), Int.emod_lt_of_pos _ h0⟩
  have ed : ∀ x : Int, 0 ≤ x → 0 ≤ x / m := fun x hx => Int.ediv_nonneg hx (by omega)
  have cm : CMul z 48271 := .inr ⟨by decide, by decide⟩
  unfold g__law_draw m__law_draw o__law_draw
  simp only [true_and, and_true, implies_true, dm, d13, cm, h0]
  by_cases c0 : a = 0
  · by_cases c1 : (xs.length : Int) ≤ i
    · have hc : (decide (a = 0) && decide ((xs.length : Int) ≤ i)) = true := by simp [c0, c1]
      have hz : 0 ≤ (z * 48271 + 69621) % 2147483629 ∧ (z * 48271 + 69621) % 2147483629 ≤ 2147483629 := by omega
      rw [hc]
      simp only [true_implies, Bool.true_eq_false, false_implies, and_true, if_true, ret_rt]
      exact ⟨by decide, (em _).1, (em _).2, w1, w2, w3, w4, hz⟩
    · have hc : (decide (a = 0) && decide ((xs.length : Int) ≤ i)) = false := by simp [c1]
      have hi : CIx xs i := cix_of w3 (by omega)
      have hk : decide (a = 0) = true := by simp [c0]
      have hi2 : 0 ≤ i + 1 ∧ i + 1 ≤ (xs.length : Int) := by omega
      rw [hc]
      simp only [hk, hi, true_implies, Bool.false_eq_true, Bool.true_eq_false, false_implies, and_true, true_and, if_true, if_false, ret_rt]
      exact ⟨(em _).1, (em _).2, w1, ed _ (by omega), hi2.1, hi2.2, w5, w6⟩
  · have hc : (decide (a = 0) && decide ((xs.length : Int) ≤ i)) = false := by simp [c0]
    have hk : decide (a = 0) = false := by simp [c0]
    rw [hc]
    simp only [hk, true_implies, Bool.false_eq_true, Bool.true_eq_false, false_implies, and_true, true_and, if_false, ret_rt]
    exact ⟨(em _).1, (em _).2, w1, ed _ w2, w3, w4, w5, w6⟩

theorem law_pick_BA_ok {t : St4} {xs : List ((Int × Int) × (Int × Int))} (h : Wf t) (h0 : xs ≠ []) (h1 : xs.length < 1000) : g__law_pick_BA ((xs, ()), t) ∧ (m__law_pick_BA ((xs, ()), t)).1 ∈ xs ∧ Wf (m__law_pick_BA ((xs, ()), t)).2 := by
  have hl : 0 < xs.length := List.length_pos_iff.mpr h0
  obtain ⟨d1, d2, d3, d4⟩ := draw_ok (m := (xs.length : Int)) h (by omega) (by omega)
  unfold g__law_pick_BA m__law_pick_BA o__law_pick_BA
  simp only [true_and, and_true, ret_rt]
  exact ⟨⟨d1, cix_of d2 d3⟩, ixD_mem d2 d3, d4⟩

theorem law_pick_HD_ok {t : St4} {xs : List (Int × Int × Int)} (h : Wf t) (h0 : xs ≠ []) (h1 : xs.length < 1000) : g__law_pick_HD ((xs, ()), t) ∧ (m__law_pick_HD ((xs, ()), t)).1 ∈ xs ∧ Wf (m__law_pick_HD ((xs, ()), t)).2 := by
  have hl : 0 < xs.length := List.length_pos_iff.mpr h0
  obtain ⟨d1, d2, d3, d4⟩ := draw_ok (m := (xs.length : Int)) h (by omega) (by omega)
  unfold g__law_pick_HD m__law_pick_HD o__law_pick_HD
  simp only [true_and, and_true, ret_rt]
  exact ⟨⟨d1, cix_of d2 d3⟩, ixD_mem d2 d3, d4⟩

theorem law_same_Q_ok {x y : Int × Int} (h : x = y) (hs : Shw ((c2 cI cI) x)) : g__law_same_Q (x, y, ()) ∧ m__law_same_Q (x, y, ()) = true := by
  subst h
  unfold g__law_same_Q m__law_same_Q o__law_same_Q
  simp only [eqv_T (cq_2 cq_I cq_I), decide_true, Bool.and_self, ret_rt, hs, true_and, and_true, implies_true]

theorem law_same_QQ_ok {x y : (Int × Int) × (Int × Int)} (h : x = y) (hs : Shw ((c2 (c2 cI cI) (c2 cI cI)) x)) : g__law_same_QQ (x, y, ()) ∧ m__law_same_QQ (x, y, ()) = true := by
  subst h
  unfold g__law_same_QQ m__law_same_QQ o__law_same_QQ
  simp only [eqv_T (cq_2 (cq_2 cq_I cq_I) (cq_2 cq_I cq_I)), decide_true, Bool.and_self, ret_rt, hs, true_and, and_true, implies_true]

theorem law_same_LQ_ok {x y : List (Int × Int)} (h : x = y) (hs : Shw ((cL (c2 cI cI)) x)) : g__law_same_LQ (x, y, ()) ∧ m__law_same_LQ (x, y, ()) = true := by
  subst h
  unfold g__law_same_LQ m__law_same_LQ o__law_same_LQ
  simp only [eqv_T (cq_L (cq_2 cq_I cq_I)), decide_true, Bool.and_self, ret_rt, hs, true_and, and_true, implies_true]

theorem law_same_X_ok {x y : List PyData} (h : x = y) (hc : SeqAt.shaped ((cL cD) x) = true) (hs : Shw ((cL cD) x)) : g__law_same_X (x, y, ()) ∧ m__law_same_X (x, y, ()) = true := by
  subst h
  unfold g__law_same_X m__law_same_X o__law_same_X
  have e : PyData.eqv ((cL cD) x) ((cL cD) x) = true := PySem.SeqAt.eqv_refl _ (shaped_lay hc)
  simp only [e, hc, decide_true, Bool.and_self, ret_rt, hs, true_and, and_true, implies_true]

theorem law_same_LL_ok {x y : List (PySem.Str × (Int × Int))} (h : x = y) (hc : SeqAt.shaped ((cL (c2 cS (c2 cI cI))) x) = true) (hs : Shw ((cL (c2 cS (c2 cI cI))) x)) : g__law_same_LL (x, y, ()) ∧ m__law_same_LL (x, y, ()) = true := by
  subst h
  unfold g__law_same_LL m__law_same_LL o__law_same_LL
  have e : PyData.eqv ((cL (c2 cS (c2 cI cI))) x) ((cL (c2 cS (c2 cI cI))) x) = true := PySem.SeqAt.eqv_refl _ (shaped_lay hc)
  simp only [e, hc, decide_true, Bool.and_self, ret_rt, hs, true_and, and_true, implies_true]

theorem m_isint (x : Int) : m_is_integer (x, ()) = true := rfl
theorem g_isint (x : Int) : g_is_integer (x, ()) := by unfold g_is_integer; simp

theorem gd_ok {a b : Int} (ha : 0 ≤ a) (hb : 0 ≤ b) : g_greatest_divisor (a, b, ()) ∧ m_greatest_divisor (a, b, ()) = (Int.gcd a b : Int) := by
  obtain ⟨h1, h2⟩ := gcd_loop (S := Empty) (c := kt1_greatest_divisor) (f := k1_greatest_divisor) (gc := ktg1_greatest_divisor) (gb := kg1_greatest_divisor) (fun a b _ => rfl) (fun a b => rfl) (fun a b _ => ⟨trivial, trivial, trivial⟩) (fun a b h => by unfold kg1_greatest_divisor; simp [h]) (b.toNat + 1) a b ha hb (by omega)
  unfold g_greatest_divisor m_greatest_divisor o_greatest_divisor
  dsimp only
  rw [h1]
  exact ⟨⟨h2, fun _ _ => trivial⟩, rfl⟩

theorem quot_ok {a b : Int} {k : Nat} (hb : b ≠ 0) (h1 : a.natAbs < 2 ^ k) (h2 : b.natAbs < 2 ^ k) (hk : k ≤ 8000) : g_quotient (a, b, ()) ∧ m_quotient (a, b, ()) = qp (Rat.divInt a b) := by
  have key : ∀ a b : Int, 0 < b → b.natAbs < 2 ^ k → (g_greatest_divisor ((a.natAbs : Int), b, ()) ∧ CDivW a (m_greatest_divisor ((a.natAbs : Int), b, ())) ∧ CDivW b (m_greatest_divisor ((a.natAbs : Int), b, ()))) ∧ (a / m_greatest_divisor ((a.natAbs : Int), b, ()), b / m_greatest_divisor ((a.natAbs : Int), b, ())) = qp (Rat.divInt a b) := fun a b h h2 => by
    obtain ⟨d1, d2⟩ := gd_ok (a := (a.natAbs : Int)) (b := b) (by omega) (by omega)
    rw [d2, gcd_abs]
    exact ⟨⟨d1, gcd_bd h h2 hk, gcd_bd h h2 hk⟩, qp_div h⟩
  unfold g_quotient m_quotient o_quotient
  dsimp only
  by_cases c : b < 0
  · obtain ⟨⟨k1, k2, k3⟩, k4⟩ := key (-a) (-b) (by omega) (by rw [Int.natAbs_neg]; exact h2)
    rw [if_pos (decide_eq_true c)]
    rw [Rat.neg_divInt_neg] at k4
    simp only [k1, k2, k3, true_and, and_true, implies_true, ret_rt]
    exact k4
  · obtain ⟨⟨k1, k2, k3⟩, k4⟩ := key a b (by omega) h2
    rw [if_neg (by rw [decide_eq_false c]; exact Bool.false_ne_true)]
    simp only [k1, k2, k3, true_and, and_true, implies_true, ret_rt]
    exact k4

theorem plus_ok {a b : Rat} {k l : Nat} (h1 : Sz k a) (h2 : Sz l b) (hk : k + l + 1 ≤ 8000) : g_plus (qp a, qp b, ()) ∧ m_plus (qp a, qp b, ()) = qp (a + b) := by
  obtain ⟨q1, q2⟩ := quot_ok (dens_ne a b) (h1.upAdd h2) (abs_mono (h1.dens h2) (by omega)) hk
  rw [div_add] at q2
  have c1 := cmw h1.1 h2.d (by omega)
  have c2 := cmw h2.1 h1.d (by omega)
  have c3 := cmw h1.d h2.d (by omega)
  unfold g_plus m_plus o_plus qp
  unfold qp at q2
  simp only [c1, c2, c3, q1, true_and, and_true, ret_rt]
  exact q2

theorem times_ok {a b : Rat} {k l : Nat} (h1 : Sz k a) (h2 : Sz l b) (hk : k + l ≤ 8000) : g_times (qp a, qp b, ()) ∧ m_times (qp a, qp b, ()) = qp (a * b) := by
  obtain ⟨q1, q2⟩ := quot_ok (dens_ne a b) (mul_abs h1.1 h2.1) (h1.dens h2) hk
  rw [div_mul] at q2
  have c1 := cmw h1.1 h2.1 (by omega)
  have c3 := cmw h1.d h2.d (by omega)
  unfold g_times m_times o_times qp
  unfold qp at q2
  simp only [c1, c3, q1, true_and, and_true, ret_rt]
  exact q2

theorem over_ok {a b : Rat} {k l : Nat} (h1 : Sz k a) (h2 : Sz l b) (hb : b ≠ 0) (hk : k + l ≤ 8000) : g_over (qp a, qp b, ()) ∧ m_over (qp a, qp b, ()) = qp (a / b) := by
  have hn : (a.den : Int) * b.num ≠ 0 := by
    have h3 := den_pos a
    exact Int.mul_ne_zero (by omega) fun e => hb (Rat.num_eq_zero.mp e)
  obtain ⟨q1, q2⟩ := quot_ok hn (mul_abs h1.1 h2.d) (mul_abs h1.d h2.1) hk
  rw [div_div] at q2
  have c1 := cmw h1.1 h2.d (by omega)
  have c3 := cmw h1.d h2.1 (by omega)
  unfold g_over m_over o_over qp
  unfold qp at q2
  simp only [c1, c3, q1, true_and, and_true, ret_rt]
  exact q2

theorem less_ok {a b : Rat} {k l : Nat} (h1 : Sz k a) (h2 : Sz l b) (hk : k + l ≤ 8000) : g_is_less (qp a, qp b, ()) ∧ m_is_less (qp a, qp b, ()) = decide (a < b) := by
  have c1 := cmw h1.1 h2.d (by omega)
  have c3 := cmw h2.1 h1.d (by omega)
  unfold g_is_less m_is_less o_is_less qp
  simp only [c1, c3, true_and, and_true, ret_rt]
  exact decide_eq_decide.mpr (Rat.lt_iff a b).symm

theorem sum_go {k : Nat} : ∀ (xs : List Rat) (t : Rat) (n : Nat), Sz n t → (∀ x ∈ xs, Sz k x) → n + (k + 1) * xs.length ≤ 8000 → forN kg1_sum_of k1_sum_of (qp t) (xs.map qp) ∧ (xs.map qp).foldl (fun m x => k1_sum_of (m, x)) (qp t) = qp (xs.foldl (· + ·) t) ∧ Sz (n + (k + 1) * xs.length) (xs.foldl (· + ·) t)
  | [], t, n, h, _, _ => ⟨trivial, rfl, h⟩
  | x :: xs, t, n, h, hx, hn => by
    have h1 := hx x List.mem_cons_self
    rw [List.length_cons, Nat.mul_add] at hn
    obtain ⟨p1, p2⟩ := plus_ok h h1 (by omega)
    obtain ⟨i1, i2, i3⟩ := sum_go xs (t + x) (n + k + 1) (h.add h1) (fun y hy => hx y (List.mem_cons_of_mem _ hy)) (by omega)
    have e : k1_sum_of (qp t, qp x) = qp (t + x) := p2
    refine ⟨⟨?_, ?_⟩, ?_, ?_⟩
    · unfold kg1_sum_of
      simp only [p1, true_and, and_true]
    · show forN kg1_sum_of k1_sum_of (k1_sum_of (qp t, qp x)) (xs.map qp)
      rw [e]; exact i1
    · rw [List.map_cons, List.foldl_cons, e]
      exact i2
    · rw [List.foldl_cons, List.length_cons, Nat.mul_add]
      exact i3.mono (by omega)
theorem sum_ok {k : Nat} {xs : List Rat} (h : ∀ x ∈ xs, Sz k x) (hn : 1 + (k + 1) * xs.length ≤ 8000) : g_sum_of (xs.map qp, ()) ∧ m_sum_of (xs.map qp, ()) = qp (rsum xs) ∧ Sz (1 + (k + 1) * xs.length) (rsum xs) := by
  obtain ⟨i1, i2, i3⟩ := sum_go xs 0 1 Sz.zero h hn
  unfold g_sum_of m_sum_of o_sum_of
  simp only [true_and, and_true, ret_rt]
  exact ⟨i1, i2, i3⟩

theorem isq_ok (a : Rat) : g_is_quotient (qp a, ()) ∧ m_is_quotient (qp a, ()) = true := by
  have hd := den_pos a
  obtain ⟨d1, d2⟩ := gd_ok (a := (a.num.natAbs : Int)) (b := (a.den : Int)) (by omega) (by omega)
  have e : Int.gcd (a.num.natAbs : Int) (a.den : Int) = 1 := by
    rw [gcd_abs]
    have := a.reduced
    unfold Nat.Coprime at this
    unfold Int.gcd
    rw [Int.natAbs_natCast]
    exact this
  have hd1 : decide ((1 : Int) ≤ (a.den : Int)) = true := decide_eq_true (by omega)
  unfold g_is_quotient m_is_quotient o_is_quotient qp
  simp only [d1, d2, e, hd1, g_isint, m_isint, List.map_cons, List.map_nil, List.all_cons, List.all_nil, List.length_cons, List.length_nil, id_eq, Bool.and_self, Bool.not_true, Bool.not_false, Bool.false_eq_true, Bool.true_eq_false, true_and, and_true, implies_true, false_implies, true_implies, if_false, if_true, ret_rt, Bool.false_or, Bool.or_false]
  simp

theorem isn_ok {a : Rat} (h1 : a.num.natAbs ≤ 1000000000000) (h2 : (a.den : Int) ≤ 1000000000000) : g_is_number (qp a, ()) ∧ m_is_number (qp a, ()) = true := by
  obtain ⟨q1, q2⟩ := isq_ok a
  have c1 : decide (((qp a).1.natAbs : Int) ≤ 1000000000000) = true := decide_eq_true (show ((a.num.natAbs : Nat) : Int) ≤ _ by omega)
  have c2 : decide ((qp a).2 ≤ 1000000000000) = true := decide_eq_true h2
  unfold g_is_number m_is_number o_is_number
  simp only [q1, q2, c1, c2, true_and, and_true, implies_true, ret_rt, Bool.and_self]

theorem low_ok {a b : Int} {k : Nat} (hb : 0 < b) (h2 : b.natAbs < 2 ^ k) (hk : k ≤ 8000) : g__law_low (a, b, ()) ∧ m__law_low (a, b, ()) = qp (Rat.divInt a b) := by
  obtain ⟨e1, e2⟩ := gcd_loop (S := Empty) (c := kt1__law_low) (f := k1__law_low) (gc := ktg1__law_low) (gb := kg1__law_low) (fun a b h => by
    show (!decide (b = 0)) = decide (0 < b)
    by_cases c : b = 0
    · subst c; rfl
    · rw [decide_eq_false c, decide_eq_true (by omega)]; rfl) (fun a b => rfl) (fun a b _ => ⟨trivial, trivial, trivial⟩) (fun a b h => by unfold kg1__law_low; simp [h]) (b.toNat + 1) (a.natAbs : Int) b (by omega) (by omega) (by omega)
  unfold g__law_low m__law_low o__law_low
  dsimp only
  rw [e1, gcd_abs]
  refine ⟨⟨⟨⟨⟨trivial, trivial⟩, trivial⟩, trivial, trivial⟩, e2, fun l e => ?_⟩, qp_div hb⟩
  have c1 := gcd_bd (a := a) hb h2 hk
  have c2 := gcd_bd (a := a) hb h2 hk
  injection e with e
  rw [← e]
  exact ⟨⟨trivial, trivial, c1⟩, ⟨trivial, trivial, c1.1, c1.2⟩, trivial⟩

theorem lplus_ok {a b : Rat} {k l : Nat} (h1 : Sz k a) (h2 : Sz l b) (hk : k + l + 1 ≤ 8000) : g__law_plus (qp a, qp b, ()) ∧ m__law_plus (qp a, qp b, ()) = qp (a + b) := by
  have hd : 0 < (a.den : Int) * b.den := Int.mul_pos (den_pos a) (den_pos b)
  obtain ⟨q1, q2⟩ := low_ok (a := a.num * b.den + b.num * a.den) hd (h1.dens h2) (by omega)
  rw [div_add] at q2
  have c1 := cmw h1.1 h2.d (by omega)
  have c2 := cmw h2.1 h1.d (by omega)
  have c3 := cmw h1.d h2.d (by omega)
  unfold g__law_plus m__law_plus o__law_plus qp
  unfold qp at q2
  simp only [c1, c2, c3, q1, true_and, and_true, ret_rt]
  exact q2

theorem lmul_ok {a b : Rat} {k l : Nat} (h1 : Sz k a) (h2 : Sz l b) (hk : k + l ≤ 8000) : g__law_mul (qp a, qp b, ()) ∧ m__law_mul (qp a, qp b, ()) = qp (a * b) := by
  have hd : 0 < (a.den : Int) * b.den := Int.mul_pos (den_pos a) (den_pos b)
  obtain ⟨q1, q2⟩ := low_ok (a := a.num * b.num) hd (h1.dens h2) (by omega)
  rw [div_mul] at q2
  have c1 := cmw h1.1 h2.1 (by omega)
  have c3 := cmw h1.d h2.d (by omega)
  unfold g__law_mul m__law_mul o__law_mul qp
  unfold qp at q2
  simp only [c1, c3, q1, true_and, and_true, ret_rt]
  exact q2

end Z
namespace Z
open PySem PySem.Spec PyProof.Rows L2 Y
structure LOk (l : List Bh) : Prop where
  l0 : 1 ≤ l.length
  l1 : l.length ≤ 6
  e : ∀ x ∈ l, 0 < x.1.1 ∧ 0 ≤ x.1.2 ∧ Sz 14 x.1.1 ∧ Sz 14 x.1.2 ∧ x.2 ∈ HL
def bp (b : Rat × Rat) : (Int × Int) × (Int × Int) := (qp b.1, qp b.2)
def bnd (l : List Bh) : List ((Int × Int) × (Int × Int)) := l.map fun x => bp x.1
def hds (l : List Bh) : List Hd := l.map fun x => x.2
theorem m_head : ∀ h ∈ HL, m_is_heading (h, ()) = true := by decide +kernel
theorem g_head {h : Hd} (hh : h ∈ HL) : g_is_heading (h, ()) := by
  obtain ⟨h1, h2, h3, h4, h5, h6, _⟩ := HL_bd h hh
  have cm : ∀ x y : Int, -20 ≤ x → x ≤ 20 → CMul x y := fun x y _ _ => .inl ⟨by omega, by omega⟩
  obtain ⟨d1, d2⟩ := gd_ok (a := (h.1.natAbs : Int)) (b := h.2.1) (by omega) (by omega)
  obtain ⟨d3, d4⟩ := gd_ok (a := (Int.gcd (h.1.natAbs : Int) h.2.1 : Int)) (b := h.2.2) (by omega) (by omega)
  unfold g_is_heading
  simp only [g_isint, cm h.1 h.1 (by omega) (by omega), cm h.2.1 h.2.1 (by omega) (by omega), cm h.2.2 h.2.2 (by omega) (by omega), d1, d2, d3, true_and, and_true, implies_true]
theorem g_bands {l : List Bh} (h : LOk l) : g_check_bands (bnd l, ()) := by
  have h0 := h.l0
  have h1 := h.l1
  unfold g_check_bands
  have e1 : decide ((1 : Int) ≤ ((bnd l).length : Int)) = true := by unfold bnd; rw [List.length_map]; simp; omega
  have e2 : decide (((bnd l).length : Int) ≤ 6) = true := by unfold bnd; rw [List.length_map]; simp; omega
  simp only [e1, e2, true_and, and_true, implies_true, Bool.and_self, Bool.not_true, Bool.or_self, Bool.or_false]
  refine forN_all _ _ fun _ x hx => ?_
  obtain ⟨b, hb, rfl⟩ := List.mem_map.mp hx
  obtain ⟨k1, k2, k3, k4, _⟩ := h.e b hb
  have n1 := isn_ok (k3.mono (by decide) : Sz 39 _).num12.1 (k3.mono (by decide) : Sz 39 _).num12.2
  have n2 := isn_ok (k4.mono (by decide) : Sz 39 _).num12.1 (k4.mono (by decide) : Sz 39 _).num12.2
  have p1 := num_pos k1
  have p2 := num_nn k2
  have c1 : decide ((qp b.1.1).1 ≤ 0) = false := decide_eq_false (show ¬ b.1.1.num ≤ 0 by omega)
  have c2 : decide ((qp b.1.2).1 < 0) = false := decide_eq_false (show ¬ b.1.2.num < 0 by omega)
  unfold kg1_check_bands bp
  simp only [n1.2, n2.2, c1, c2, List.map_cons, List.map_nil, List.all_cons, List.all_nil, id_eq, List.length_cons, List.length_nil, Bool.and_self, Bool.not_true, Bool.not_false, Bool.or_self, true_and, and_true, implies_true]
  refine ⟨fun _ _ x hx => ?_, by simp⟩
  simp only [List.mem_cons, List.not_mem_nil, or_false] at hx
  rcases hx with rfl | rfl
  · exact n1.1
  · exact n2.1
theorem g_speed {s : Rat} (h0 : 0 < s) (h1 : Sz 14 s) : g_check_speed (qp s, ()) := by
  have n1 := isn_ok (h1.mono (by decide) : Sz 39 _).num12.1 (h1.mono (by decide) : Sz 39 _).num12.2
  have p1 := num_pos h0
  have c1 : decide ((qp s).1 ≤ 0) = false := decide_eq_false (show ¬ s.num ≤ 0 by omega)
  unfold g_check_speed
  simp only [n1.1, n1.2, c1, true_and, and_true, implies_true, Bool.not_true, Bool.or_self]
theorem g_heads {l : List Bh} (h : LOk l) : g_check_headings (bnd l, hds l, ()) := by
  have e1 : ((hds l).map fun x => m_is_heading (x, ())).all id = true := by
    rw [List.all_eq_true]
    intro y hy
    obtain ⟨x, hx, rfl⟩ := List.mem_map.mp hy
    obtain ⟨b, hb, rfl⟩ := List.mem_map.mp hx
    exact m_head _ (h.e b hb).2.2.2.2
  have e2 : decide (((hds l).length : Int) = ((bnd l).length : Int)) = true := by unfold hds bnd; rw [List.length_map, List.length_map]; simp
  unfold g_check_headings
  simp only [e1, e2, true_and, and_true, implies_true, Bool.not_true, Bool.or_self]
  intro x hx
  obtain ⟨b, hb, rfl⟩ := List.mem_map.mp hx
  exact g_head (h.e b hb).2.2.2.2
theorem sz_h {h : Hd} (hh : h ∈ HL) : Sz 5 (h.1 : Rat) ∧ Sz 5 (h.2.1 : Rat) ∧ Sz 5 (h.2.2 : Rat) := by
  obtain ⟨h1, h2, h3, h4, h5, h6, _⟩ := HL_bd h hh
  exact ⟨.int (by show h.1.natAbs < 32; omega) (by decide), .int (by show h.2.1.natAbs < 32; omega) (by decide), .int (by show h.2.2.natAbs < 32; omega) (by decide)⟩
theorem time_ok {w s : Rat} {h : Hd} (hw : Sz 14 w) (hs : Sz 14 s) (s0 : 0 < s) (hh : h ∈ HL) : g_time_of (qp w, qp s, h, ()) ∧ m_time_of (qp w, qp s, h, ()) = qp (tm w s h) ∧ Sz 38 (tm w s h) := by
  obtain ⟨z1, z2, z3⟩ := sz_h hh
  obtain ⟨n1, n2, p1, p2⟩ := hd_ne hh
  have ne : s * (h.2.1 : Rat) ≠ 0 := Rat.ne_of_gt (Rat.mul_pos s0 p1)
  have t1 := times_ok hw z3 (by decide)
  have t2 := times_ok hs z2 (by decide)
  have t3 := over_ok (hw.mul z3) (hs.mul z2) ne (by decide)
  unfold g_time_of m_time_of o_time_of
  simp only [qp_int, t1.1, t1.2, t2.1, t2.2, t3.1, t3.2, true_and, and_true, ret_rt]
  exact ⟨rfl, (hw.mul z3).div (hs.mul z2) ne⟩
theorem drift_ok {w c s : Rat} {h : Hd} (hw : Sz 14 w) (hc : Sz 14 c) (hs : Sz 14 s) (s0 : 0 < s) (hh : h ∈ HL) : g_drift_of ((qp w, qp c), qp s, h, ()) ∧ m_drift_of ((qp w, qp c), qp s, h, ()) = qp (dr (w, c) s h) ∧ Sz 77 (dr (w, c) s h) := by
  obtain ⟨z1, z2, z3⟩ := sz_h hh
  obtain ⟨n1, n2, p1, p2⟩ := hd_ne hh
  have t1 := times_ok hs z1 (by decide)
  have t2 := over_ok (hs.mul z1) z3 n2 (by decide)
  obtain ⟨t3, t4, t5⟩ := time_ok hw hs s0 hh
  have s1 := ((hs.mul z1).div z3 n2)
  have t6 := plus_ok s1 hc (by decide)
  have s2 := s1.add hc
  have t7 := times_ok t5 s2 (by decide)
  unfold g_drift_of m_drift_of o_drift_of
  simp only [qp_int, t1.1, t1.2, t2.1, t2.2, t3, t4, t6.1, t6.2, t7.1, t7.2, true_and, and_true, ret_rt]
  exact ⟨rfl, t5.mul s2⟩
theorem zip_lh (l : List Bh) : (bnd l).zip (hds l) = l.map fun x => (bp x.1, x.2) := zip_maps _ _ l
theorem cross_ok {l : List Bh} {s : Rat} (h : LOk l) (s0 : 0 < s) (hs : Sz 14 s) : g_crossing_in (bnd l, qp s, hds l, ()) ∧ m_crossing_in (bnd l, qp s, hds l, ()) = (qp (ts s l), qp (ds s l)) ∧ Sz 500 (ts s l) ∧ Sz 500 (ds s l) := by
  have hl := h.l1
  have e1 : ((bnd l).zip (hds l)).map (fun x1 => m_time_of (x1.1.1, qp s, x1.2, ())) = (l.map fun x => tm x.1.1 s x.2).map qp := by
    rw [zip_lh, List.map_map, List.map_map]
    refine List.map_congr_left fun x hx => ?_
    obtain ⟨k1, k2, k3, k4, k5⟩ := h.e x hx
    exact (time_ok k3 hs s0 k5).2.1
  have e2 : ((bnd l).zip (hds l)).map (fun x1 => m_drift_of (x1.1, qp s, x1.2, ())) = (l.map fun x => dr x.1 s x.2).map qp := by
    rw [zip_lh, List.map_map, List.map_map]
    refine List.map_congr_left fun x hx => ?_
    obtain ⟨k1, k2, k3, k4, k5⟩ := h.e x hx
    exact (drift_ok k3 k4 hs s0 k5).2.1
  obtain ⟨a1, a2, a3⟩ := sum_ok (k := 38) (xs := l.map fun x => tm x.1.1 s x.2) (fun y hy => by
    obtain ⟨x, hx, rfl⟩ := List.mem_map.mp hy
    obtain ⟨k1, k2, k3, k4, k5⟩ := h.e x hx
    exact (time_ok k3 hs s0 k5).2.2) (by rw [List.length_map]; omega)
  obtain ⟨b1, b2, b3⟩ := sum_ok (k := 77) (xs := l.map fun x => dr x.1 s x.2) (fun y hy => by
    obtain ⟨x, hx, rfl⟩ := List.mem_map.mp hy
    obtain ⟨k1, k2, k3, k4, k5⟩ := h.e x hx
    exact (drift_ok k3 k4 hs s0 k5).2.2) (by rw [List.length_map]; omega)
  rw [List.length_map] at a3 b3
  unfold g_crossing_in m_crossing_in o_crossing_in
  simp only [e1, e2, a1, a2, b1, b2, true_and, and_true, ret_rt]
  refine ⟨⟨fun x hx => ?_, fun x hx => ?_⟩, rfl, a3.mono (by omega), b3.mono (by omega)⟩
  · rw [zip_lh] at hx
    obtain ⟨y, hy, rfl⟩ := List.mem_map.mp hx
    obtain ⟨k1, k2, k3, k4, k5⟩ := h.e y hy
    exact (time_ok k3 hs s0 k5).1
  · rw [zip_lh] at hx
    obtain ⟨y, hy, rfl⟩ := List.mem_map.mp hx
    obtain ⟨k1, k2, k3, k4, k5⟩ := h.e y hy
    exact (drift_ok k3 k4 hs s0 k5).1
theorem way_ok {l : List Bh} {s : Rat} (h : LOk l) (s0 : 0 < s) (hs : Sz 14 s) : g_way_across (bnd l, qp s, hds l, ()) ∧ m_way_across (bnd l, qp s, hds l, ()) = (qp (ts s l), qp (ds s l)) ∧ Sz 500 (ts s l) ∧ Sz 500 (ds s l) := by
  obtain ⟨c1, c2, c3, c4⟩ := cross_ok h s0 hs
  unfold g_way_across m_way_across o_way_across
  simp only [g_bands h, g_speed s0 hs, g_heads h, c1, c2, true_and, and_true, ret_rt]
  exact ⟨c3, c4⟩
/-! rows by bands -/
def row (s : Rat) (l : List Bh) : (Int × Int) × (Int × Int) × (Int × Int) := (qp (ts s l), qp (wd l), qp (ds s l))
def scn (s : Rat) (l : List Bh) : List ((Int × Int) × (Int × Int) × (Int × Int)) := (List.range l.length).map fun k => row s (l.take (k + 1))
theorem scn_snoc (s : Rat) (l : List Bh) (x : Bh) : scn s (l ++ [x]) = scn s l ++ [row s (l ++ [x])] := by
  unfold scn
  rw [List.length_append, List.length_singleton, List.range_succ, List.map_append, List.map_singleton]
  congr 1
  · refine List.map_congr_left fun k hk => ?_
    rw [List.mem_range] at hk
    rw [List.take_append_of_le_length (by omega)]
  · rw [List.take_of_length_le (by simp)]
theorem ts_snoc (s : Rat) (l : List Bh) (x : Bh) : ts s (l ++ [x]) = ts s l + tm x.1.1 s x.2 := by
  unfold ts
  rw [List.map_append, rsum_append, List.map_singleton, rsum_cons, rsum_nil, Rat.add_zero]
theorem ds_snoc (s : Rat) (l : List Bh) (x : Bh) : ds s (l ++ [x]) = ds s l + dr x.1 s x.2 := by
  unfold ds
  rw [List.map_append, rsum_append, List.map_singleton, rsum_cons, rsum_nil, Rat.add_zero]
theorem wd_snoc (l : List Bh) (x : Bh) : wd (l ++ [x]) = wd l + x.1.1 := by
  unfold wd
  rw [List.map_append, rsum_append, List.map_singleton, rsum_cons, rsum_nil, Rat.add_zero]
theorem sz_sum {k : Nat} : ∀ xs : List Rat, (∀ x ∈ xs, Sz k x) → Sz (1 + (k + 1) * xs.length) (rsum xs)
  | [], _ => Sz.zero
  | x :: xs, h => by
    rw [rsum_cons, List.length_cons, Nat.mul_add]
    exact ((h x List.mem_cons_self).add (sz_sum xs fun y hy => h y (List.mem_cons_of_mem _ hy))).mono (by omega)
theorem sz_tot {l : List Bh} {s : Rat} (hl : l.length ≤ 6) (h : ∀ x ∈ l, 0 < x.1.1 ∧ 0 ≤ x.1.2 ∧ Sz 14 x.1.1 ∧ Sz 14 x.1.2 ∧ x.2 ∈ HL) (s0 : 0 < s) (hs : Sz 14 s) : Sz 500 (ts s l) ∧ Sz 500 (ds s l) ∧ Sz 500 (wd l) := by
  have a := sz_sum (k := 38) (l.map fun x => tm x.1.1 s x.2) fun y hy => by
    obtain ⟨x, hx, rfl⟩ := List.mem_map.mp hy
    obtain ⟨k1, k2, k3, k4, k5⟩ := h x hx
    exact (time_ok k3 hs s0 k5).2.2
  have b := sz_sum (k := 77) (l.map fun x => dr x.1 s x.2) fun y hy => by
    obtain ⟨x, hx, rfl⟩ := List.mem_map.mp hy
    obtain ⟨k1, k2, k3, k4, k5⟩ := h x hx
    exact (drift_ok k3 k4 hs s0 k5).2.2
  have c := sz_sum (k := 14) (l.map fun x => x.1.1) fun y hy => by
    obtain ⟨x, hx, rfl⟩ := List.mem_map.mp hy
    exact (h x hx).2.2.1
  rw [List.length_map] at a b c
  exact ⟨a.mono (by omega), b.mono (by omega), c.mono (by omega)⟩
theorem byb_ok {l : List Bh} {s : Rat} (h : LOk l) (s0 : 0 < s) (hs : Sz 14 s) : g_way_by_bands (bnd l, qp s, hds l, ()) ∧ m_way_by_bands (bnd l, qp s, hds l, ()) = scn s l := by
  have hl := h.l1
  have key := fold_pre (g := fun q : _ × Bh => kg1_way_by_bands (qp s) (q.1, (bp q.2.1, q.2.2))) (f := fun q : _ × Bh => k1_way_by_bands (qp s) (q.1, (bp q.2.1, q.2.2))) (fun l1 => ((scn s l1, [qp (ts s l1), qp (wd l1), qp (ds s l1)]) : List ((Int × Int) × (Int × Int) × (Int × Int)) × List (Int × Int))) l fun l1 x l2 e => by
    have hx := h.e x (by rw [e]; simp)
    obtain ⟨k1, k2, k3, k4, k5⟩ := hx
    obtain ⟨t1, t2, t3⟩ := time_ok k3 hs s0 k5
    obtain ⟨d1, d2, d3⟩ := drift_ok k3 k4 hs s0 k5
    obtain ⟨z1, z2, z3⟩ := sz_tot (l := l1) (by rw [e] at hl; simp at hl; omega) (fun y hy => h.e y (by rw [e]; simp [hy])) s0 hs
    have p1 := plus_ok z1 t3 (by decide)
    have p2 := plus_ok z3 k3 (by decide)
    have p3 := plus_ok z2 d3 (by decide)
    unfold kg1_way_by_bands k1_way_by_bands bp
    simp only [t1, t2, d1, d2, List.zip_cons_cons, List.zip_nil_right, List.map_cons, List.map_nil, p1.2, p2.2, p3.2, true_and, and_true]
    refine ⟨⟨fun y hy => ?_, rfl, ?_⟩, ?_⟩
    · simp only [List.mem_cons, List.not_mem_nil, or_false] at hy
      rcases hy with rfl | rfl | rfl
      · exact p1.1
      · exact p2.1
      · exact p3.1
    · unfold scn
      rw [List.length_map, List.length_range]
      rw [e] at hl; simp at hl; omega
    · rw [scn_snoc, ts_snoc, wd_snoc, ds_snoc]
      refine Prod.ext ?_ rfl
      show _ ++ [fx3 [_, _, _]] = _ ++ [row s (l1 ++ [x])]
      unfold row
      rw [ts_snoc, wd_snoc, ds_snoc]
      rfl
  have fz : ∀ (xs : List Bh) (t : List ((Int × Int) × (Int × Int) × (Int × Int)) × List (Int × Int)), (forN (fun q : _ × Bh => kg1_way_by_bands (qp s) (q.1, (bp q.2.1, q.2.2))) (fun q : _ × Bh => k1_way_by_bands (qp s) (q.1, (bp q.2.1, q.2.2))) t xs → forN (kg1_way_by_bands (qp s)) (k1_way_by_bands (qp s)) t (xs.map fun x => (bp x.1, x.2))) ∧ (xs.map fun x => (bp x.1, x.2)).foldl (fun m x => k1_way_by_bands (qp s) (m, x)) t = xs.foldl (fun m x => k1_way_by_bands (qp s) (m, (bp x.1, x.2))) t := by
    intro xs
    induction xs with
    | nil => exact fun t => ⟨fun _ => trivial, rfl⟩
    | cons x xs ih => exact fun t => ⟨fun q => ⟨q.1, (ih _).1 q.2⟩, (ih _).2⟩
  unfold g_way_by_bands m_way_by_bands o_way_by_bands
  simp only [g_bands h, g_speed s0 hs, g_heads h, zip_lh, true_and, and_true, ret_rt, qp_zero]
  refine ⟨(fz l _).1 key.1, ?_⟩
  rw [(fz l _).2]
  exact congrArg Prod.fst key.2

theorem sz_wc {l : List Bh} (hl : l.length ≤ 6) (h : ∀ x ∈ l, Sz 14 x.1.1 ∧ Sz 14 x.1.2) : Sz 500 (wc l) := by
  have c := sz_sum (k := 28) (l.map fun x => x.1.1 * x.1.2) fun y hy => by
    obtain ⟨x, hx, rfl⟩ := List.mem_map.mp hy
    exact (h x hx).1.mul (h x hx).2
  rw [List.length_map] at c
  exact c.mono (by omega)
theorem wd_pos {l : List Bh} (h : LOk l) : 0 < wd l := rsum_pos _ (by
  have := h.l0
  intro e
  rw [List.map_eq_nil_iff] at e
  rw [e] at this
  simp at this) fun y hy => by
    obtain ⟨x, hx, rfl⟩ := List.mem_map.mp hy
    exact (h.e x hx).1
theorem wide_sum {l : List Bh} (h : LOk l) : g_sum_of ((bnd l).map (fun x1 => x1.1), ()) ∧ m_sum_of ((bnd l).map (fun x1 => x1.1), ()) = qp (wd l) := by
  have hl := h.l1
  have e : (bnd l).map (fun x1 => x1.1) = (l.map fun x => x.1.1).map qp := by
    unfold bnd
    rw [List.map_map, List.map_map]
    rfl
  obtain ⟨a1, a2, _⟩ := sum_ok (k := 14) (xs := l.map fun x => x.1.1) (fun y hy => by
    obtain ⟨x, hx, rfl⟩ := List.mem_map.mp hy
    exact (h.e x hx).2.2.1) (by rw [List.length_map]; omega)
  rw [e]
  exact ⟨a1, a2⟩
theorem least_ok {l : List Bh} {s : Rat} (h : LOk l) (s0 : 0 < s) (hs : Sz 14 s) : g_least_time (bnd l, qp s, ()) ∧ m_least_time (bnd l, qp s, ()) = qp (wd l / s) := by
  obtain ⟨a1, a2⟩ := wide_sum h
  obtain ⟨_, _, z⟩ := sz_tot h.l1 h.e s0 hs
  have o := over_ok z hs (Rat.ne_of_gt s0) (by decide)
  unfold g_least_time m_least_time o_least_time
  simp only [g_bands h, g_speed s0 hs, a1, a2, o.1, o.2, true_and, and_true, implies_true, ret_rt]
theorem even_ok {l : List Bh} (h : LOk l) : g_even_current (bnd l, ()) ∧ m_even_current (bnd l, ()) = qp (wc l / wd l) ∧ Sz 1000 (wc l / wd l) := by
  have hl := h.l1
  obtain ⟨a1, a2⟩ := wide_sum h
  have z1 : Sz 500 (wd l) := (sz_tot h.l1 h.e (s := 1) (by decide) (Sz.one.mono (by decide))).2.2
  have z2 := sz_wc h.l1 fun x hx => ⟨(h.e x hx).2.2.1, (h.e x hx).2.2.2.1⟩
  have ne := Rat.ne_of_gt (wd_pos h)
  have o := over_ok z2 z1 ne (by decide)
  have e : (bnd l).map (fun x3 => m_times (x3.1, x3.2, ())) = (l.map fun x => x.1.1 * x.1.2).map qp := by
    unfold bnd
    rw [List.map_map, List.map_map]
    refine List.map_congr_left fun x hx => ?_
    exact (times_ok (h.e x hx).2.2.1 (h.e x hx).2.2.2.1 (by decide)).2
  obtain ⟨b1, b2, _⟩ := sum_ok (k := 28) (xs := l.map fun x => x.1.1 * x.1.2) (fun y hy => by
    obtain ⟨x, hx, rfl⟩ := List.mem_map.mp hy
    exact (h.e x hx).2.2.1.mul (h.e x hx).2.2.2.1) (by rw [List.length_map]; omega)
  unfold g_even_current m_even_current o_even_current
  simp only [g_bands h, a1, a2, e, b1, b2, true_and, and_true, implies_true, ret_rt]
  change ((∀ x3 ∈ bnd l, g_times (x3.1, x3.2, ())) ∧ g_over (qp (wc l), qp (wd l), ())) ∧ m_over (qp (wc l), qp (wd l), ()) = _ ∧ _
  refine ⟨⟨fun x hx => ?_, o.1⟩, o.2, z2.div z1 ne⟩
  obtain ⟨y, hy, rfl⟩ := List.mem_map.mp hx
  exact (times_ok (h.e y hy).2.2.1 (h.e y hy).2.2.2.1 (by decide)).1
theorem between_ok {d m : Rat} {k : Nat} (hd : Sz k d) (hm : Sz k m) (h : d < m) (hk : k + k ≤ 8000) : g_drift_between ([qp m, qp d, qp m], ()) ∧ m_drift_between ([qp m, qp d, qp m], ()) = (qp d, qp m) := by
  have q1 := isq_ok d
  have q2 := isq_ok m
  have l1 := less_ok hm hm hk
  have l2 := less_ok hd hm hk
  have l3 := less_ok hm hd hk
  have l4 := less_ok hd hd hk
  have e1 : decide (m < m) = false := decide_eq_false Rat.lt_irrefl
  have e2 : decide (d < m) = true := decide_eq_true h
  have e3 : decide (m < d) = false := decide_eq_false (Rat.not_lt.mpr (Rat.le_of_lt h))
  have e4 : decide (d < d) = false := decide_eq_false Rat.lt_irrefl
  rw [e1] at l1
  rw [e2] at l2
  rw [e3] at l3
  rw [e4] at l4
  have ix : ixD [qp m, qp d, qp m] 0 = qp m := ixD_zero
  have ci : CIx [qp m, qp d, qp m] 0 := ⟨by simp, by simp⟩
  unfold g_drift_between m_drift_between o_drift_between
  simp only [ix, ci, q1, q2, List.map_cons, List.map_nil, List.all_cons, List.all_nil, id_eq, List.isEmpty_cons, Bool.and_self, Bool.not_true, Bool.not_false, Bool.or_self, true_and, and_true, implies_true, ret_rt, List.foldl_cons, List.foldl_nil, forN]
  unfold kg1_drift_between k1_drift_between
  simp only [l1.1, l1.2, l2.1, l2.2, l3.1, l3.2, l4.1, l4.2, Bool.false_eq_true, if_true, if_false, true_and, and_true, implies_true]
  intro _ _ x hx
  simp only [List.mem_cons, List.not_mem_nil, or_false] at hx
  rcases hx with rfl | rfl | rfl
  · exact q2.1
  · exact q1.1
  · exact q2.1
theorem start_ok {l : List Bh} {s g : Rat} (h : LOk l) (s0 : 0 < s) (hs : Sz 14 s) (hg : Sz 14 g) : g_start_for (bnd l, qp s, hds l, qp g, ()) ∧ m_start_for (bnd l, qp s, hds l, qp g, ()) = qp (g - ds s l) ∧ Sz 515 (g - ds s l) := by
  obtain ⟨w1, w2, w3, w4⟩ := way_ok h s0 hs
  have n1 := isn_ok (hg.mono (by decide) : Sz 39 _).num12.1 (hg.mono (by decide) : Sz 39 _).num12.2
  obtain ⟨q1, q2⟩ := quot_ok (dens_ne g (ds s l)) (hg.upSub w4) (abs_mono (hg.dens w4) (by decide)) (by decide)
  rw [div_sub] at q2
  have c1 := cmw hg.1 w4.d (by decide)
  have c2 := cmw w4.1 hg.d (by decide)
  have c3 := cmw hg.d w4.d (by decide)
  unfold g_start_for m_start_for o_start_for
  have u1 : (qp (ds s l)).1 = (ds s l).num := rfl
  have u2 : (qp (ds s l)).2 = ((ds s l).den : Int) := rfl
  have u3 : (qp g).1 = g.num := rfl
  have u4 : (qp g).2 = (g.den : Int) := rfl
  simp only [w1, w2, n1, u1, u2, u3, u4, c1, c2, c3, q1, q2, true_and, and_true, implies_true, ret_rt, Bool.not_true]
  exact hg.sub w4
theorem landing_ok {l : List Bh} {s low high : Rat} (h : LOk l) (s0 : 0 < s) (hs : Sz 14 s) (l1 : low.num.natAbs ≤ 1000000000000) (l2 : (low.den : Int) ≤ 1000000000000) (h1 : high.num.natAbs ≤ 1000000000000) (h2 : (high.den : Int) ≤ 1000000000000) (hl : low ≤ high) :
    g_judge_landing (bnd l, qp s, hds l, qp low, qp high, ()) ∧ (ds s l < low → m_judge_landing (bnd l, qp s, hds l, qp low, qp high, ()) = (PySem.Str.ofString "short", qp (low - ds s l))) ∧ (low ≤ ds s l → ds s l ≤ high → m_judge_landing (bnd l, qp s, hds l, qp low, qp high, ()) = (PySem.Str.ofString "lands", qp (ds s l))) := by
  obtain ⟨c1, c2, c3, c4⟩ := cross_ok h s0 hs
  have zb : ∀ r : Rat, r.num.natAbs ≤ 1000000000000 → (r.den : Int) ≤ 1000000000000 → Sz 500 r := fun r a b => by
    have p : (1000000000000 : Nat) < 2 ^ 500 := by decide
    exact ⟨by omega, by omega⟩
  have z1 := zb low l1 l2
  have z2 := zb high h1 h2
  have n1 := isn_ok l1 l2
  have n2 := isn_ok h1 h2
  have k1 := less_ok z2 z1 (by decide)
  have k2 := less_ok c4 z1 (by decide)
  have k3 := less_ok z2 c4 (by decide)
  have e1 : decide (high < low) = false := decide_eq_false (Rat.not_lt.mpr hl)
  rw [e1] at k1
  have p1 := plus_ok z1 c4.neg (by decide)
  have p2 := plus_ok c4 z2.neg (by decide)
  have u1 : (-(qp (ds s l)).1, (qp (ds s l)).2) = qp (-ds s l) := qp_neg' _
  have u2 : (-(qp high).1, (qp high).2) = qp (-high) := qp_neg' _
  unfold g_judge_landing m_judge_landing o_judge_landing
  simp only [g_bands h, g_speed s0 hs, g_heads h, c1, c2, n1, n2, k1, k2, k3, p1, p2, u1, u2, true_and, and_true, implies_true, ret_ite, ret_rt, Bool.not_true, Bool.or_self]
  refine ⟨fun hd => ?_, fun ha hb => ?_⟩
  · rw [if_pos (decide_eq_true hd), Rat.sub_eq_add_neg]
  · rw [if_neg (by simp [Rat.not_lt.mpr ha]), if_neg (by simp [Rat.not_lt.mpr hb])]

/-! what is drawn -/
theorem Dn.sz {r : Rat} (h : Dn r) : Sz 5 r ∧ 0 ≤ r := by
  obtain ⟨n, m, rfl, a1, a2, a3, a4⟩ := h.ex
  rw [← Rat.divInt_eq_div]
  exact ⟨.mk (by show n.natAbs < 32; omega) (by show m.natAbs < 32; omega) (by omega), Rat.divInt_nonneg a1 (by omega)⟩
structure LD (l : List Bh) : Prop where
  l0 : 1 ≤ l.length
  l1 : l.length ≤ 4
  e : ∀ x ∈ l, Dn x.1.1 ∧ 0 < x.1.1 ∧ Dn x.1.2 ∧ x.2 ∈ HL
theorem LD.ok {l : List Bh} (h : LD l) : LOk l := ⟨h.l0, by have := h.l1; omega, fun x hx => by
  obtain ⟨a, b, c, d⟩ := h.e x hx
  exact ⟨b, c.sz.2, a.sz.1.mono (by decide), c.sz.1.mono (by decide), d⟩⟩
theorem LOk.map {l : List Bh} (h : LOk l) (f : Bh → Bh) (k : ∀ x ∈ l, 0 < (f x).1.1 ∧ 0 ≤ (f x).1.2 ∧ Sz 14 (f x).1.1 ∧ Sz 14 (f x).1.2 ∧ (f x).2 ∈ HL) : LOk (l.map f) := ⟨by rw [List.length_map]; exact h.l0, by rw [List.length_map]; exact h.l1, fun x hx => by
  obtain ⟨y, hy, rfl⟩ := List.mem_map.mp hx
  exact k y hy⟩
theorem scn_get {s : Rat} {l : List Bh} {k : Nat} (h : k < l.length) : ixD (scn s l) (k : Int) = row s (l.take (k + 1)) ∧ CIx (scn s l) (k : Int) := by
  have hl : k < (scn s l).length := by unfold scn; rw [List.length_map, List.length_range]; exact h
  refine ⟨?_, cix_nat hl⟩
  refine ixD_of ?_
  unfold scn
  rw [List.getElem?_map, List.getElem?_range h]
  rfl
theorem scn_last {s : Rat} {l : List Bh} (h : 1 ≤ l.length) : ixD (scn s l) (-1) = row s l ∧ CIx (scn s l) (-1) := by
  have hl : (scn s l).length = l.length := by unfold scn; rw [List.length_map, List.length_range]
  refine ⟨ixD_getLast ?_, by unfold CIx; omega⟩
  rw [List.getLast?_eq_getElem?, hl]
  unfold scn
  rw [List.getElem?_map, List.getElem?_range (by omega), Option.map_some, List.take_of_length_le (by omega)]
def cr_ (s : Rat) (l : List Bh) : Rat := rsum (l.map fun x => tm x.1.1 s x.2 * x.1.2)
theorem cr_snoc (s : Rat) (l : List Bh) (x : Bh) : cr_ s (l ++ [x]) = cr_ s l + tm x.1.1 s x.2 * x.1.2 := by
  unfold cr_
  rw [List.map_append, rsum_append, List.map_singleton, rsum_cons, rsum_nil, Rat.add_zero]
theorem sz_cr {l : List Bh} {s : Rat} (hl : l.length ≤ 6) (h : ∀ x ∈ l, 0 < x.1.1 ∧ 0 ≤ x.1.2 ∧ Sz 14 x.1.1 ∧ Sz 14 x.1.2 ∧ x.2 ∈ HL) (s0 : 0 < s) (hs : Sz 14 s) : Sz 500 (cr_ s l) := by
  have c := sz_sum (k := 52) (l.map fun x => tm x.1.1 s x.2 * x.1.2) fun y hy => by
    obtain ⟨x, hx, rfl⟩ := List.mem_map.mp hy
    obtain ⟨k1, k2, k3, k4, k5⟩ := h x hx
    exact (time_ok k3 hs s0 k5).2.2.mul k4
  rw [List.length_map] at c
  exact c.mono (by omega)
theorem bnd_get {l : List Bh} {k : Nat} (h : k < l.length) : ixD (bnd l) (k : Int) = bp l[k].1 ∧ CIx (bnd l) (k : Int) := by
  have hl : k < (bnd l).length := by unfold bnd; rw [List.length_map]; exact h
  refine ⟨?_, cix_nat hl⟩
  refine ixD_of ?_
  unfold bnd
  rw [List.getElem?_map, List.getElem?_eq_getElem h]
  rfl
theorem qz (a : Rat) : ((0 : Int) - (qp a).1, (qp a).2) = qp (-a) := qp_neg a
theorem currents_ok {l : List Bh} {s : Rat} (h : LD l) (s0 : 0 < s) (hs : Sz 14 s) : g__law_currents_hold (bnd l, qp s, hds l, ()) ∧ m__law_currents_hold (bnd l, qp s, hds l, ()) = true := by
  have ok := h.ok
  have hl := h.l1
  obtain ⟨w1, w2, w3, w4⟩ := way_ok ok s0 hs
  obtain ⟨b1, b2⟩ := byb_ok ok s0 hs
  have okS : LOk (l.map fun x => ((x.1.1, (0 : Rat)), x.2)) := ok.map _ fun x hx => by
    obtain ⟨k1, k2, k3, k4, k5⟩ := ok.e x hx
    exact ⟨k1, Rat.le_refl, k3, Sz.zero.mono (by decide), k5⟩
  have okT : LOk (l.map fun x => ((x.1.1, (0 : Rat)), ((-x.2.1, x.2.2.1, x.2.2.2) : Hd))) := ok.map _ fun x hx => by
    obtain ⟨k1, k2, k3, k4, k5⟩ := ok.e x hx
    exact ⟨k1, Rat.le_refl, k3, Sz.zero.mono (by decide), (HL_bd _ k5).2.2.2.2.2.2.2⟩
  obtain ⟨x1, x2, x3, x4⟩ := way_ok okS s0 hs
  obtain ⟨y1, y2, y3, y4⟩ := way_ok okT s0 hs
  rw [ts_still] at x2 x3
  rw [ts_turn, ds_turn] at y2
  have eS : (bnd l).map (fun x2 => (x2.1, ((0 : Int), (1 : Int)))) = bnd (l.map fun x => ((x.1.1, (0 : Rat)), x.2)) := by
    unfold bnd
    rw [List.map_map, List.map_map]
    rfl
  have eH : hds (l.map fun x => ((x.1.1, (0 : Rat)), x.2)) = hds l := by
    unfold hds
    rw [List.map_map]
    rfl
  have eB : bnd (l.map fun x => ((x.1.1, (0 : Rat)), ((-x.2.1, x.2.2.1, x.2.2.2) : Hd))) = bnd (l.map fun x => ((x.1.1, (0 : Rat)), x.2)) := by
    unfold bnd
    rw [List.map_map, List.map_map]
    rfl
  have eT : (hds l).map (fun x12 => (((0 : Int) - x12.1), (x12.2.1, x12.2.2).1, (x12.2.1, x12.2.2).2)) = hds (l.map fun x => ((x.1.1, (0 : Rat)), ((-x.2.1, x.2.2.1, x.2.2.2) : Hd))) := by
    unfold hds
    rw [List.map_map, List.map_map]
    exact List.map_congr_left fun x _ => by simp only [Function.comp, Int.zero_sub]
  rw [eB] at y1 y2
  rw [eH] at x1 x2
  have key := fold_rng (g := kg1__law_currents_hold (bnd l) (scn s l)) (f := k1__law_currents_hold (bnd l) (scn s l)) (fun k => (qp (cr_ s (l.take k)), qp (ts s (l.take k)))) l.length fun k hk => by
    obtain ⟨r1, r2⟩ := scn_get (s := s) hk
    obtain ⟨g1, g2⟩ := bnd_get hk
    have sub : ∀ {m : Nat} {y : Bh}, y ∈ l.take m → y ∈ l := fun hy => List.mem_of_mem_take hy
    have z1 := (sz_tot (l := l.take k) (by rw [List.length_take]; omega) (fun y hy => ok.e y (sub hy)) s0 hs).1
    have z2 := (sz_tot (l := l.take (k + 1)) (by rw [List.length_take]; omega) (fun y hy => ok.e y (sub hy)) s0 hs).1
    have z3 := sz_cr (l := l.take k) (by rw [List.length_take]; omega) (fun y hy => ok.e y (sub hy)) s0 hs
    have zc := (ok.e l[k] (List.getElem_mem hk)).2.2.2.1
    have p1 := lplus_ok z2 z1.neg (by decide)
    have p2 := lmul_ok (z2.add z1.neg) zc (by decide)
    have p3 := lplus_ok z3 ((z2.add z1.neg).mul zc) (by decide)
    have et : l.take (k + 1) = l.take k ++ [l[k]] := by rw [List.take_succ_eq_append_getElem hk]
    have ev : cr_ s (l.take k) + (ts s (l.take (k + 1)) + -ts s (l.take k)) * l[k].1.2 = cr_ s (l.take (k + 1)) := by
      rw [et, cr_snoc, ts_snoc]
      grind
    rw [ev] at p3
    unfold kg1__law_currents_hold k1__law_currents_hold
    simp only [r1, r2, g1, g2, row, bp, qz, p1.1, p1.2, p2.1, p2.2, p3.1, p3.2, true_and, and_true]
  simp only [List.take_zero, List.take_length] at key
  obtain ⟨key1, key2⟩ := key
  obtain ⟨r1, r2⟩ := scn_last (s := s) h.l0
  have zc := sz_cr ok.l1 ok.e s0 hs
  have p := lplus_ok x4 zc (by decide)
  have ed : ds s (l.map fun x => ((x.1.1, (0 : Rat)), x.2)) + cr_ s l = ds s l := (ds_still s l).symm
  rw [ed] at p
  have sq : ∀ r, Sz 500 r → Sw 3809 1 (c2 cI cI (qp r)) := fun r z => sw_qp z (by decide)
  have S1 := law_same_LQ_ok (x := [qp (ts s l), qp (ds s l), qp (ts s l), qp (ds s l)]) rfl ((sw_L 4 (by simp) fun x hx => by
    simp only [List.mem_cons, List.not_mem_nil, or_false] at hx
    rcases hx with rfl | rfl | rfl | rfl
    · exact sq _ w3
    · exact sq _ w4
    · exact sq _ w3
    · exact sq _ w4).shw (by decide) (by decide))
  have S2 := law_same_QQ_ok (x := (qp (ts s l), qp (-ds s (l.map fun x => ((x.1.1, (0 : Rat)), x.2))))) rfl ((sw_2 (sq _ w3) (sq _ x4.neg)).shw (by decide) (by decide))
  have cr : CRg 0 ((bnd l).length : Int) := by unfold CRg bnd; rw [List.length_map]; omega
  have lb : (bnd l).length = l.length := by unfold bnd; rw [List.length_map]
  have u0 : qp (cr_ s []) = (0, 1) := rfl
  have u1 : qp (ts s []) = (0, 1) := rfl
  rw [u0, u1] at key1 key2
  unfold g__law_currents_hold m__law_currents_hold o__law_currents_hold
  rw [lb] at cr
  have clen : ([(1 : Int)].length + [(1 : Int), 1].length ≤ 16777216) = True := eq_true (by decide)
  simp only [eS, eT, w1, w2, x1, x2, y1, y2, b1, b2, lb, cr, key1, key2, r1, r2, row, p.1, p.2, qz, S1.1, S1.2, S2.1, S2.2, true_and, and_true, implies_true, Bool.not_true, Bool.false_eq_true, if_false, ret_rt, List.length_cons, List.length_nil]
  intro _ _ _
  decide

theorem bnd_rev (l : List Bh) : (bnd l).reverse = bnd l.reverse := by unfold bnd; rw [List.map_reverse]
theorem hds_rev (l : List Bh) : (hds l).reverse = hds l.reverse := by unfold hds; rw [List.map_reverse]
theorem order_ok {l : List Bh} {s : Rat} {t : St4} (h : LD l) (s0 : 0 < s) (hs : Sz 5 s) (w : Wf t) : g__law_order_holds ((bnd l, qp s, hds l, ()), t) ∧ (m__law_order_holds ((bnd l, qp s, hds l, ()), t)).1 = true ∧ Wf (m__law_order_holds ((bnd l, qp s, hds l, ()), t)).2 := by
  have ok := h.ok
  have hl := h.l1
  have hl0 := h.l0
  have hs' := (hs.mono (by decide) : Sz 14 s)
  have sq : ∀ {k : Nat} r, Sz k r → k ≤ 1800 → Sw 3809 1 (c2 cI cI (qp r)) := fun r z hk => sw_qp z hk
  have S2 : ∀ {k : Nat} (a b : Rat), Sz k a → Sz k b → k ≤ 1800 → Sw (2 * (3809 + 2) + 3) 2 (c2 (c2 cI cI) (c2 cI cI) (qp a, qp b)) := fun a b za zb hk => sw_2 (sq _ za hk) (sq _ zb hk)
  have lb : (bnd l).length = l.length := by unfold bnd; rw [List.length_map]
  have lh : (hds l).length = l.length := by unfold hds; rw [List.length_map]
  obtain ⟨w1, w2, w3, w4⟩ := way_ok ok s0 hs'
  have okR : LOk l.reverse := ⟨by rw [List.length_reverse]; exact hl0, by rw [List.length_reverse]; omega, fun x hx => ok.e x (List.mem_reverse.mp hx)⟩
  obtain ⟨r1, r2, _, _⟩ := way_ok okR s0 hs'
  rw [ts_rev, ds_rev] at r2
  have SR := law_same_QQ_ok (x := (qp (ts s l), qp (ds s l))) rfl ((S2 _ _ w3 w4 (by decide)).shw (by decide) (by decide))
  obtain ⟨a1, a2, a3, a4⟩ := draw_ok (m := (l.length : Int)) w (by omega) (by omega)
  unfold g__law_order_holds m__law_order_holds o__law_order_holds
  simp only [lb]
  generalize m__law_draw (((l.length : Int), ()), t) = d1 at a1 a2 a3 a4 ⊢
  obtain ⟨b1, b2, b3, b4⟩ := draw_ok (m := 2) a4 (by decide) (by decide)
  generalize m__law_draw ((2, ()), d1.2) = d2 at b1 b2 b3 b4 ⊢
  obtain ⟨e1, e2, e3, e4⟩ := draw_ok (m := 5) b4 (by decide) (by decide)
  generalize m__law_draw ((5, ()), d2.2) = d3 at e1 e2 e3 e4 ⊢
  obtain ⟨k, hk⟩ := Int.eq_ofNat_of_zero_le a2
  have hkl : k < l.length := by omega
  obtain ⟨g1, g2⟩ := bnd_get hkl
  rw [hk]
  -- a band told as two
  have hx := ok.e l[k] (List.getElem_mem hkl)
  have hxD := h.e l[k] (List.getElem_mem hkl)
  have n2 : (0 : Int) < 2 + d2.1 := by omega
  have nq : (((2 + d2.1 : Int)) : Rat) ≠ 0 := Rat.ne_of_gt (Rat.intCast_pos.mpr n2)
  have zn : Sz 3 ((((2 + d2.1 : Int)) : Rat)⁻¹) := (Sz.inv (k := 2) (Sz.int (by show (2 + d2.1).natAbs < 4; omega) (by decide)) nq).mono (by decide)
  have half := lmul_ok hxD.1.sz.1 zn (by decide)
  have zh := hxD.1.sz.1.mul zn
  have rest := lplus_ok hxD.1.sz.1 zh.neg (by decide)
  have zr := hxD.1.sz.1.add zh.neg
  generalize ev : l[k].1.1 * ((((2 + d2.1 : Int)) : Rat)⁻¹) = v at half zh rest zr
  have hinv : (0 : Rat) < (((2 + d2.1 : Int)) : Rat)⁻¹ := Rat.inv_pos.mpr (Rat.intCast_pos.mpr n2)
  have vp : 0 < v := by rw [← ev]; exact Rat.mul_pos hx.1 hinv
  have vl : v < l[k].1.1 := by
    have h1 : (1 : Rat) < (((2 + d2.1 : Int)) : Rat) := by
      have := Rat.intCast_lt_intCast.mpr (show (1 : Int) < 2 + d2.1 by omega)
      exact this
    have h2 := Rat.mul_pos vp (show (0 : Rat) < (((2 + d2.1 : Int)) : Rat) - 1 by grind)
    have h3 : v * (((2 + d2.1 : Int)) : Rat) = l[k].1.1 := by rw [← ev]; grind
    grind
  have eSub : l[k].1.1 + -v = l[k].1.1 - v := (Rat.sub_eq_add_neg _ _).symm
  rw [eSub] at rest zr
  have el : l = l.take k ++ l[k] :: l.drop (k + 1) := by
    rw [List.getElem_cons_drop, List.take_append_drop]
  have okW : LOk (two (l.take k) (l.drop (k + 1)) l[k] v) := by
    refine ⟨by unfold two; simp; omega, by unfold two; simp; omega, fun y hy => ?_⟩
    unfold two at hy
    simp only [List.mem_append, List.mem_cons, List.not_mem_nil, or_false] at hy
    rcases hy with (hy | rfl | rfl) | hy
    · exact ok.e y (List.mem_of_mem_take hy)
    · exact ⟨vp, hx.2.1, zh.mono (by decide), hx.2.2.2.1, hx.2.2.2.2⟩
    · exact ⟨by show 0 < l[k].1.1 - v; grind, hx.2.1, zr.mono (by decide), hx.2.2.2.1, hx.2.2.2.2⟩
    · exact ok.e y (List.mem_of_mem_drop hy)
  obtain ⟨ww1, ww2, _, _⟩ := way_ok okW s0 hs'
  obtain ⟨we1, we2, _⟩ := even_ok okW
  obtain ⟨le1, le2, le3⟩ := even_ok ok
  rw [ts_two, ds_two, ← el] at ww2
  rw [wc_two, wd_two, ← el] at we2
  have ci1 : cut (bnd l) none (some (k : Int)) = bnd (l.take k) := by rw [cut_take (by omega)]; unfold bnd; rw [Int.toNat_natCast, List.map_take]
  have ci2 : cut (bnd l) (some ((k : Int) + 1)) none = bnd (l.drop (k + 1)) := by rw [cut_drop (by omega)]; unfold bnd; rw [List.map_drop]; congr 1
  have ci3 : cut (hds l) none (some ((k : Int) + 1)) = hds (l.take k) ++ [l[k].2] := by
    rw [cut_take (by omega)]
    unfold hds
    have : ((k : Int) + 1).toNat = k + 1 := by omega
    rw [this, ← List.map_take, List.take_succ_eq_append_getElem hkl, List.map_append]
    rfl
  have ci4 : cut (hds l) (some (k : Int)) none = l[k].2 :: hds (l.drop (k + 1)) := by
    rw [cut_drop (by omega)]
    unfold hds
    rw [Int.toNat_natCast, ← List.map_drop, ← List.getElem_cons_drop hkl]
    rfl
  have eW1 : bnd (l.take k) ++ [(qp v, (bp l[k].1).2), (qp (l[k].1.1 - v), (bp l[k].1).2)] ++ bnd (l.drop (k + 1)) = bnd (two (l.take k) (l.drop (k + 1)) l[k] v) := by
    unfold bnd two
    simp only [List.map_append, List.map_cons, List.map_nil]
    rfl
  have eW2 : (hds (l.take k) ++ [l[k].2]) ++ (l[k].2 :: hds (l.drop (k + 1))) = hds (two (l.take k) (l.drop (k + 1)) l[k] v) := by
    unfold hds two
    simp only [List.map_append, List.map_cons, List.map_nil, List.append_assoc, List.cons_append, List.nil_append]
  have q1 : (bnd (l.take k)).length + 2 ≤ 16777216 := by unfold bnd; rw [List.length_map, List.length_take]; omega
  have q2 : (bnd (l.take k) ++ [(qp v, (bp l[k].1).2), (qp (l[k].1.1 - v), (bp l[k].1).2)]).length + (bnd (l.drop (k + 1))).length ≤ 16777216 := by unfold bnd; simp; omega
  have q3 : (hds (l.take k) ++ [l[k].2]).length + (l[k].2 :: hds (l.drop (k + 1))).length ≤ 16777216 := by unfold hds; simp; omega
  have SX := law_same_X_ok (x := [c2 (c2 cI cI) (c2 cI cI) (qp (ts s l), qp (ds s l)), c2 cI cI (qp (wc l / wd l))]) rfl (Sp.ok (k := 3) (sp_L fun x hx => by
    simp only [List.mem_cons, List.not_mem_nil, or_false] at hx
    rcases hx with rfl | rfl
    · exact sp_2 (sp_2 (sp_int _) (sp_int _)) (sp_2 (sp_int _) (sp_int _))
    · exact (sp_2 (sp_int _) (sp_int _)).mono (by decide))) ((sw_L (n := 2 * (3809 + 2) + 3) (k := 2) 2 (by simp) fun x hx => by
    simp only [List.mem_cons, List.not_mem_nil, or_false] at hx
    rcases hx with rfl | rfl
    · exact S2 _ _ w3 w4 (by decide)
    · exact (sq _ le3 (by decide)).mono (by decide) (by decide)).shw (by decide) (by decide))
  -- widths times a number
  have m0 : (0 : Int) < 2 + d3.1 := by omega
  have zm : Sz 3 (((2 + d3.1 : Int)) : Rat) := .int (by show (2 + d3.1).natAbs < 8; omega) (by decide)
  have mq : (0 : Rat) < (((2 + d3.1 : Int)) : Rat) := Rat.intCast_pos.mpr m0
  have mq' := Rat.ne_of_gt mq
  generalize em : (((2 + d3.1 : Int)) : Rat) = m at zm mq mq'
  have okB : LOk (l.map fun x => ((x.1.1 * m, x.1.2), x.2)) := ok.map _ fun x hx => by
    obtain ⟨k1, k2, k3, k4, k5⟩ := ok.e x hx
    exact ⟨Rat.mul_pos k1 mq, k2, ((h.e x hx).1.sz.1.mul zm).mono (by decide), k4, k5⟩
  have okF : LOk (l.map fun x => ((x.1.1, x.1.2 * m), x.2)) := ok.map _ fun x hx => by
    obtain ⟨k1, k2, k3, k4, k5⟩ := ok.e x hx
    exact ⟨k1, Rat.mul_nonneg k2 (Rat.le_of_lt mq), k3, ((h.e x hx).2.2.1.sz.1.mul zm).mono (by decide), k5⟩
  have sm := lmul_ok hs zm (by decide)
  have zsm : Sz 14 (s * m) := (hs.mul zm).mono (by decide)
  obtain ⟨x1, x2, x3, x4⟩ := way_ok okB s0 hs'
  obtain ⟨y1, y2, y3, y4⟩ := way_ok okF (Rat.mul_pos s0 mq) zsm
  rw [ts_broad, ds_broad] at x2
  rw [ts_fast s m mq', ds_fast s m mq' (Rat.ne_of_gt s0) l fun x hx => (ok.e x hx).2.2.2.2] at y2
  have eB1 : bnd (l.map fun x => ((x.1.1 * m, x.1.2), x.2)) = (bnd l).map fun x11 => (m__law_mul (x11.1, qp m, ()), x11.2) := by
    unfold bnd
    rw [List.map_map, List.map_map]
    refine List.map_congr_left fun x hx => ?_
    have := lmul_ok (ok.e x hx).2.2.1 zm (by decide)
    show bp (x.1.1 * m, x.1.2) = (m__law_mul (qp x.1.1, qp m, ()), qp x.1.2)
    rw [this.2]
    rfl
  have eF1 : bnd (l.map fun x => ((x.1.1, x.1.2 * m), x.2)) = (bnd l).map fun x13 => (x13.1, m__law_mul (x13.2, qp m, ())) := by
    unfold bnd
    rw [List.map_map, List.map_map]
    refine List.map_congr_left fun x hx => ?_
    have := lmul_ok (ok.e x hx).2.2.2.1 zm (by decide)
    show bp (x.1.1, x.1.2 * m) = (qp x.1.1, m__law_mul (qp x.1.2, qp m, ()))
    rw [this.2]
    rfl
  have eB2 : hds (l.map fun x => ((x.1.1 * m, x.1.2), x.2)) = hds l := by unfold hds; rw [List.map_map]; rfl
  have eF2 : hds (l.map fun x => ((x.1.1, x.1.2 * m), x.2)) = hds l := by unfold hds; rw [List.map_map]; rfl
  rw [eB1, eB2] at x1 x2
  rw [eF1, eF2] at y1 y2
  have gB : ∀ x ∈ bnd l, g__law_mul (x.1, qp m, ()) ∧ g__law_mul (x.2, qp m, ()) := fun x hx => by
    obtain ⟨y, hy, rfl⟩ := List.mem_map.mp hx
    exact ⟨(lmul_ok (ok.e y hy).2.2.1 zm (by decide)).1, (lmul_ok (ok.e y hy).2.2.2.1 zm (by decide)).1⟩
  have t1 := lmul_ok w3 zm (by decide)
  have t2 := lmul_ok w4 zm (by decide)
  have zmi : Sz 4 m⁻¹ := (zm.inv mq').mono (by decide)
  have t3 := lmul_ok w3 zmi (by decide)
  have SB := law_same_QQ_ok (x := (qp (ts s l * m), qp (ds s l * m))) rfl ((S2 _ _ (w3.mul zm) (w4.mul zm) (by decide)).shw (by decide) (by decide))
  have SF := law_same_QQ_ok (x := (qp (ts s l * m⁻¹), qp (ds s l))) rfl ((S2 _ _ (w3.mul zmi) (w4.mono (by decide)) (by decide)).shw (by decide) (by decide))
  have em1 : (2 + d3.1, (1 : Int)) = qp m := by rw [← em]; rfl
  have em2 : ((1 : Int), 2 + d3.1) = qp m⁻¹ := by rw [← em]; exact qp_inv m0
  have en : ((1 : Int), 2 + d2.1) = qp ((((2 + d2.1 : Int)) : Rat)⁻¹) := qp_inv n2
  have bp1 : (bp l[k].1).1 = qp l[k].1.1 := rfl
  have em3 : (qp m).1 = 2 + d3.1 := by rw [← em]; rfl
  simp only [bnd_rev, hds_rev, w1, w2, r1, r2, SR.1, SR.2, a1, b1, e1, g1, g2, bp1, en, half.1, half.2, qz, rest.1, rest.2, ci1, ci2, ci3, ci4, eW1, eW2, ww1, ww2, we1, we2, le1, le2, SX.1, SX.2, em1, em2, em3, t1.1, t1.2, t2.1, t2.2, t3.1, t3.2, x1, x2, y1, y2, sm.1, sm.2, SB.1, SB.2, SF.1, SF.2, List.length_cons, List.length_nil,
    true_and, and_true, implies_true, true_implies, Bool.not_true, Bool.false_eq_true, Bool.true_eq_false, if_false, ret_rt]
  exact ⟨⟨⟨q1, q2⟩, q3, fun x hx => (gB x hx).1, fun x hx => (gB x hx).2⟩, e4⟩
/-- a speed that is drawn -/
structure SD (s : Rat) : Prop where
  ex : ∃ p q : Int, s = (p : Rat) / (q : Rat) ∧ 1 ≤ p ∧ p ≤ 12 ∧ 1 ≤ q ∧ q ≤ 3
theorem SD.pos {s : Rat} (h : SD s) : 0 < s ∧ Sz 5 s := by
  obtain ⟨p, q, rfl, a1, a2, a3, a4⟩ := h.ex
  have d : Dn ((p : Rat) / (q : Rat)) := ⟨p, q, rfl, by omega, a2, a3, a4⟩
  refine ⟨?_, d.sz.1⟩
  rw [Rat.div_def]
  exact Rat.mul_pos (Rat.intCast_pos.mpr (by omega)) (Rat.inv_pos.mpr (Rat.intCast_pos.mpr (by omega)))
theorem ds_small {l : List Bh} {s : Rat} (h : LD l) (hs : SD s) : ((ds s l).num.natAbs ≤ 1000000000000 ∧ ((ds s l).den : Int) ≤ 1000000000000) ∧ ((ds s l + 1).num.natAbs ≤ 1000000000000 ∧ ((ds s l + 1).den : Int) ≤ 1000000000000) := by
  obtain ⟨p, q, e, a1, a2, a3, a4⟩ := hs.ex
  obtain ⟨z, z1, z2, z3⟩ := ds_dv e a1 a2 a3 a4 l fun x hx => ⟨(h.e x hx).1, (h.e x hx).2.2.1, (h.e x hx).2.2.2⟩
  have hl := h.l1
  have b1 := dv_bd (b := 200000000) z1 (by omega) (by omega) (by omega)
  have z1' : (ds s l + 1) * ((2160 * p : Int) : Rat) = ((z + 2160 * p : Int) : Rat) := by
    rw [Rat.add_mul, z1, Rat.one_mul, Rat.intCast_add]
  have b2 := dv_bd (b := 200000000) z1' (by omega) (by omega) (by omega)
  have t : (200000000 : Int).toNat = 200000000 := rfl
  rw [t] at b1 b2
  refine ⟨⟨by omega, by omega⟩, by omega, by omega⟩
theorem number_ok {t : St4} {least : Int} (h0 : 0 ≤ least) (h1 : least ≤ 1) (w : Wf t) : g__law_number ((least, ()), t) ∧ (∃ r : Rat, (m__law_number ((least, ()), t)).1 = qp r ∧ ∃ n m : Int, r = (n : Rat) / (m : Rat) ∧ least ≤ n ∧ n ≤ 12 ∧ 1 ≤ m ∧ m ≤ 3) ∧ Wf (m__law_number ((least, ()), t)).2 := by
  obtain ⟨a1, a2, a3, a4⟩ := draw_ok (m := 12) w (by decide) (by decide)
  unfold g__law_number m__law_number o__law_number
  dsimp only
  generalize m__law_draw ((12, ()), t) = d1 at a1 a2 a3 a4 ⊢
  obtain ⟨b1, b2, b3, b4⟩ := draw_ok (m := 3) a4 (by decide) (by decide)
  generalize m__law_draw ((3, ()), d1.2) = d2 at b1 b2 b3 b4 ⊢
  obtain ⟨c1, c2⟩ := low_ok (a := least + d1.1) (b := 1 + d2.1) (k := 2) (by omega) (by show (1 + d2.1).natAbs < 4; omega) (by decide)
  simp only [a1, b1, c1, c2, true_and, and_true, ret_rt]
  exact ⟨⟨_, rfl, _, _, Rat.divInt_eq_div _ _, by omega, by omega, by omega, by omega⟩, b4⟩
theorem number_w {t : St4} (w : Wf t) : g__law_number ((1, ()), t) ∧ (∃ r : Rat, (m__law_number ((1, ()), t)).1 = qp r ∧ Dn r ∧ 0 < r ∧ SD r) ∧ Wf (m__law_number ((1, ()), t)).2 := by
  obtain ⟨h1, ⟨r, h2, n, m, e, a1, a2, a3, a4⟩, h3⟩ := number_ok (least := 1) (by decide) (by decide) w
  have sd : SD r := ⟨n, m, e, a1, a2, a3, a4⟩
  exact ⟨h1, ⟨r, h2, ⟨n, m, e, by omega, a2, a3, a4⟩, sd.pos.1, sd⟩, h3⟩
theorem number_c {t : St4} (w : Wf t) : g__law_number ((0, ()), t) ∧ (∃ r : Rat, (m__law_number ((0, ()), t)).1 = qp r ∧ Dn r) ∧ Wf (m__law_number ((0, ()), t)).2 := by
  obtain ⟨h1, ⟨r, h2, n, m, e, a1, a2, a3, a4⟩, h3⟩ := number_ok (least := 0) (by decide) (by decide) w
  exact ⟨h1, ⟨r, h2, ⟨n, m, e, a1, a2, a3, a4⟩⟩, h3⟩
theorem sps_l : Y.Sp 1 (.str (PySem.Str.ofString "lands")) := Y.Sp.mono (sp_str (by decide +kernel)) (by decide)
theorem sps_s : Y.Sp 1 (.str (PySem.Str.ofString "short")) := Y.Sp.mono (sp_str (by decide +kernel)) (by decide)
theorem sws_l : Sw 3809 1 (.str (PySem.Str.ofString "lands")) := Sw.mono (n := 201) (k := 0) ⟨by decide +kernel, by decide +kernel, by decide +kernel, by decide +kernel⟩ (by decide) (by decide)
theorem sws_s : Sw 3809 1 (.str (PySem.Str.ofString "short")) := Sw.mono (n := 201) (k := 0) ⟨by decide +kernel, by decide +kernel, by decide +kernel, by decide +kernel⟩ (by decide) (by decide)
theorem goals_ok {l : List Bh} {s : Rat} {t : St4} (h : LD l) (hs : SD s) (w : Wf t) : g__law_goals_hold ((bnd l, qp s, hds l, ()), t) ∧ (m__law_goals_hold ((bnd l, qp s, hds l, ()), t)).1 = true ∧ Wf (m__law_goals_hold ((bnd l, qp s, hds l, ()), t)).2 := by
  have ok := h.ok
  have hl := h.l1
  have hl0 := h.l0
  have s0 := hs.pos.1
  have hs' := (hs.pos.2.mono (by decide) : Sz 14 s)
  have lb : (bnd l).length = l.length := by unfold bnd; rw [List.length_map]
  obtain ⟨w1, w2, w3, w4⟩ := way_ok ok s0 hs'
  obtain ⟨⟨sm1, sm2⟩, sm3, sm4⟩ := ds_small h hs
  obtain ⟨n1, ⟨g, n2, n3⟩, n4⟩ := number_c w
  unfold g__law_goals_hold m__law_goals_hold o__law_goals_hold
  simp only [lb]
  generalize m__law_number ((0, ()), t) = r1 at n1 n2 n4 ⊢
  rw [n2]
  obtain ⟨t1, t2, t3⟩ := start_ok ok s0 hs' (n3.sz.1.mono (by decide) : Sz 14 g)
  have p1 := lplus_ok t3 w4 (by decide)
  rw [Rat.sub_add_cancel] at p1
  have p2 := lplus_ok w4 Sz.one (by decide)
  have zm := w4.add Sz.one
  have lt : ds s l < ds s l + 1 := by grind
  obtain ⟨l1, _, l2⟩ := landing_ok ok s0 hs' sm1 sm2 sm1 sm2 Rat.le_refl
  obtain ⟨l3, l4, _⟩ := landing_ok ok s0 hs' sm3 sm4 sm3 sm4 Rat.le_refl
  have l2' := l2 Rat.le_refl Rat.le_refl
  have l4' := l4 lt
  have e1 : ds s l + 1 - ds s l = 1 := by grind
  rw [e1] at l4'
  obtain ⟨b1, b2⟩ := between_ok (k := 502) (w4.mono (by decide)) zm lt (by decide)
  have okO : LOk (l.map fun x => (x.1, ((0, 1, 1) : Hd))) := ok.map _ fun x hx => by
    obtain ⟨k1, k2, k3, k4, k5⟩ := ok.e x hx
    exact ⟨k1, k2, k3, k4, by show ((0, 1, 1) : Hd) ∈ HL; decide⟩
  obtain ⟨o1, o2, o3, o4⟩ := way_ok okO s0 hs'
  have sne := Rat.ne_of_gt s0
  rw [over_t s sne, over_d s sne] at o2
  rw [over_t s sne] at o3
  rw [over_d s sne] at o4
  have eO1 : bnd (l.map fun x => (x.1, ((0, 1, 1) : Hd))) = bnd l := by unfold bnd; rw [List.map_map]; rfl
  have eO2 : hds (l.map fun x => (x.1, ((0, 1, 1) : Hd))) = repI [((0 : Int), (1 : Int), (1 : Int))] (l.length : Int) := by
    unfold hds repI
    rw [List.map_map, Int.toNat_natCast]
    have : (List.replicate l.length [((0 : Int), (1 : Int), (1 : Int))]).flatten = List.replicate l.length (0, 1, 1) := by simp
    rw [this]
    exact List.map_const' ..
  rw [eO1, eO2] at o1 o2
  obtain ⟨lt1, lt2⟩ := least_ok ok s0 hs'
  obtain ⟨d1, d2, d3⟩ := even_ok ok
  have q1 := lmul_ok d3 Sz.one (by decide)
  rw [Rat.mul_one] at q1
  have q2 := lmul_ok o3 d3 (by decide)
  have wne := Rat.ne_of_gt (wd_pos ok)
  have e2 : wd l / s * (wc l / wd l) = wc l / s := by grind
  rw [e2] at q2
  have q3 := lmul_ok o3 hs' (by decide)
  have e3 : wd l / s * s = wd l := Rat.div_mul_cancel sne
  rw [e3] at q3
  have zw := (sz_tot ok.l1 ok.e s0 hs').2.2
  have key := fold_pre (g := fun q : _ × Bh => kg1__law_goals_hold (q.1, bp q.2.1)) (f := fun q : _ × Bh => k1__law_goals_hold (q.1, bp q.2.1)) (fun l1 => qp (wd l1)) l fun l1 x l2 e => by
    have z := (sz_tot (l := l1) (by rw [e] at hl; simp at hl; omega) (fun y hy => ok.e y (by rw [e]; simp [hy])) s0 hs').2.2
    have p := lplus_ok z (ok.e x (by rw [e]; simp)).2.2.1 (by decide)
    unfold kg1__law_goals_hold k1__law_goals_hold bp
    simp only [p.1, p.2, true_and, and_true, wd_snoc]
  have fz : ∀ (xs : List Bh) (t : Int × Int), (forN (fun q : _ × Bh => kg1__law_goals_hold (q.1, bp q.2.1)) (fun q : _ × Bh => k1__law_goals_hold (q.1, bp q.2.1)) t xs → forN kg1__law_goals_hold k1__law_goals_hold t (bnd xs)) ∧ (bnd xs).foldl (fun m x => k1__law_goals_hold (m, x)) t = xs.foldl (fun m x => k1__law_goals_hold (m, bp x.1)) t := by
    intro xs
    induction xs with
    | nil => exact fun t => ⟨fun _ => trivial, rfl⟩
    | cons x xs ih => exact fun t => ⟨fun q => ⟨q.1, (ih _).1 q.2⟩, (ih _).2⟩
  have k1 := (fz l (0, 1)).1 key.1
  have k2 : (bnd l).foldl (fun m x => k1__law_goals_hold (m, x)) (0, 1) = qp (wd l) := (fz l (0, 1)).2.trans key.2
  have sq : ∀ {k : Nat} r, Sz k r → k ≤ 1800 → Sw 3809 1 (c2 cI cI (qp r)) := fun r z hk => sw_qp z hk
  have S1 := law_same_Q_ok (x := qp g) rfl ((sq g n3.sz.1 (by decide)).shw (by decide) (by decide))
  have S2 := law_same_LL_ok (x := [(PySem.Str.ofString "lands", qp (ds s l)), (PySem.Str.ofString "short", qp 1)]) rfl (Sp.ok (k := 3) (sp_L fun x hx => by
    simp only [List.mem_cons, List.not_mem_nil, or_false] at hx
    rcases hx with rfl | rfl
    · exact sp_2 sps_l (sp_2 (sp_int _) (sp_int _))
    · exact sp_2 sps_s (sp_2 (sp_int _) (sp_int _)))) ((sw_L (n := 2 * (3809 + 2) + 3) (k := 2) 2 (by simp) fun x hx => by
    simp only [List.mem_cons, List.not_mem_nil, or_false] at hx
    rcases hx with rfl | rfl
    · exact sw_2 sws_l (sq _ w4 (by decide))
    · exact sw_2 sws_s (sq _ Sz.one (by decide))).shw (by decide) (by decide))
  have S3 := law_same_QQ_ok (x := (qp (ds s l), qp (ds s l + 1))) rfl ((sw_2 (sq _ w4 (by decide)) (sq _ zm (by decide))).shw (by decide) (by decide))
  have S4 := law_same_LQ_ok (x := [qp (wd l / s), qp (wc l / s)]) rfl ((sw_L (n := 3809) (k := 1) 2 (by simp) fun x hx => by
    simp only [List.mem_cons, List.not_mem_nil, or_false] at hx
    rcases hx with rfl | rfl
    · exact sq _ o3 (by decide)
    · exact sq _ o4 (by decide)).shw (by decide) (by decide))
  have S5 := law_same_Q_ok (x := qp (wd l)) rfl ((sq _ zw (by decide)).shw (by decide) (by decide))
  have len : -1000000 ≤ (l.length : Int) ∧ (l.length : Int) ≤ 1000 ∧ 0 + 1 ≤ 1000 := by omega
  generalize repI [((0 : Int), (1 : Int), (1 : Int))] (l.length : Int) = zz at o1 o2 ⊢
  simp only [w1, w2, n1, t1, t2, qp_one, p1.1, p1.2, p2.1, p2.2, l1, l2', l3, l4', b1, b2, o1, o2, lt1, lt2, d1, d2, q1.1, q1.2, q2.1, q2.2, q3.1, q3.2, k1, k2, S1.1, S1.2, S2.1, S2.2, S3.1, S3.2, S4.1, S4.2, S5.1, S5.2, List.length_cons, List.length_nil,
    true_and, and_true, implies_true, true_implies, Bool.not_true, Bool.or_self, Bool.and_self, Bool.false_eq_true, Bool.true_eq_false, if_false, ret_rt]
  exact ⟨len, n4⟩
theorem exists_map {α β : Type} {f : β → α} {R : β → Prop} : ∀ xs : List α, (∀ y ∈ xs, ∃ b, y = f b ∧ R b) → ∃ bs : List β, xs = bs.map f ∧ ∀ b ∈ bs, R b
  | [], _ => ⟨[], rfl, by simp⟩
  | x :: xs, h => by
    obtain ⟨b, e, r⟩ := h x List.mem_cons_self
    obtain ⟨bs, e2, r2⟩ := exists_map xs fun y hy => h y (List.mem_cons_of_mem _ hy)
    exact ⟨b :: bs, by rw [List.map_cons, e, e2], fun c hc => by
      rcases List.mem_cons.mp hc with rfl | hc
      · exact r
      · exact r2 c hc⟩
def BQ (x : (Int × Int) × (Int × Int)) : Prop := ∃ b : Rat × Rat, x = bp b ∧ Dn b.1 ∧ 0 < b.1 ∧ Dn b.2
theorem pair_ok {t : St4} (w : Wf t) : ∀ r, m__law_number ((1, ()), t) = r → ∀ q, m__law_number ((0, ()), r.2) = q → g__law_number ((1, ()), t) ∧ g__law_number ((0, ()), r.2) ∧ BQ (r.1, q.1) ∧ Wf q.2 := by
  intro r hr q hq
  obtain ⟨a1, ⟨x, a2, a3, a4, _⟩, a5⟩ := number_w w
  rw [hr] at a2 a5
  obtain ⟨b1, ⟨y, b2, b3⟩, b4⟩ := number_c a5
  rw [hq] at b2 b4
  exact ⟨a1, b1, ⟨(x, y), by rw [a2, b2]; rfl, a3, a4, b3⟩, b4⟩
theorem river_ok {t : St4} (w : Wf t) : g__law_river ((), t) ∧ (∃ bs : List (Rat × Rat), (m__law_river ((), t)).1 = bs.map bp ∧ (1 ≤ bs.length ∧ bs.length ≤ 4) ∧ ∀ b ∈ bs, Dn b.1 ∧ 0 < b.1 ∧ Dn b.2) ∧ Wf (m__law_river ((), t)).2 := by
  have cr2 : CRg 0 2 := by unfold CRg; omega
  obtain ⟨a1, a2, a3, a4⟩ := lcS_inv (g := cg1__law_river) (f := c1__law_river) Wf BQ (rng 0 2) t w fun s x hs _ => by
    obtain ⟨p1, p2, p3, p4⟩ := pair_ok hs _ rfl _ rfl
    unfold cg1__law_river c1__law_river
    simp only [p1, p2, true_and, and_true]
    exact ⟨p3, p4⟩
  unfold g__law_river m__law_river o__law_river
  simp only [a1, cr2, true_and, and_true, ret_rt]
  generalize lcS c1__law_river t (rng 0 2) = r7 at a2 a3 a4 ⊢
  have ne : r7.1 ≠ [] := fun e => by rw [e] at a4; cases a4
  have l2 : r7.1.length = 2 := a4
  obtain ⟨b1, b2, b3, b4⟩ := draw_ok (m := 4) a3 (by decide) (by decide)
  generalize m__law_draw ((4, ()), r7.2) = r9 at b1 b2 b3 b4 ⊢
  have cr : CRg 0 (1 + r9.1) := by unfold CRg; omega
  obtain ⟨d1, d2, d3, d4⟩ := lcS_inv (g := cg2__law_river r7.1) (f := c2__law_river r7.1) Wf BQ (rng 0 (1 + r9.1)) r9.2 b4 fun s x hs _ => by
    obtain ⟨e1, e2, e3, e4⟩ := draw_ok (m := 2) hs (by decide) (by decide)
    unfold cg2__law_river c2__law_river
    dsimp only
    generalize m__law_draw ((2, ()), s) = r18 at e1 e2 e3 e4 ⊢
    cases k : decide (r18.1 = (0 : Int)) with
    | true =>
      obtain ⟨p1, p2, p3⟩ := law_pick_BA_ok e4 ne (by omega)
      simp only [e1, p1, true_and, and_true, implies_true, true_implies, Bool.true_eq_false, false_implies, if_true]
      exact ⟨a2 _ p2, p3⟩
    | false =>
      obtain ⟨p1, p2, p3, p4⟩ := pair_ok e4 _ rfl _ rfl
      simp only [e1, p1, p2, true_and, and_true, implies_true, true_implies, Bool.false_eq_true, false_implies, if_false]
      exact ⟨p3, p4⟩
  simp only [b1, cr, d1, true_and]
  obtain ⟨bs, f1, f2⟩ := exists_map (f := bp) (R := fun b => Dn b.1 ∧ 0 < b.1 ∧ Dn b.2) _ d2
  rw [rng_length] at d4
  rw [f1, List.length_map] at d4
  exact ⟨⟨bs, f1, by omega, f2⟩, d3⟩
theorem headings_ok {t : St4} {n : Int} (h0 : 1 ≤ n) (h1 : n ≤ 4) (w : Wf t) : g__law_headings ((n, ()), t) ∧ ((m__law_headings ((n, ()), t)).1.length : Int) = n ∧ (∀ h ∈ (m__law_headings ((n, ()), t)).1, h ∈ HL) ∧ Wf (m__law_headings ((n, ()), t)).2 := by
  have cr : CRg 0 n := by unfold CRg; omega
  unfold g__law_headings m__law_headings o__law_headings
  simp only [true_and, and_true, ret_rt, cr]
  obtain ⟨d1, d2, d3, d4⟩ := lcS_inv (g := cg1__law_headings [((0 : Int), (1 : Int), (1 : Int)), ((3 : Int), (4 : Int), (5 : Int)), (((0 : Int) - (3 : Int)), (4 : Int), (5 : Int)), ((4 : Int), (3 : Int), (5 : Int)), (((0 : Int) - (4 : Int)), (3 : Int), (5 : Int)), ((5 : Int), (12 : Int), (13 : Int)), (((0 : Int) - (12 : Int)), (5 : Int), (13 : Int)), (((0 : Int) - (8 : Int)), (15 : Int), (17 : Int))]) (f := c1__law_headings [((0 : Int), (1 : Int), (1 : Int)), ((3 : Int), (4 : Int), (5 : Int)), (((0 : Int) - (3 : Int)), (4 : Int), (5 : Int)), ((4 : Int), (3 : Int), (5 : Int)), (((0 : Int) - (4 : Int)), (3 : Int), (5 : Int)), ((5 : Int), (12 : Int), (13 : Int)), (((0 : Int) - (12 : Int)), (5 : Int), (13 : Int)), (((0 : Int) - (8 : Int)), (15 : Int), (17 : Int))]) Wf (fun h => h ∈ HL) (rng 0 n) t w fun s x hs _ => by
    obtain ⟨p1, p2, p3⟩ := law_pick_HD_ok (xs := [((0 : Int), (1 : Int), (1 : Int)), ((3 : Int), (4 : Int), (5 : Int)), (((0 : Int) - (3 : Int)), (4 : Int), (5 : Int)), ((4 : Int), (3 : Int), (5 : Int)), (((0 : Int) - (4 : Int)), (3 : Int), (5 : Int)), ((5 : Int), (12 : Int), (13 : Int)), (((0 : Int) - (12 : Int)), (5 : Int), (13 : Int)), (((0 : Int) - (8 : Int)), (15 : Int), (17 : Int))]) hs (by simp) (by simp)
    unfold cg1__law_headings c1__law_headings
    simp only [p1, true_and, and_true]
    refine ⟨?_, p3⟩
    have : ∀ h ∈ [((0 : Int), (1 : Int), (1 : Int)), ((3 : Int), (4 : Int), (5 : Int)), (((0 : Int) - (3 : Int)), (4 : Int), (5 : Int)), ((4 : Int), (3 : Int), (5 : Int)), (((0 : Int) - (4 : Int)), (3 : Int), (5 : Int)), ((5 : Int), (12 : Int), (13 : Int)), (((0 : Int) - (12 : Int)), (5 : Int), (13 : Int)), (((0 : Int) - (8 : Int)), (15 : Int), (17 : Int))], h ∈ HL := by decide
    exact this _ p2
  rw [rng_length] at d4
  exact ⟨d1, by omega, d2, d3⟩
theorem zip_of (bs : List (Rat × Rat)) (hs : List Hd) (h : bs.length = hs.length) : bnd (bs.zip hs) = bs.map bp ∧ hds (bs.zip hs) = hs := by
  unfold bnd hds
  constructor
  · have e : (bs.zip hs).map (fun x => bp x.1) = ((bs.zip hs).map Prod.fst).map bp := by rw [List.map_map]; rfl
    rw [e, List.map_fst_zip (by omega)]
  · exact List.map_snd_zip (by omega)
theorem turn_ok {t : St4} (w : Wf t) (x : Int) : kg1_law (t, x) ∧ ∃ t', k1_law (t, x) = .nx t' ∧ Wf t' := by
  obtain ⟨a1, ⟨bs, a2, a3, a4⟩, a5⟩ := river_ok w
  unfold kg1_law k1_law
  dsimp only
  generalize m__law_river ((), t) = r3 at a1 a2 a5 ⊢
  obtain ⟨b1, ⟨s, b2, _, _, b3⟩, b4⟩ := number_w a5
  generalize m__law_number ((1, ()), r3.2) = r4 at b1 b2 b4 ⊢
  rw [a2, b2]
  have lb : ((bs.map bp).length : Int) = (bs.length : Int) := by rw [List.length_map]
  obtain ⟨d1, d2, d3, d4⟩ := headings_ok (n := (bs.length : Int)) (by omega) (by omega) b4
  simp only [lb]
  generalize m__law_headings (((bs.length : Int), ()), r4.2) = r7 at d1 d2 d3 d4 ⊢
  obtain ⟨z1, z2⟩ := zip_of bs r7.1 (by omega)
  have LDl : LD (bs.zip r7.1) := by
    refine ⟨by rw [List.length_zip]; omega, by rw [List.length_zip]; omega, fun y hy => ?_⟩
    have hb := a4 y.1 (List.of_mem_zip hy).1
    exact ⟨hb.1, hb.2.1, hb.2.2, d3 y.2 (List.of_mem_zip hy).2⟩
  have sp := b3.pos
  obtain ⟨e1, e2⟩ := currents_ok LDl sp.1 (sp.2.mono (by decide))
  obtain ⟨f1, f2, f3⟩ := order_ok LDl sp.1 sp.2 d4
  rw [z1, z2] at e1 e2 f1 f2 f3
  generalize m__law_order_holds ((bs.map bp, qp s, r7.1, ()), r7.2) = r9 at f1 f2 f3 ⊢
  obtain ⟨g1, g2, g3⟩ := goals_ok LDl b3 f3
  rw [z1, z2] at g1 g2 g3
  generalize m__law_goals_hold ((bs.map bp, qp s, r7.1, ()), r9.2) = r10 at g1 g2 g3 ⊢
  simp only [a1, b1, d1, e1, e2, f1, f2, g1, g2, true_and, and_true, implies_true, true_implies, Bool.not_true, Bool.or_self, Bool.false_eq_true, if_false]
  exact ⟨_, rfl, g3⟩
theorem law_ok : ∀ t, Wf t → g_law t ∧ o_law t = .rt true := by
  intro t w
  have cr : CRg 0 5 := by unfold CRg; omega
  unfold g_law o_law
  simp only [cr, true_and, and_true, implies_true]
  exact ⟨forG_use Wf w fun t x ht _ => turn_ok ht x, forO_use Wf (Z := fun o : Out St4 Bool Empty => Out.bind o _ = Out.rt true) w (fun t x ht _ => (turn_ok ht x).2) fun t' _ => rfl⟩
end Z
namespace Z
open PySem PySem.Spec PyProof.Rows L2 Y
theorem all_mk {l : PySem.W.OpenLaw} {w : World} {K : Y.Frag} {h : Heap} {mg : Str → Option Value} {fa : Addr} (X : K.In h) (G : h.Ns mainGlobals mg) (hfa : mg "law" = some (.ref fa)) {f4 f9 f10 f11 f12 f13 f14 f15 f16 f17 f19 f20 f21 f22 f23 f24 f25 f26 f27 f28 f29 f30 f31 f32 f34 f35 f36 f37 f38 f39 f40 f41 f42 f43 f44 f45 f46 f47 : Addr} {od4 an4 od9 an9 od10 an10 od11 an11 od12 an12 od13 an13 od14 an14 od15 an15 od16 an16 od17 an17 od19 an19 od20 an20 od21 an21 od22 an22 od23 an23 od24 an24 od25 an25 od26 an26 od27 an27 od28 an28 od29 an29 od30 an30 od31 an31 od32 an32 od34 an34 od35 an35 od36 an36 od37 an37 od38 an38 od39 an39 od40 an40 od41 an41 od42 an42 od43 an43 od44 an44 od45 an45 od46 an46 od47 an47 : Option Addr} {sl4 sl9 sl10 sl11 sl12 sl13 sl14 sl15 sl16 sl17 sl19 sl20 sl21 sl22 sl23 sl24 sl25 sl26 sl27 sl28 sl29 sl30 sl31 sl32 sl34 sl35 sl36 sl37 sl38 sl39 sl40 sl41 sl42 sl43 sl44 sl45 sl46 sl47 : Array (Option Value)} {oc4 kV4 dc4 pm4 cd4 ct4 oc9 kV9 dc9 pm9 cd9 ct9 oc10 kV10 dc10 pm10 cd10 ct10 oc11 kV11 dc11 pm11 cd11 ct11 oc12 kV12 dc12 pm12 cd12 ct12 oc13 kV13 dc13 pm13 cd13 ct13 oc14 kV14 dc14 pm14 cd14 ct14 oc15 kV15 dc15 pm15 cd15 ct15 oc16 kV16 dc16 pm16 cd16 ct16 oc17 kV17 dc17 pm17 cd17 ct17 oc19 kV19 dc19 pm19 cd19 ct19 oc20 kV20 dc20 pm20 cd20 ct20 oc21 kV21 dc21 pm21 cd21 ct21 oc22 kV22 dc22 pm22 cd22 ct22 oc23 kV23 dc23 pm23 cd23 ct23 oc24 kV24 dc24 pm24 cd24 ct24 oc25 kV25 dc25 pm25 cd25 ct25 oc26 kV26 dc26 pm26 cd26 ct26 oc27 kV27 dc27 pm27 cd27 ct27 oc28 kV28 dc28 pm28 cd28 ct28 oc29 kV29 dc29 pm29 cd29 ct29 oc30 kV30 dc30 pm30 cd30 ct30 oc31 kV31 dc31 pm31 cd31 ct31 oc32 kV32 dc32 pm32 cd32 ct32 oc34 kV34 dc34 pm34 cd34 ct34 oc35 kV35 dc35 pm35 cd35 ct35 oc36 kV36 dc36 pm36 cd36 ct36 oc37 kV37 dc37 pm37 cd37 ct37 oc38 kV38 dc38 pm38 cd38 ct38 oc39 kV39 dc39 pm39 cd39 ct39 oc40 kV40 dc40 pm40 cd40 ct40 oc41 kV41 dc41 pm41 cd41 ct41 oc42 kV42 dc42 pm42 cd42 ct42 oc43 kV43 dc43 pm43 cd43 ct43 oc44 kV44 dc44 pm44 cd44 ct44 oc45 kV45 dc45 pm45 cd45 ct45 oc46 kV46 dc46 pm46 cd46 ct46 oc47 kV47 dc47 pm47 cd47 ct47 : Value} {t_MAX_BANDS : Tok} {t_MAX_HEADING : Tok} {t_MAX_SIZE : Tok} (a4 : PySem.W.nsIn K mainGlobals "is_integer" = some (some (.ref f4))) (l4 : K.lookup f4 = some ⟨oc4, od4, .func (PySem.W.fnOf "is_integer" "is_integer" (defArgs (topS 4)) (defBody (topS 4)) (defScope (topS 4)) .none kV4 dc4 pm4 an4 cd4 ct4), sl4⟩) (c4 : PySem.W.codeIn K cd4 "is_integer" = true) (k4 : PySem.W.keepIn K (.ref f4) = true) (a9 : PySem.W.nsIn K mainGlobals "greatest_divisor" = some (some (.ref f9))) (l9 : K.lookup f9 = some ⟨oc9, od9, .func (PySem.W.fnOf "greatest_divisor" "greatest_divisor" (defArgs (topS 9)) (defBody (topS 9)) (defScope (topS 9)) .none kV9 dc9 pm9 an9 cd9 ct9), sl9⟩) (c9 : PySem.W.codeIn K cd9 "greatest_divisor" = true) (k9 : PySem.W.keepIn K (.ref f9) = true) (a10 : PySem.W.nsIn K mainGlobals "quotient" = some (some (.ref f10))) (l10 : K.lookup f10 = some ⟨oc10, od10, .func (PySem.W.fnOf "quotient" "quotient" (defArgs (topS 10)) (defBody (topS 10)) (defScope (topS 10)) .none kV10 dc10 pm10 an10 cd10 ct10), sl10⟩) (c10 : PySem.W.codeIn K cd10 "quotient" = true) (k10 : PySem.W.keepIn K (.ref f10) = true) (a11 : PySem.W.nsIn K mainGlobals "plus" = some (some (.ref f11))) (l11 : K.lookup f11 = some ⟨oc11, od11, .func (PySem.W.fnOf "plus" "plus" (defArgs (topS 11)) (defBody (topS 11)) (defScope (topS 11)) .none kV11 dc11 pm11 an11 cd11 ct11), sl11⟩) (c11 : PySem.W.codeIn K cd11 "plus" = true) (k11 : PySem.W.keepIn K (.ref f11) = true) (a12 : PySem.W.nsIn K mainGlobals "times" = some (some (.ref f12))) (l12 : K.lookup f12 = some ⟨oc12, od12, .func (PySem.W.fnOf "times" "times" (defArgs (topS 12)) (defBody (topS 12)) (defScope (topS 12)) .none kV12 dc12 pm12 an12 cd12 ct12), sl12⟩) (c12 : PySem.W.codeIn K cd12 "times" = true) (k12 : PySem.W.keepIn K (.ref f12) = true) (a13 : PySem.W.nsIn K mainGlobals "over" = some (some (.ref f13))) (l13 : K.lookup f13 = some ⟨oc13, od13, .func (PySem.W.fnOf "over" "over" (defArgs (topS 13)) (defBody (topS 13)) (defScope (topS 13)) .none kV13 dc13 pm13 an13 cd13 ct13), sl13⟩) (c13 : PySem.W.codeIn K cd13 "over" = true) (k13 : PySem.W.keepIn K (.ref f13) = true) (a14 : PySem.W.nsIn K mainGlobals "is_less" = some (some (.ref f14))) (l14 : K.lookup f14 = some ⟨oc14, od14, .func (PySem.W.fnOf "is_less" "is_less" (defArgs (topS 14)) (defBody (topS 14)) (defScope (topS 14)) .none kV14 dc14 pm14 an14 cd14 ct14), sl14⟩) (c14 : PySem.W.codeIn K cd14 "is_less" = true) (k14 : PySem.W.keepIn K (.ref f14) = true) (a15 : PySem.W.nsIn K mainGlobals "sum_of" = some (some (.ref f15))) (l15 : K.lookup f15 = some ⟨oc15, od15, .func (PySem.W.fnOf "sum_of" "sum_of" (defArgs (topS 15)) (defBody (topS 15)) (defScope (topS 15)) .none kV15 dc15 pm15 an15 cd15 ct15), sl15⟩) (c15 : PySem.W.codeIn K cd15 "sum_of" = true) (k15 : PySem.W.keepIn K (.ref f15) = true) (a16 : PySem.W.nsIn K mainGlobals "is_quotient" = some (some (.ref f16))) (l16 : K.lookup f16 = some ⟨oc16, od16, .func (PySem.W.fnOf "is_quotient" "is_quotient" (defArgs (topS 16)) (defBody (topS 16)) (defScope (topS 16)) .none kV16 dc16 pm16 an16 cd16 ct16), sl16⟩) (c16 : PySem.W.codeIn K cd16 "is_quotient" = true) (k16 : PySem.W.keepIn K (.ref f16) = true) (a17 : PySem.W.nsIn K mainGlobals "is_number" = some (some (.ref f17))) (l17 : K.lookup f17 = some ⟨oc17, od17, .func (PySem.W.fnOf "is_number" "is_number" (defArgs (topS 17)) (defBody (topS 17)) (defScope (topS 17)) .none kV17 dc17 pm17 an17 cd17 ct17), sl17⟩) (c17 : PySem.W.codeIn K cd17 "is_number" = true) (k17 : PySem.W.keepIn K (.ref f17) = true) (a19 : PySem.W.nsIn K mainGlobals "is_heading" = some (some (.ref f19))) (l19 : K.lookup f19 = some ⟨oc19, od19, .func (PySem.W.fnOf "is_heading" "is_heading" (defArgs (topS 19)) (defBody (topS 19)) (defScope (topS 19)) .none kV19 dc19 pm19 an19 cd19 ct19), sl19⟩) (c19 : PySem.W.codeIn K cd19 "is_heading" = true) (k19 : PySem.W.keepIn K (.ref f19) = true) (a20 : PySem.W.nsIn K mainGlobals "check_bands" = some (some (.ref f20))) (l20 : K.lookup f20 = some ⟨oc20, od20, .func (PySem.W.fnOf "check_bands" "check_bands" (defArgs (topS 20)) (defBody (topS 20)) (defScope (topS 20)) .none kV20 dc20 pm20 an20 cd20 ct20), sl20⟩) (c20 : PySem.W.codeIn K cd20 "check_bands" = true) (k20 : PySem.W.keepIn K (.ref f20) = true) (a21 : PySem.W.nsIn K mainGlobals "check_speed" = some (some (.ref f21))) (l21 : K.lookup f21 = some ⟨oc21, od21, .func (PySem.W.fnOf "check_speed" "check_speed" (defArgs (topS 21)) (defBody (topS 21)) (defScope (topS 21)) .none kV21 dc21 pm21 an21 cd21 ct21), sl21⟩) (c21 : PySem.W.codeIn K cd21 "check_speed" = true) (k21 : PySem.W.keepIn K (.ref f21) = true) (a22 : PySem.W.nsIn K mainGlobals "check_headings" = some (some (.ref f22))) (l22 : K.lookup f22 = some ⟨oc22, od22, .func (PySem.W.fnOf "check_headings" "check_headings" (defArgs (topS 22)) (defBody (topS 22)) (defScope (topS 22)) .none kV22 dc22 pm22 an22 cd22 ct22), sl22⟩) (c22 : PySem.W.codeIn K cd22 "check_headings" = true) (k22 : PySem.W.keepIn K (.ref f22) = true) (a23 : PySem.W.nsIn K mainGlobals "time_of" = some (some (.ref f23))) (l23 : K.lookup f23 = some ⟨oc23, od23, .func (PySem.W.fnOf "time_of" "time_of" (defArgs (topS 23)) (defBody (topS 23)) (defScope (topS 23)) .none kV23 dc23 pm23 an23 cd23 ct23), sl23⟩) (c23 : PySem.W.codeIn K cd23 "time_of" = true) (k23 : PySem.W.keepIn K (.ref f23) = true) (a24 : PySem.W.nsIn K mainGlobals "drift_of" = some (some (.ref f24))) (l24 : K.lookup f24 = some ⟨oc24, od24, .func (PySem.W.fnOf "drift_of" "drift_of" (defArgs (topS 24)) (defBody (topS 24)) (defScope (topS 24)) .none kV24 dc24 pm24 an24 cd24 ct24), sl24⟩) (c24 : PySem.W.codeIn K cd24 "drift_of" = true) (k24 : PySem.W.keepIn K (.ref f24) = true) (a25 : PySem.W.nsIn K mainGlobals "way_across" = some (some (.ref f25))) (l25 : K.lookup f25 = some ⟨oc25, od25, .func (PySem.W.fnOf "way_across" "way_across" (defArgs (topS 25)) (defBody (topS 25)) (defScope (topS 25)) .none kV25 dc25 pm25 an25 cd25 ct25), sl25⟩) (c25 : PySem.W.codeIn K cd25 "way_across" = true) (k25 : PySem.W.keepIn K (.ref f25) = true) (a26 : PySem.W.nsIn K mainGlobals "crossing_in" = some (some (.ref f26))) (l26 : K.lookup f26 = some ⟨oc26, od26, .func (PySem.W.fnOf "crossing_in" "crossing_in" (defArgs (topS 26)) (defBody (topS 26)) (defScope (topS 26)) .none kV26 dc26 pm26 an26 cd26 ct26), sl26⟩) (c26 : PySem.W.codeIn K cd26 "crossing_in" = true) (k26 : PySem.W.keepIn K (.ref f26) = true) (a27 : PySem.W.nsIn K mainGlobals "way_by_bands" = some (some (.ref f27))) (l27 : K.lookup f27 = some ⟨oc27, od27, .func (PySem.W.fnOf "way_by_bands" "way_by_bands" (defArgs (topS 27)) (defBody (topS 27)) (defScope (topS 27)) .none kV27 dc27 pm27 an27 cd27 ct27), sl27⟩) (c27 : PySem.W.codeIn K cd27 "way_by_bands" = true) (k27 : PySem.W.keepIn K (.ref f27) = true) (a28 : PySem.W.nsIn K mainGlobals "judge_landing" = some (some (.ref f28))) (l28 : K.lookup f28 = some ⟨oc28, od28, .func (PySem.W.fnOf "judge_landing" "judge_landing" (defArgs (topS 28)) (defBody (topS 28)) (defScope (topS 28)) .none kV28 dc28 pm28 an28 cd28 ct28), sl28⟩) (c28 : PySem.W.codeIn K cd28 "judge_landing" = true) (k28 : PySem.W.keepIn K (.ref f28) = true) (a29 : PySem.W.nsIn K mainGlobals "least_time" = some (some (.ref f29))) (l29 : K.lookup f29 = some ⟨oc29, od29, .func (PySem.W.fnOf "least_time" "least_time" (defArgs (topS 29)) (defBody (topS 29)) (defScope (topS 29)) .none kV29 dc29 pm29 an29 cd29 ct29), sl29⟩) (c29 : PySem.W.codeIn K cd29 "least_time" = true) (k29 : PySem.W.keepIn K (.ref f29) = true) (a30 : PySem.W.nsIn K mainGlobals "drift_between" = some (some (.ref f30))) (l30 : K.lookup f30 = some ⟨oc30, od30, .func (PySem.W.fnOf "drift_between" "drift_between" (defArgs (topS 30)) (defBody (topS 30)) (defScope (topS 30)) .none kV30 dc30 pm30 an30 cd30 ct30), sl30⟩) (c30 : PySem.W.codeIn K cd30 "drift_between" = true) (k30 : PySem.W.keepIn K (.ref f30) = true) (a31 : PySem.W.nsIn K mainGlobals "even_current" = some (some (.ref f31))) (l31 : K.lookup f31 = some ⟨oc31, od31, .func (PySem.W.fnOf "even_current" "even_current" (defArgs (topS 31)) (defBody (topS 31)) (defScope (topS 31)) .none kV31 dc31 pm31 an31 cd31 ct31), sl31⟩) (c31 : PySem.W.codeIn K cd31 "even_current" = true) (k31 : PySem.W.keepIn K (.ref f31) = true) (a32 : PySem.W.nsIn K mainGlobals "start_for" = some (some (.ref f32))) (l32 : K.lookup f32 = some ⟨oc32, od32, .func (PySem.W.fnOf "start_for" "start_for" (defArgs (topS 32)) (defBody (topS 32)) (defScope (topS 32)) .none kV32 dc32 pm32 an32 cd32 ct32), sl32⟩) (c32 : PySem.W.codeIn K cd32 "start_for" = true) (k32 : PySem.W.keepIn K (.ref f32) = true) (a34 : PySem.W.nsIn K mainGlobals "_law_start" = some (some (.ref f34))) (l34 : K.lookup f34 = some ⟨oc34, od34, .func (PySem.W.fnOf "_law_start" "_law_start" (defArgs (topS 34)) (defBody (topS 34)) (defScope (topS 34)) .none kV34 dc34 pm34 an34 cd34 ct34), sl34⟩) (c34 : PySem.W.codeIn K cd34 "_law_start" = true) (k34 : PySem.W.keepIn K (.ref f34) = true) (a35 : PySem.W.nsIn K mainGlobals "_law_draw" = some (some (.ref f35))) (l35 : K.lookup f35 = some ⟨oc35, od35, .func (PySem.W.fnOf "_law_draw" "_law_draw" (defArgs (topS 35)) (defBody (topS 35)) (defScope (topS 35)) .none kV35 dc35 pm35 an35 cd35 ct35), sl35⟩) (c35 : PySem.W.codeIn K cd35 "_law_draw" = true) (k35 : PySem.W.keepIn K (.ref f35) = true) (a36 : PySem.W.nsIn K mainGlobals "_law_pick" = some (some (.ref f36))) (l36 : K.lookup f36 = some ⟨oc36, od36, .func (PySem.W.fnOf "_law_pick" "_law_pick" (defArgs (topS 36)) (defBody (topS 36)) (defScope (topS 36)) .none kV36 dc36 pm36 an36 cd36 ct36), sl36⟩) (c36 : PySem.W.codeIn K cd36 "_law_pick" = true) (k36 : PySem.W.keepIn K (.ref f36) = true) (a37 : PySem.W.nsIn K mainGlobals "_law_same" = some (some (.ref f37))) (l37 : K.lookup f37 = some ⟨oc37, od37, .func (PySem.W.fnOf "_law_same" "_law_same" (defArgs (topS 37)) (defBody (topS 37)) (defScope (topS 37)) .none kV37 dc37 pm37 an37 cd37 ct37), sl37⟩) (c37 : PySem.W.codeIn K cd37 "_law_same" = true) (k37 : PySem.W.keepIn K (.ref f37) = true) (a38 : PySem.W.nsIn K mainGlobals "_law_low" = some (some (.ref f38))) (l38 : K.lookup f38 = some ⟨oc38, od38, .func (PySem.W.fnOf "_law_low" "_law_low" (defArgs (topS 38)) (defBody (topS 38)) (defScope (topS 38)) .none kV38 dc38 pm38 an38 cd38 ct38), sl38⟩) (c38 : PySem.W.codeIn K cd38 "_law_low" = true) (k38 : PySem.W.keepIn K (.ref f38) = true) (a39 : PySem.W.nsIn K mainGlobals "_law_plus" = some (some (.ref f39))) (l39 : K.lookup f39 = some ⟨oc39, od39, .func (PySem.W.fnOf "_law_plus" "_law_plus" (defArgs (topS 39)) (defBody (topS 39)) (defScope (topS 39)) .none kV39 dc39 pm39 an39 cd39 ct39), sl39⟩) (c39 : PySem.W.codeIn K cd39 "_law_plus" = true) (k39 : PySem.W.keepIn K (.ref f39) = true) (a40 : PySem.W.nsIn K mainGlobals "_law_mul" = some (some (.ref f40))) (l40 : K.lookup f40 = some ⟨oc40, od40, .func (PySem.W.fnOf "_law_mul" "_law_mul" (defArgs (topS 40)) (defBody (topS 40)) (defScope (topS 40)) .none kV40 dc40 pm40 an40 cd40 ct40), sl40⟩) (c40 : PySem.W.codeIn K cd40 "_law_mul" = true) (k40 : PySem.W.keepIn K (.ref f40) = true) (a41 : PySem.W.nsIn K mainGlobals "_law_number" = some (some (.ref f41))) (l41 : K.lookup f41 = some ⟨oc41, od41, .func (PySem.W.fnOf "_law_number" "_law_number" (defArgs (topS 41)) (defBody (topS 41)) (defScope (topS 41)) .none kV41 dc41 pm41 an41 cd41 ct41), sl41⟩) (c41 : PySem.W.codeIn K cd41 "_law_number" = true) (k41 : PySem.W.keepIn K (.ref f41) = true) (a42 : PySem.W.nsIn K mainGlobals "_law_river" = some (some (.ref f42))) (l42 : K.lookup f42 = some ⟨oc42, od42, .func (PySem.W.fnOf "_law_river" "_law_river" (defArgs (topS 42)) (defBody (topS 42)) (defScope (topS 42)) .none kV42 dc42 pm42 an42 cd42 ct42), sl42⟩) (c42 : PySem.W.codeIn K cd42 "_law_river" = true) (k42 : PySem.W.keepIn K (.ref f42) = true) (a43 : PySem.W.nsIn K mainGlobals "_law_headings" = some (some (.ref f43))) (l43 : K.lookup f43 = some ⟨oc43, od43, .func (PySem.W.fnOf "_law_headings" "_law_headings" (defArgs (topS 43)) (defBody (topS 43)) (defScope (topS 43)) .none kV43 dc43 pm43 an43 cd43 ct43), sl43⟩) (c43 : PySem.W.codeIn K cd43 "_law_headings" = true) (k43 : PySem.W.keepIn K (.ref f43) = true) (a44 : PySem.W.nsIn K mainGlobals "_law_currents_hold" = some (some (.ref f44))) (l44 : K.lookup f44 = some ⟨oc44, od44, .func (PySem.W.fnOf "_law_currents_hold" "_law_currents_hold" (defArgs (topS 44)) (defBody (topS 44)) (defScope (topS 44)) .none kV44 dc44 pm44 an44 cd44 ct44), sl44⟩) (c44 : PySem.W.codeIn K cd44 "_law_currents_hold" = true) (k44 : PySem.W.keepIn K (.ref f44) = true) (a45 : PySem.W.nsIn K mainGlobals "_law_order_holds" = some (some (.ref f45))) (l45 : K.lookup f45 = some ⟨oc45, od45, .func (PySem.W.fnOf "_law_order_holds" "_law_order_holds" (defArgs (topS 45)) (defBody (topS 45)) (defScope (topS 45)) .none kV45 dc45 pm45 an45 cd45 ct45), sl45⟩) (c45 : PySem.W.codeIn K cd45 "_law_order_holds" = true) (k45 : PySem.W.keepIn K (.ref f45) = true) (a46 : PySem.W.nsIn K mainGlobals "_law_goals_hold" = some (some (.ref f46))) (l46 : K.lookup f46 = some ⟨oc46, od46, .func (PySem.W.fnOf "_law_goals_hold" "_law_goals_hold" (defArgs (topS 46)) (defBody (topS 46)) (defScope (topS 46)) .none kV46 dc46 pm46 an46 cd46 ct46), sl46⟩) (c46 : PySem.W.codeIn K cd46 "_law_goals_hold" = true) (k46 : PySem.W.keepIn K (.ref f46) = true) (a47 : PySem.W.nsIn K mainGlobals "law" = some (some (.ref f47))) (l47 : K.lookup f47 = some ⟨oc47, od47, .func (PySem.W.fnOf "law" "law" (defArgs (topS 47)) (defBody (topS 47)) (defScope (topS 47)) .none kV47 dc47 pm47 an47 cd47 ct47), sl47⟩) (c47 : PySem.W.codeIn K cd47 "law" = true) (k47 : PySem.W.keepIn K (.ref f47) = true) (z_abs : PySem.W.nsIn K mainGlobals "abs" = some none) (z_all : PySem.W.nsIn K mainGlobals "all" = some none) (z_bool : PySem.W.nsIn K mainGlobals "bool" = some none) (z_int : PySem.W.nsIn K mainGlobals "int" = some none) (z_isinstance : PySem.W.nsIn K mainGlobals "isinstance" = some none) (z_len : PySem.W.nsIn K mainGlobals "len" = some none) (z_list : PySem.W.nsIn K mainGlobals "list" = some none) (z_range : PySem.W.nsIn K mainGlobals "range" = some none) (z_repr : PySem.W.nsIn K mainGlobals "repr" = some none) (z_tuple : PySem.W.nsIn K mainGlobals "tuple" = some none) (z_zip : PySem.W.nsIn K mainGlobals "zip" = some none) (c_MAX_BANDS : PySem.W.nsIn K mainGlobals "MAX_BANDS" = some (some (.int 6 t_MAX_BANDS))) (c_MAX_HEADING : PySem.W.nsIn K mainGlobals "MAX_HEADING" = some (some (.int 65 t_MAX_HEADING))) (c_MAX_SIZE : PySem.W.nsIn K mainGlobals "MAX_SIZE" = some (some (.int 1000000000000 t_MAX_SIZE)))
    (ok : ∀ t, Wf t → g_law t ∧ o_law t = .rt true) : ∃ fd : FuncData, (∀ (s : Shared) (u : Value), BindsTo s fd ⟨[u], []⟩ [("script", u)]) ∧ ∀ base : Heap, K.In base → base.Ns mainGlobals mg → FnG l.prog w K mg base 10 fa fd ["script"] (spLaw K) := by
  have e : fa = f47 := by
    have e := hfa.symm.trans (PySem.W.mg_of X G a47)
    injection e with e
    injection e
  rw [e]
  have T : Tx K mg (fun i => (([(4, f4), (9, f9), (10, f10), (11, f11), (12, f12), (13, f13), (14, f14), (15, f15), (16, f16), (17, f17), (19, f19), (20, f20), (21, f21), (22, f22), (23, f23), (24, f24), (25, f25), (26, f26), (27, f27), (28, f28), (29, f29), (30, f30), (31, f31), (32, f32), (34, f34), (35, f35), (36, f36), (37, f37), (38, f38), (39, f39), (40, f40), (41, f41), (42, f42), (43, f43), (44, f44), (45, f45), (46, f46), (47, f47)] : List (Nat × Addr)).lookup i).getD 0) (fun i => (([(4, (PySem.W.fnOf "is_integer" "is_integer" (defArgs (topS 4)) (defBody (topS 4)) (defScope (topS 4)) .none kV4 dc4 pm4 an4 cd4 ct4)), (9, (PySem.W.fnOf "greatest_divisor" "greatest_divisor" (defArgs (topS 9)) (defBody (topS 9)) (defScope (topS 9)) .none kV9 dc9 pm9 an9 cd9 ct9)), (10, (PySem.W.fnOf "quotient" "quotient" (defArgs (topS 10)) (defBody (topS 10)) (defScope (topS 10)) .none kV10 dc10 pm10 an10 cd10 ct10)), (11, (PySem.W.fnOf "plus" "plus" (defArgs (topS 11)) (defBody (topS 11)) (defScope (topS 11)) .none kV11 dc11 pm11 an11 cd11 ct11)), (12, (PySem.W.fnOf "times" "times" (defArgs (topS 12)) (defBody (topS 12)) (defScope (topS 12)) .none kV12 dc12 pm12 an12 cd12 ct12)), (13, (PySem.W.fnOf "over" "over" (defArgs (topS 13)) (defBody (topS 13)) (defScope (topS 13)) .none kV13 dc13 pm13 an13 cd13 ct13)), (14, (PySem.W.fnOf "is_less" "is_less" (defArgs (topS 14)) (defBody (topS 14)) (defScope (topS 14)) .none kV14 dc14 pm14 an14 cd14 ct14)), (15, (PySem.W.fnOf "sum_of" "sum_of" (defArgs (topS 15)) (defBody (topS 15)) (defScope (topS 15)) .none kV15 dc15 pm15 an15 cd15 ct15)), (16, (PySem.W.fnOf "is_quotient" "is_quotient" (defArgs (topS 16)) (defBody (topS 16)) (defScope (topS 16)) .none kV16 dc16 pm16 an16 cd16 ct16)), (17, (PySem.W.fnOf "is_number" "is_number" (defArgs (topS 17)) (defBody (topS 17)) (defScope (topS 17)) .none kV17 dc17 pm17 an17 cd17 ct17)), (19, (PySem.W.fnOf "is_heading" "is_heading" (defArgs (topS 19)) (defBody (topS 19)) (defScope (topS 19)) .none kV19 dc19 pm19 an19 cd19 ct19)), (20, (PySem.W.fnOf "check_bands" "check_bands" (defArgs (topS 20)) (defBody (topS 20)) (defScope (topS 20)) .none kV20 dc20 pm20 an20 cd20 ct20)), (21, (PySem.W.fnOf "check_speed" "check_speed" (defArgs (topS 21)) (defBody (topS 21)) (defScope (topS 21)) .none kV21 dc21 pm21 an21 cd21 ct21)), (22, (PySem.W.fnOf "check_headings" "check_headings" (defArgs (topS 22)) (defBody (topS 22)) (defScope (topS 22)) .none kV22 dc22 pm22 an22 cd22 ct22)), (23, (PySem.W.fnOf "time_of" "time_of" (defArgs (topS 23)) (defBody (topS 23)) (defScope (topS 23)) .none kV23 dc23 pm23 an23 cd23 ct23)), (24, (PySem.W.fnOf "drift_of" "drift_of" (defArgs (topS 24)) (defBody (topS 24)) (defScope (topS 24)) .none kV24 dc24 pm24 an24 cd24 ct24)), (25, (PySem.W.fnOf "way_across" "way_across" (defArgs (topS 25)) (defBody (topS 25)) (defScope (topS 25)) .none kV25 dc25 pm25 an25 cd25 ct25)), (26, (PySem.W.fnOf "crossing_in" "crossing_in" (defArgs (topS 26)) (defBody (topS 26)) (defScope (topS 26)) .none kV26 dc26 pm26 an26 cd26 ct26)), (27, (PySem.W.fnOf "way_by_bands" "way_by_bands" (defArgs (topS 27)) (defBody (topS 27)) (defScope (topS 27)) .none kV27 dc27 pm27 an27 cd27 ct27)), (28, (PySem.W.fnOf "judge_landing" "judge_landing" (defArgs (topS 28)) (defBody (topS 28)) (defScope (topS 28)) .none kV28 dc28 pm28 an28 cd28 ct28)), (29, (PySem.W.fnOf "least_time" "least_time" (defArgs (topS 29)) (defBody (topS 29)) (defScope (topS 29)) .none kV29 dc29 pm29 an29 cd29 ct29)), (30, (PySem.W.fnOf "drift_between" "drift_between" (defArgs (topS 30)) (defBody (topS 30)) (defScope (topS 30)) .none kV30 dc30 pm30 an30 cd30 ct30)), (31, (PySem.W.fnOf "even_current" "even_current" (defArgs (topS 31)) (defBody (topS 31)) (defScope (topS 31)) .none kV31 dc31 pm31 an31 cd31 ct31)), (32, (PySem.W.fnOf "start_for" "start_for" (defArgs (topS 32)) (defBody (topS 32)) (defScope (topS 32)) .none kV32 dc32 pm32 an32 cd32 ct32)), (34, (PySem.W.fnOf "_law_start" "_law_start" (defArgs (topS 34)) (defBody (topS 34)) (defScope (topS 34)) .none kV34 dc34 pm34 an34 cd34 ct34)), (35, (PySem.W.fnOf "_law_draw" "_law_draw" (defArgs (topS 35)) (defBody (topS 35)) (defScope (topS 35)) .none kV35 dc35 pm35 an35 cd35 ct35)), (36, (PySem.W.fnOf "_law_pick" "_law_pick" (defArgs (topS 36)) (defBody (topS 36)) (defScope (topS 36)) .none kV36 dc36 pm36 an36 cd36 ct36)), (37, (PySem.W.fnOf "_law_same" "_law_same" (defArgs (topS 37)) (defBody (topS 37)) (defScope (topS 37)) .none kV37 dc37 pm37 an37 cd37 ct37)), (38, (PySem.W.fnOf "_law_low" "_law_low" (defArgs (topS 38)) (defBody (topS 38)) (defScope (topS 38)) .none kV38 dc38 pm38 an38 cd38 ct38)), (39, (PySem.W.fnOf "_law_plus" "_law_plus" (defArgs (topS 39)) (defBody (topS 39)) (defScope (topS 39)) .none kV39 dc39 pm39 an39 cd39 ct39)), (40, (PySem.W.fnOf "_law_mul" "_law_mul" (defArgs (topS 40)) (defBody (topS 40)) (defScope (topS 40)) .none kV40 dc40 pm40 an40 cd40 ct40)), (41, (PySem.W.fnOf "_law_number" "_law_number" (defArgs (topS 41)) (defBody (topS 41)) (defScope (topS 41)) .none kV41 dc41 pm41 an41 cd41 ct41)), (42, (PySem.W.fnOf "_law_river" "_law_river" (defArgs (topS 42)) (defBody (topS 42)) (defScope (topS 42)) .none kV42 dc42 pm42 an42 cd42 ct42)), (43, (PySem.W.fnOf "_law_headings" "_law_headings" (defArgs (topS 43)) (defBody (topS 43)) (defScope (topS 43)) .none kV43 dc43 pm43 an43 cd43 ct43)), (44, (PySem.W.fnOf "_law_currents_hold" "_law_currents_hold" (defArgs (topS 44)) (defBody (topS 44)) (defScope (topS 44)) .none kV44 dc44 pm44 an44 cd44 ct44)), (45, (PySem.W.fnOf "_law_order_holds" "_law_order_holds" (defArgs (topS 45)) (defBody (topS 45)) (defScope (topS 45)) .none kV45 dc45 pm45 an45 cd45 ct45)), (46, (PySem.W.fnOf "_law_goals_hold" "_law_goals_hold" (defArgs (topS 46)) (defBody (topS 46)) (defScope (topS 46)) .none kV46 dc46 pm46 an46 cd46 ct46)), (47, (PySem.W.fnOf "law" "law" (defArgs (topS 47)) (defBody (topS 47)) (defScope (topS 47)) .none kV47 dc47 pm47 an47 cd47 ct47))] : List (Nat × FuncData)).lookup i).getD (PySem.W.fnOf "is_integer" "is_integer" (defArgs (topS 4)) (defBody (topS 4)) (defScope (topS 4)) .none kV4 dc4 pm4 an4 cd4 ct4)) := ⟨fun_mk (st := topS 4) l4 c4 k4, PySem.W.mg_of X G a4, fun_mk (st := topS 9) l9 c9 k9, PySem.W.mg_of X G a9, fun_mk (st := topS 10) l10 c10 k10, PySem.W.mg_of X G a10, fun_mk (st := topS 11) l11 c11 k11, PySem.W.mg_of X G a11, fun_mk (st := topS 12) l12 c12 k12, PySem.W.mg_of X G a12, fun_mk (st := topS 13) l13 c13 k13, PySem.W.mg_of X G a13, fun_mk (st := topS 14) l14 c14 k14, PySem.W.mg_of X G a14, fun_mk (st := topS 15) l15 c15 k15, PySem.W.mg_of X G a15, fun_mk (st := topS 16) l16 c16 k16, PySem.W.mg_of X G a16, fun_mk (st := topS 17) l17 c17 k17, PySem.W.mg_of X G a17, fun_mk (st := topS 19) l19 c19 k19, PySem.W.mg_of X G a19, fun_mk (st := topS 20) l20 c20 k20, PySem.W.mg_of X G a20, fun_mk (st := topS 21) l21 c21 k21, PySem.W.mg_of X G a21, fun_mk (st := topS 22) l22 c22 k22, PySem.W.mg_of X G a22, fun_mk (st := topS 23) l23 c23 k23, PySem.W.mg_of X G a23, fun_mk (st := topS 24) l24 c24 k24, PySem.W.mg_of X G a24, fun_mk (st := topS 25) l25 c25 k25, PySem.W.mg_of X G a25, fun_mk (st := topS 26) l26 c26 k26, PySem.W.mg_of X G a26, fun_mk (st := topS 27) l27 c27 k27, PySem.W.mg_of X G a27, fun_mk (st := topS 28) l28 c28 k28, PySem.W.mg_of X G a28, fun_mk (st := topS 29) l29 c29 k29, PySem.W.mg_of X G a29, fun_mk (st := topS 30) l30 c30 k30, PySem.W.mg_of X G a30, fun_mk (st := topS 31) l31 c31 k31, PySem.W.mg_of X G a31, fun_mk (st := topS 32) l32 c32 k32, PySem.W.mg_of X G a32, fun_mk (st := topS 34) l34 c34 k34, PySem.W.mg_of X G a34, fun_mk (st := topS 35) l35 c35 k35, PySem.W.mg_of X G a35, fun_mk (st := topS 36) l36 c36 k36, PySem.W.mg_of X G a36, fun_mk (st := topS 37) l37 c37 k37, PySem.W.mg_of X G a37, fun_mk (st := topS 38) l38 c38 k38, PySem.W.mg_of X G a38, fun_mk (st := topS 39) l39 c39 k39, PySem.W.mg_of X G a39, fun_mk (st := topS 40) l40 c40 k40, PySem.W.mg_of X G a40, fun_mk (st := topS 41) l41 c41 k41, PySem.W.mg_of X G a41, fun_mk (st := topS 42) l42 c42 k42, PySem.W.mg_of X G a42, fun_mk (st := topS 43) l43 c43 k43, PySem.W.mg_of X G a43, fun_mk (st := topS 44) l44 c44 k44, PySem.W.mg_of X G a44, fun_mk (st := topS 45) l45 c45 k45, PySem.W.mg_of X G a45, fun_mk (st := topS 46) l46 c46 k46, PySem.W.mg_of X G a46, fun_mk (st := topS 47) l47 c47 k47, PySem.W.mg_of X G a47, PySem.W.mg_none_of X G z_abs, PySem.W.mg_none_of X G z_all, PySem.W.mg_none_of X G z_bool, PySem.W.mg_none_of X G z_int, PySem.W.mg_none_of X G z_isinstance, PySem.W.mg_none_of X G z_len, PySem.W.mg_none_of X G z_list, PySem.W.mg_none_of X G z_range, PySem.W.mg_none_of X G z_repr, PySem.W.mg_none_of X G z_tuple, PySem.W.mg_none_of X G z_zip, ⟨_, PySem.W.mg_of X G c_MAX_BANDS⟩, ⟨_, PySem.W.mg_of X G c_MAX_HEADING⟩, ⟨_, PySem.W.mg_of X G c_MAX_SIZE⟩⟩
  exact ⟨_, fun s u => .of_eq rfl, fun base _ _ => f_law (ad := (fun i => (([(4, f4), (9, f9), (10, f10), (11, f11), (12, f12), (13, f13), (14, f14), (15, f15), (16, f16), (17, f17), (19, f19), (20, f20), (21, f21), (22, f22), (23, f23), (24, f24), (25, f25), (26, f26), (27, f27), (28, f28), (29, f29), (30, f30), (31, f31), (32, f32), (34, f34), (35, f35), (36, f36), (37, f37), (38, f38), (39, f39), (40, f40), (41, f41), (42, f42), (43, f43), (44, f44), (45, f45), (46, f46), (47, f47)] : List (Nat × Addr)).lookup i).getD 0)) (fd := (fun i => (([(4, (PySem.W.fnOf "is_integer" "is_integer" (defArgs (topS 4)) (defBody (topS 4)) (defScope (topS 4)) .none kV4 dc4 pm4 an4 cd4 ct4)), (9, (PySem.W.fnOf "greatest_divisor" "greatest_divisor" (defArgs (topS 9)) (defBody (topS 9)) (defScope (topS 9)) .none kV9 dc9 pm9 an9 cd9 ct9)), (10, (PySem.W.fnOf "quotient" "quotient" (defArgs (topS 10)) (defBody (topS 10)) (defScope (topS 10)) .none kV10 dc10 pm10 an10 cd10 ct10)), (11, (PySem.W.fnOf "plus" "plus" (defArgs (topS 11)) (defBody (topS 11)) (defScope (topS 11)) .none kV11 dc11 pm11 an11 cd11 ct11)), (12, (PySem.W.fnOf "times" "times" (defArgs (topS 12)) (defBody (topS 12)) (defScope (topS 12)) .none kV12 dc12 pm12 an12 cd12 ct12)), (13, (PySem.W.fnOf "over" "over" (defArgs (topS 13)) (defBody (topS 13)) (defScope (topS 13)) .none kV13 dc13 pm13 an13 cd13 ct13)), (14, (PySem.W.fnOf "is_less" "is_less" (defArgs (topS 14)) (defBody (topS 14)) (defScope (topS 14)) .none kV14 dc14 pm14 an14 cd14 ct14)), (15, (PySem.W.fnOf "sum_of" "sum_of" (defArgs (topS 15)) (defBody (topS 15)) (defScope (topS 15)) .none kV15 dc15 pm15 an15 cd15 ct15)), (16, (PySem.W.fnOf "is_quotient" "is_quotient" (defArgs (topS 16)) (defBody (topS 16)) (defScope (topS 16)) .none kV16 dc16 pm16 an16 cd16 ct16)), (17, (PySem.W.fnOf "is_number" "is_number" (defArgs (topS 17)) (defBody (topS 17)) (defScope (topS 17)) .none kV17 dc17 pm17 an17 cd17 ct17)), (19, (PySem.W.fnOf "is_heading" "is_heading" (defArgs (topS 19)) (defBody (topS 19)) (defScope (topS 19)) .none kV19 dc19 pm19 an19 cd19 ct19)), (20, (PySem.W.fnOf "check_bands" "check_bands" (defArgs (topS 20)) (defBody (topS 20)) (defScope (topS 20)) .none kV20 dc20 pm20 an20 cd20 ct20)), (21, (PySem.W.fnOf "check_speed" "check_speed" (defArgs (topS 21)) (defBody (topS 21)) (defScope (topS 21)) .none kV21 dc21 pm21 an21 cd21 ct21)), (22, (PySem.W.fnOf "check_headings" "check_headings" (defArgs (topS 22)) (defBody (topS 22)) (defScope (topS 22)) .none kV22 dc22 pm22 an22 cd22 ct22)), (23, (PySem.W.fnOf "time_of" "time_of" (defArgs (topS 23)) (defBody (topS 23)) (defScope (topS 23)) .none kV23 dc23 pm23 an23 cd23 ct23)), (24, (PySem.W.fnOf "drift_of" "drift_of" (defArgs (topS 24)) (defBody (topS 24)) (defScope (topS 24)) .none kV24 dc24 pm24 an24 cd24 ct24)), (25, (PySem.W.fnOf "way_across" "way_across" (defArgs (topS 25)) (defBody (topS 25)) (defScope (topS 25)) .none kV25 dc25 pm25 an25 cd25 ct25)), (26, (PySem.W.fnOf "crossing_in" "crossing_in" (defArgs (topS 26)) (defBody (topS 26)) (defScope (topS 26)) .none kV26 dc26 pm26 an26 cd26 ct26)), (27, (PySem.W.fnOf "way_by_bands" "way_by_bands" (defArgs (topS 27)) (defBody (topS 27)) (defScope (topS 27)) .none kV27 dc27 pm27 an27 cd27 ct27)), (28, (PySem.W.fnOf "judge_landing" "judge_landing" (defArgs (topS 28)) (defBody (topS 28)) (defScope (topS 28)) .none kV28 dc28 pm28 an28 cd28 ct28)), (29, (PySem.W.fnOf "least_time" "least_time" (defArgs (topS 29)) (defBody (topS 29)) (defScope (topS 29)) .none kV29 dc29 pm29 an29 cd29 ct29)), (30, (PySem.W.fnOf "drift_between" "drift_between" (defArgs (topS 30)) (defBody (topS 30)) (defScope (topS 30)) .none kV30 dc30 pm30 an30 cd30 ct30)), (31, (PySem.W.fnOf "even_current" "even_current" (defArgs (topS 31)) (defBody (topS 31)) (defScope (topS 31)) .none kV31 dc31 pm31 an31 cd31 ct31)), (32, (PySem.W.fnOf "start_for" "start_for" (defArgs (topS 32)) (defBody (topS 32)) (defScope (topS 32)) .none kV32 dc32 pm32 an32 cd32 ct32)), (34, (PySem.W.fnOf "_law_start" "_law_start" (defArgs (topS 34)) (defBody (topS 34)) (defScope (topS 34)) .none kV34 dc34 pm34 an34 cd34 ct34)), (35, (PySem.W.fnOf "_law_draw" "_law_draw" (defArgs (topS 35)) (defBody (topS 35)) (defScope (topS 35)) .none kV35 dc35 pm35 an35 cd35 ct35)), (36, (PySem.W.fnOf "_law_pick" "_law_pick" (defArgs (topS 36)) (defBody (topS 36)) (defScope (topS 36)) .none kV36 dc36 pm36 an36 cd36 ct36)), (37, (PySem.W.fnOf "_law_same" "_law_same" (defArgs (topS 37)) (defBody (topS 37)) (defScope (topS 37)) .none kV37 dc37 pm37 an37 cd37 ct37)), (38, (PySem.W.fnOf "_law_low" "_law_low" (defArgs (topS 38)) (defBody (topS 38)) (defScope (topS 38)) .none kV38 dc38 pm38 an38 cd38 ct38)), (39, (PySem.W.fnOf "_law_plus" "_law_plus" (defArgs (topS 39)) (defBody (topS 39)) (defScope (topS 39)) .none kV39 dc39 pm39 an39 cd39 ct39)), (40, (PySem.W.fnOf "_law_mul" "_law_mul" (defArgs (topS 40)) (defBody (topS 40)) (defScope (topS 40)) .none kV40 dc40 pm40 an40 cd40 ct40)), (41, (PySem.W.fnOf "_law_number" "_law_number" (defArgs (topS 41)) (defBody (topS 41)) (defScope (topS 41)) .none kV41 dc41 pm41 an41 cd41 ct41)), (42, (PySem.W.fnOf "_law_river" "_law_river" (defArgs (topS 42)) (defBody (topS 42)) (defScope (topS 42)) .none kV42 dc42 pm42 an42 cd42 ct42)), (43, (PySem.W.fnOf "_law_headings" "_law_headings" (defArgs (topS 43)) (defBody (topS 43)) (defScope (topS 43)) .none kV43 dc43 pm43 an43 cd43 ct43)), (44, (PySem.W.fnOf "_law_currents_hold" "_law_currents_hold" (defArgs (topS 44)) (defBody (topS 44)) (defScope (topS 44)) .none kV44 dc44 pm44 an44 cd44 ct44)), (45, (PySem.W.fnOf "_law_order_holds" "_law_order_holds" (defArgs (topS 45)) (defBody (topS 45)) (defScope (topS 45)) .none kV45 dc45 pm45 an45 cd45 ct45)), (46, (PySem.W.fnOf "_law_goals_hold" "_law_goals_hold" (defArgs (topS 46)) (defBody (topS 46)) (defScope (topS 46)) .none kV46 dc46 pm46 an46 cd46 ct46)), (47, (PySem.W.fnOf "law" "law" (defArgs (topS 47)) (defBody (topS 47)) (defScope (topS 47)) .none kV47 dc47 pm47 an47 cd47 ct47))] : List (Nat × FuncData)).lookup i).getD (PySem.W.fnOf "is_integer" "is_integer" (defArgs (topS 4)) (defBody (topS 4)) (defScope (topS 4)) .none kV4 dc4 pm4 an4 cd4 ct4))) T ok⟩
end Z
open PySem PySem.W PyProof.Rows
set_option maxHeartbeats 0 in
theorem PySem.Challenge.cw_ferrybook_k16_rivers_told_otherwise_holds : PySem.Challenge.rw_ferrybook_k16_rivers_told_otherwise.Holds := by
  w_on; o_law; k_head; (case hw => w_witness2)
  k_fill
  refine Y.walk_law (l := PySem.Challenge.rw_ferrybook_k16_rivers_told_otherwise) (k := 10) (x := "script") rfl rfl ⟨rfl, by decide, by decide⟩ (fun w h Y => PySem.W.kIn_of Y) ?F
  case F =>
    intro w mg fa h KX G hmg
    refine' Z.all_mk KX G hmg ?a4 ?l4 ?c4 ?k4 ?a9 ?l9 ?c9 ?k9 ?a10 ?l10 ?c10 ?k10 ?a11 ?l11 ?c11 ?k11 ?a12 ?l12 ?c12 ?k12 ?a13 ?l13 ?c13 ?k13 ?a14 ?l14 ?c14 ?k14 ?a15 ?l15 ?c15 ?k15 ?a16 ?l16 ?c16 ?k16 ?a17 ?l17 ?c17 ?k17 ?a19 ?l19 ?c19 ?k19 ?a20 ?l20 ?c20 ?k20 ?a21 ?l21 ?c21 ?k21 ?a22 ?l22 ?c22 ?k22 ?a23 ?l23 ?c23 ?k23 ?a24 ?l24 ?c24 ?k24 ?a25 ?l25 ?c25 ?k25 ?a26 ?l26 ?c26 ?k26 ?a27 ?l27 ?c27 ?k27 ?a28 ?l28 ?c28 ?k28 ?a29 ?l29 ?c29 ?k29 ?a30 ?l30 ?c30 ?k30 ?a31 ?l31 ?c31 ?k31 ?a32 ?l32 ?c32 ?k32 ?a34 ?l34 ?c34 ?k34 ?a35 ?l35 ?c35 ?k35 ?a36 ?l36 ?c36 ?k36 ?a37 ?l37 ?c37 ?k37 ?a38 ?l38 ?c38 ?k38 ?a39 ?l39 ?c39 ?k39 ?a40 ?l40 ?c40 ?k40 ?a41 ?l41 ?c41 ?k41 ?a42 ?l42 ?c42 ?k42 ?a43 ?l43 ?c43 ?k43 ?a44 ?l44 ?c44 ?k44 ?a45 ?l45 ?c45 ?k45 ?a46 ?l46 ?c46 ?k46 ?a47 ?l47 ?c47 ?k47 ?z_abs ?z_all ?z_bool ?z_int ?z_isinstance ?z_len ?z_list ?z_range ?z_repr ?z_tuple ?z_zip ?c_MAX_BANDS ?c_MAX_HEADING ?c_MAX_SIZE Z.law_ok
    (case a4 => k_is); (case l4 => k_is); (case c4 => k_is); (case k4 => k_is); (case a9 => k_is); (case l9 => k_is); (case c9 => k_is); (case k9 => k_is); (case a10 => k_is); (case l10 => k_is); (case c10 => k_is); (case k10 => k_is); (case a11 => k_is); (case l11 => k_is); (case c11 => k_is); (case k11 => k_is); (case a12 => k_is); (case l12 => k_is); (case c12 => k_is); (case k12 => k_is); (case a13 => k_is); (case l13 => k_is); (case c13 => k_is); (case k13 => k_is); (case a14 => k_is); (case l14 => k_is); (case c14 => k_is); (case k14 => k_is); (case a15 => k_is); (case l15 => k_is); (case c15 => k_is); (case k15 => k_is); (case a16 => k_is); (case l16 => k_is); (case c16 => k_is); (case k16 => k_is); (case a17 => k_is); (case l17 => k_is); (case c17 => k_is); (case k17 => k_is); (case a19 => k_is); (case l19 => k_is); (case c19 => k_is); (case k19 => k_is); (case a20 => k_is); (case l20 => k_is); (case c20 => k_is); (case k20 => k_is); (case a21 => k_is); (case l21 => k_is); (case c21 => k_is); (case k21 => k_is); (case a22 => k_is); (case l22 => k_is); (case c22 => k_is); (case k22 => k_is); (case a23 => k_is); (case l23 => k_is); (case c23 => k_is); (case k23 => k_is); (case a24 => k_is); (case l24 => k_is); (case c24 => k_is); (case k24 => k_is); (case a25 => k_is); (case l25 => k_is); (case c25 => k_is); (case k25 => k_is); (case a26 => k_is); (case l26 => k_is); (case c26 => k_is); (case k26 => k_is); (case a27 => k_is); (case l27 => k_is); (case c27 => k_is); (case k27 => k_is); (case a28 => k_is); (case l28 => k_is); (case c28 => k_is); (case k28 => k_is); (case a29 => k_is); (case l29 => k_is); (case c29 => k_is); (case k29 => k_is); (case a30 => k_is); (case l30 => k_is); (case c30 => k_is); (case k30 => k_is); (case a31 => k_is); (case l31 => k_is); (case c31 => k_is); (case k31 => k_is); (case a32 => k_is); (case l32 => k_is); (case c32 => k_is); (case k32 => k_is); (case a34 => k_is); (case l34 => k_is); (case c34 => k_is); (case k34 => k_is); (case a35 => k_is); (case l35 => k_is); (case c35 => k_is); (case k35 => k_is); (case a36 => k_is); (case l36 => k_is); (case c36 => k_is); (case k36 => k_is); (case a37 => k_is); (case l37 => k_is); (case c37 => k_is); (case k37 => k_is); (case a38 => k_is); (case l38 => k_is); (case c38 => k_is); (case k38 => k_is); (case a39 => k_is); (case l39 => k_is); (case c39 => k_is); (case k39 => k_is); (case a40 => k_is); (case l40 => k_is); (case c40 => k_is); (case k40 => k_is); (case a41 => k_is); (case l41 => k_is); (case c41 => k_is); (case k41 => k_is); (case a42 => k_is); (case l42 => k_is); (case c42 => k_is); (case k42 => k_is); (case a43 => k_is); (case l43 => k_is); (case c43 => k_is); (case k43 => k_is); (case a44 => k_is); (case l44 => k_is); (case c44 => k_is); (case k44 => k_is); (case a45 => k_is); (case l45 => k_is); (case c45 => k_is); (case k45 => k_is); (case a46 => k_is); (case l46 => k_is); (case c46 => k_is); (case k46 => k_is); (case a47 => k_is); (case l47 => k_is); (case c47 => k_is); (case k47 => k_is); (case z_abs => k_is); (case z_all => k_is); (case z_bool => k_is); (case z_int => k_is); (case z_isinstance => k_is); (case z_len => k_is); (case z_list => k_is); (case z_range => k_is); (case z_repr => k_is); (case z_tuple => k_is); (case z_zip => k_is); (case c_MAX_BANDS => k_is); (case c_MAX_HEADING => k_is); (case c_MAX_SIZE => k_is)
