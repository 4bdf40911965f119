import PyProof.Rows.All
import Wide.All
import OpenK.AllK
import Wide.FinOn
import HandS.ForMost
import HandS.Exc
import HandS.ExcOwn
import HandS.WordsExc
import HandS.IsInst
import HandS.Deep
import HandS.TupLe
import HandS.TupMul
import HandS.TupAny
import HandS.Zip
import HandS.Style
import KE.SortData
import KE.KDictKeyed
import PyProof.EnumMake
import KE.GoesMore
import HandS.SetFor
import HandS.Strs
import KE.KDictDisplayH
import KE.DataMinMax
import KE.DataFind
import HandS.HotCalls
import HandS.ExcIs
import PySem.Challenge.RW_linefree_k18_whole_free_sets_and_moves
set_option Elab.async false
set_option linter.all false
set_option maxRecDepth 100000
set_option maxHeartbeats 4000000
namespace FL
open PySem L2
abbrev D := PyData
/-- what a slot holds: data; an own list; an own dict; an own table; a caught error -/
inductive S where
  | d (x : D) | l (xs : List D) | m (kvs : List (D × D)) | t (sz : D) (laid : List D) (kept : D) | e (c : Nat) | z (ns : List Int)
def S.own : S → Bool
  | .d _ => false
  | .e _ => false
  | .z _ => false
  | _ => true
abbrev Rho := List (Option S)
inductive W where
  | d (x : D) | own (i : Nat)
inductive R (α : Type) where
  | ok (a : α) (ρ : Rho) | exc (c : Nat) (ρ : Rho) | bad
def R.bind {α β : Type} (r : R α) (k : α → Rho → R β) : R β := match r with
  | .ok a ρ => k a ρ
  | .exc c ρ => .exc c ρ
  | .bad => .bad
@[simp] theorem R.bind_ok {α β : Type} (a : α) (ρ : Rho) (k : α → Rho → R β) : (R.ok a ρ).bind k = k a ρ := rfl
@[simp] theorem R.bind_exc {α β : Type} (c : Nat) (ρ : Rho) (k : α → Rho → R β) : (R.exc c ρ).bind k = .exc c ρ := rfl
@[simp] theorem R.bind_bad {α β : Type} (k : α → Rho → R β) : (R.bad).bind k = .bad := rfl
/-- what a def gives back: a value (data, or a new own thing), the own arguments behind it -/
inductive FR where
  | ret (r : S) (ss : List S) | exc (c : Nat) (ss : List S) | bad
abbrev FM := List S → FR

/-! ### the context of a body -/
structure Z where
  K : PySem.W.Frag
  cls : Nat → Addr
  tc : Addr
  prog : Program
  wd : World
  ex : Option (Addr × Nat)
structure G extends Z where
  W : WX
  H0 : Hp
  F0 : Hp
  Own0 : Nat → Addr → Prop
  P : List (Nat × Addr)

def Sub (F H : Hp) : Prop := ∀ a o, F a = some o → H a = some o
theorem Sub.refl (H : Hp) : Sub H H := fun _ _ h => h
theorem Sub.trans {A B C : Hp} (h : Sub A B) (k : Sub B C) : Sub A C := fun a o e => k a o (h a o e)
theorem Sub.sqL {K : PySem.W.Frag} {F H : Hp} (h : Sub F H) {a : Addr} {xs : List V} (r : SqL K F a xs) : SqL K H a xs := by
  rcases r with (r | ⟨o, r⟩) | r
  · exact .inl (.inl (h _ _ r))
  · exact .inl (.inr ⟨o, h _ _ r⟩)
  · exact .inr r
theorem Sub.rd {F H : Hp} (h : Sub F H) {a : Addr} {u : HO} (r : Rd F a u) : Rd H a u := by
  rcases r with r | ⟨o, r⟩
  · exact .inl (h _ _ r)
  · exact .inr ⟨o, h _ _ r⟩
/- data that stand in the heap F -/
mutual
inductive Dv (F : Hp) : V → D → Prop
  | non : Dv F .non .none
  | bl (b : Bool) : Dv F (.bl b) (.bool b)
  | int (i : Int) : Dv F (.int i) (.int i)
  | str (x : Str) : Dv F (.str x) (.str x)
  | lst {a : Addr} {xs : List V} {ds : List D} : Rd F a (.lst xs) → DvAll F xs ds → Dv F (.ref a) (.list ds)
  | tup {a : Addr} {xs : List V} {ds : List D} : Rd F a (.tup xs) → DvAll F xs ds → Dv F (.ref a) (.tuple ds)
inductive DvAll (F : Hp) : List V → List D → Prop
  | nil : DvAll F [] []
  | cons {v : V} {vs : List V} {d : D} {ds : List D} : Dv F v d → DvAll F vs ds → DvAll F (v :: vs) (d :: ds)
end
mutual
theorem dv_mono {F H : Hp} (h : Sub F H) : ∀ {v : V} {d : D}, Dv F v d → Dv H v d
  | _, _, .non => .non
  | _, _, .bl b => .bl b
  | _, _, .int i => .int i
  | _, _, .str x => .str x
  | _, _, .lst s a => .lst (h.rd s) (dvAll_mono h a)
  | _, _, .tup s a => .tup (h.rd s) (dvAll_mono h a)
theorem dvAll_mono {F H : Hp} (h : Sub F H) : ∀ {vs : List V} {ds : List D}, DvAll F vs ds → DvAll H vs ds
  | _, _, .nil => .nil
  | _, _, .cons a b => .cons (dv_mono h a) (dvAll_mono h b)
end
mutual
theorem Dv.dp {H : Hp} (K : PySem.W.Frag) : ∀ {v : V} {d : D}, Dv H v d → Dp K H v d
  | _, _, .non => .non
  | _, _, .bl b => .bl b
  | _, _, .int i => .int i
  | _, _, .str x => .str x
  | _, _, .lst s a => .lst (.inl s) (a.dp K)
  | _, _, .tup s a => .tup (.inl s) (a.dp K)
theorem DvAll.dp {H : Hp} (K : PySem.W.Frag) : ∀ {vs : List V} {ds : List D}, DvAll H vs ds → DpAll K H vs ds
  | _, _, .nil => .nil
  | _, _, .cons a b => .cons (a.dp K) (b.dp K)
end
theorem DvAll.len {H : Hp} : ∀ {vs : List V} {ds : List D}, DvAll H vs ds → vs.length = ds.length
  | _, _, .nil => rfl
  | _, _, .cons _ b => by rw [List.length_cons, List.length_cons, DvAll.len b]
theorem DvAll.get {H : Hp} : ∀ {vs : List V} {ds : List D} {i : Nat} {d : D}, DvAll H vs ds → ds[i]? = some d → ∃ v, vs[i]? = some v ∧ Dv H v d
  | _, _, i, _, .nil, h => by simp at h
  | _, _, 0, _, .cons a _, h => by simp at h; subst h; exact ⟨_, rfl, a⟩
  | _, _, i + 1, _, .cons _ b, h => by
    obtain ⟨v, h1, h2⟩ := DvAll.get b (i := i) (by simpa using h)
    exact ⟨v, by simpa using h1, h2⟩
theorem DvAll.app {H : Hp} : ∀ {vs us : List V} {ds es : List D}, DvAll H vs ds → DvAll H us es → DvAll H (vs ++ us) (ds ++ es)
  | _, _, _, _, .nil, h => h
  | _, _, _, _, .cons a b, h => .cons a (DvAll.app b h)
theorem DvAll.take {H : Hp} : ∀ {vs : List V} {ds : List D} (n : Nat), DvAll H vs ds → DvAll H (vs.take n) (ds.take n)
  | _, _, 0, _ => .nil
  | _, _, _ + 1, .nil => .nil
  | _, _, n + 1, .cons a b => .cons a (DvAll.take n b)
theorem DvAll.drop {H : Hp} : ∀ {vs : List V} {ds : List D} (n : Nat), DvAll H vs ds → DvAll H (vs.drop n) (ds.drop n)
  | _, _, 0, h => h
  | _, _, _ + 1, .nil => .nil
  | _, _, n + 1, .cons _ b => DvAll.drop n b
theorem DvAll.one {H : Hp} {v : V} {d : D} (h : Dv H v d) : DvAll H [v] [d] := .cons h .nil
theorem DvAll.rep {H : Hp} {vs : List V} {ds : List D} (h : DvAll H vs ds) : ∀ n : Nat, DvAll H (List.replicate n vs).flatten (List.replicate n ds).flatten
  | 0 => .nil
  | n + 1 => by
    rw [List.replicate_succ, List.replicate_succ, List.flatten_cons, List.flatten_cons]
    exact h.app (h.rep n)
theorem DvAll.revr {H : Hp} : ∀ {vs : List V} {ds : List D}, DvAll H vs ds → DvAll H vs.reverse ds.reverse
  | _, _, .nil => .nil
  | _, _, .cons a b => by
    rw [List.reverse_cons, List.reverse_cons]
    exact b.revr.app (.one a)

/-! keys of a dict -/
mutual
def nkey : D → Option NestedKey
  | .none => some .none
  | .int i => some (.num i)
  | .str x => some (.text x)
  | .tuple xs => (nkeys xs).map .tup
  | _ => none
def nkeys : List D → Option (List NestedKey)
  | [] => some []
  | x :: xs => (nkey x).bind fun k => (nkeys xs).map (k :: ·)
end
/-- the entries of a dict, as data -/
inductive MAll (F : Hp) : List (D × D) → List (NestedKey × Addr × Value) → Prop
  | nil : MAll F [] []
  | cons {kd vd : D} {k : NestedKey} {ka : Addr} {v : V} {u : Value} {kvs : List (D × D)} {xs : List (NestedKey × Addr × Value)} : nkey kd = some k → k.depth ≤ 8 → Dv F (.ref ka) kd → RelV v u → Dv F v vd → MAll F kvs xs → MAll F ((kd, vd) :: kvs) ((k, ka, u) :: xs)
theorem MAll.mono {F H : Hp} (h : Sub F H) : ∀ {kvs : List (D × D)} {xs : List (NestedKey × Addr × Value)}, MAll F kvs xs → MAll H kvs xs
  | _, _, .nil => .nil
  | _, _, .cons a b c d e f => .cons a b (dv_mono h c) d (dv_mono h e) (MAll.mono h f)
/-- the dict's one object -/
def DctP (P : Program) (w : World) (a : Addr) (xs : List (NestedKey × Addr × Value)) (h : Heap) : Prop :=
  ∃ o es ep, h.get? a = some o ∧ o.ExactDict ∧ o.data = .dict es ep ∧ es.toList = xs.map (entryOfKey (nestedKind P w)) ∧ (xs.map (·.1)).Nodup
abbrev DctO (z : Z) (a : Addr) (xs : List (NestedKey × Addr × Value)) : HO := .ext (DctP z.prog z.wd a xs)

/-- new cells only: H' has what H has, F' what F has and new ones -/
structure Ext (F H F' H' : Hp) : Prop where
  h : Sub H H'
  f : Sub F F'
  s : Sub F' H'
  n : ∀ a o, H a = some o → F a = none → F' a = none
theorem Ext.refl {F H : Hp} (s : Sub F H) : Ext F H F H := ⟨.refl _, .refl _, s, fun _ _ _ h => h⟩
theorem Ext.trans {F H F1 H1 F2 H2 : Hp} (a : Ext F H F1 H1) (b : Ext F1 H1 F2 H2) : Ext F H F2 H2 :=
  ⟨a.h.trans b.h, a.f.trans b.f, b.s, fun x o hx hf => b.n x o (a.h x o hx) (a.n x o hx hf)⟩
theorem sub_upd {H : Hp} {p : Addr} {o : HO} (h : H p = none) : Sub H (upd H p o) := fun a u e => by
  rw [upd_ne (ne_of_none e h)]
  exact e
/-- a new object, frozen at once -/
theorem Ext.new {F H : Hp} {p : Addr} {o : HO} (s : Sub F H) (h : H p = none) : Ext F H (upd F p o) (upd H p o) := by
  have hf : F p = none := by
    cases e : F p with
    | none => rfl
    | some u => rw [s p u e] at h; cases h
  refine ⟨sub_upd h, sub_upd hf, fun a u e => ?_, fun a u e hn => ?_⟩
  · by_cases ha : a = p
    · subst ha
      rw [upd_same] at e ⊢
      exact e
    · rw [upd_ne ha] at e ⊢
      exact s a u e
  · rw [upd_ne (ne_of_none e h)]
    exact hn
/-- a new object, not frozen -/
theorem Ext.raw {F H : Hp} {p : Addr} {o : HO} (s : Sub F H) (h : H p = none) : Ext F H F (upd H p o) :=
  ⟨sub_upd h, .refl _, s.trans (sub_upd h), fun _ _ _ hn => hn⟩
theorem Sub.none {F H : Hp} (s : Sub F H) {p : Addr} (h : H p = none) : F p = none := by
  cases e : F p with
  | none => rfl
  | some u => rw [s p u e] at h; cases h

/-! ### what a slot's value is -/
def SRel (z : Z) (F H : Hp) (v : V) : S → Prop
  | .d x => Dv F v x
  | .l xs => ∃ a vs, v = .ref a ∧ H a = some (.lst vs) ∧ F a = none ∧ DvAll F vs xs
  | .m kvs => ∃ a xs, v = .ref a ∧ H a = some (DctO z a xs) ∧ F a = none ∧ (a == sysModules) = false ∧ MAll F kvs xs
  | .t _ _ _ => False
  | .e c => ∃ a, v = .ref a ∧ z.ex = some (a, c)
  | .z ns => ∃ a, v = .ref a ∧ SqL z.K F a (ns.map V.int)
def ownA (H : Hp) (v : V) : S → Addr → Prop
  | .d _, _ => False
  | .e _, _ => False
  | .z _, _ => False
  | .l _, a => v = .ref a
  | .m _, a => v = .ref a
  | .t _ _ _, b => v = .ref b ∨ ∃ a C dx fs, v = .ref a ∧ H a = some (.ins C dx fs) ∧ fs.lookup (Str.ofString "laid") = some (V.ref b)
theorem SRel.ext {z : Z} {F H F' H' : Hp} (x : Ext F H F' H') {v : V} {s : S} (r : SRel z F H v s) : SRel z F' H' v s := by
  cases s with
  | d y => exact dv_mono x.f r
  | l xs =>
    obtain ⟨a, vs, e, h, f, q⟩ := r
    exact ⟨a, vs, e, x.h _ _ h, x.n _ _ h f, dvAll_mono x.f q⟩
  | m _ =>
    obtain ⟨a, xs, e, h, f, hs, q⟩ := r
    exact ⟨a, xs, e, x.h _ _ h, x.n _ _ h f, hs, q.mono x.f⟩
  | t _ _ _ => exact r
  | e _ => exact r
  | z _ =>
    obtain ⟨a, e, h⟩ := r
    exact ⟨a, e, x.f.sqL h⟩

structure Rel (g : G) (F : Hp) (ρ : Rho) (σ : St) (H : Hp) : Prop where
  sub : Sub F H
  len : ρ.length = σ.length
  slot : ∀ (i : Nat) s, ρ[i]? = some (some s) → ∃ v, σ[i]? = some (some v) ∧ SRel g.toZ F H v s
  sep : ∀ (i j : Nat) s t v u a, i ≠ j → ρ[i]? = some (some s) → ρ[j]? = some (some t) → σ[i]? = some (some v) → σ[j]? = some (some u) → ownA H v s a → ¬ ownA H u t a
  pin : ∀ p ∈ g.P, ∃ s, ρ[p.1]? = some (some s) ∧ s.own = true ∧ σ[p.1]? = some (some (.ref p.2))
  new : ∀ (i : Nat) s v a, ρ[i]? = some (some s) → σ[i]? = some (some v) → ownA H v s a → g.H0 a = none ∨ (g.Own0 i a ∧ ∃ p ∈ g.P, p.1 = i)
  e1 : Sub g.F0 F
  e2 : ∀ a o, g.H0 a = some o → (¬ ∃ i, g.Own0 i a) → H a = some o
  e3 : ∀ a o, g.H0 a = some o → g.F0 a = none → F a = none
  e4 : ∀ a o, g.H0 a = some o → ∃ u, H a = some u
/-- what an own thing's slot owns is tracked, and not frozen -/
theorem SRel.owned {z : Z} {F H : Hp} {v : V} {s : S} {a : Addr} (r : SRel z F H v s) (h : ownA H v s a) : F a = none ∧ ∃ o, H a = some o := by
  cases s with
  | d _ => exact h.elim
  | e _ => exact h.elim
  | z _ => exact h.elim
  | l xs =>
    obtain ⟨b, vs, e, h1, h2, _⟩ := r
    have h' : v = .ref a := h
    rw [e] at h'
    cases h'
    exact ⟨h2, _, h1⟩
  | m _ =>
    obtain ⟨b, xs, e, h1, h2, _⟩ := r
    have h' : v = .ref a := h
    rw [e] at h'
    cases h'
    exact ⟨h2, _, h1⟩
  | t _ _ _ => exact r.elim
theorem ownA_ext {z : Z} {F H F' H' : Hp} (x : Ext F H F' H') {v : V} {s : S} {a : Addr} (r : SRel z F H v s) : ownA H' v s a ↔ ownA H v s a := by
  cases s with
  | d _ => exact Iff.rfl
  | e _ => exact Iff.rfl
  | z _ => exact Iff.rfl
  | l _ => exact Iff.rfl
  | m _ => exact Iff.rfl
  | t _ _ _ => exact r.elim
theorem Rel.ext {g : G} {F H F' H' : Hp} {ρ : Rho} {σ : St} (r : Rel g F ρ σ H) (x : Ext F H F' H') : Rel g F' ρ σ H' where
  sub := x.s
  len := r.len
  slot := fun i s e => let ⟨v, h1, h2⟩ := r.slot i s e; ⟨v, h1, h2.ext x⟩
  sep := fun i j s t v u a ne e1 e2 e3 e4 h1 h2 => by
    obtain ⟨v', q1, r1⟩ := r.slot i s e1
    obtain ⟨u', q2, r2⟩ := r.slot j t e2
    rw [e3] at q1
    cases q1
    rw [e4] at q2
    cases q2
    exact r.sep i j s t v u a ne e1 e2 e3 e4 ((ownA_ext x r1).mp h1) ((ownA_ext x r2).mp h2)
  pin := r.pin
  new := fun i s v a e1 e2 h => by
    obtain ⟨v', q1, r1⟩ := r.slot i s e1
    rw [e2] at q1
    cases q1
    exact r.new i s v a e1 e2 ((ownA_ext x r1).mp h)
  e1 := r.e1.trans x.f
  e2 := fun a o h n => x.h _ _ (r.e2 a o h n)
  e3 := fun a o h n => let ⟨u, hu⟩ := r.e4 a o h; x.n a u hu (r.e3 a o h n)
  e4 := fun a o h => let ⟨u, hu⟩ := r.e4 a o h; ⟨u, x.h _ _ hu⟩
/-- what the own slots own -/
def Owned (ρ : Rho) (σ : St) (H : Hp) (a : Addr) : Prop := ∃ (i : Nat) (s : S) (v : V), ρ[i]? = some (some s) ∧ σ[i]? = some (some v) ∧ ownA H v s a
/-- what an expression leaves as it was -/
structure Frm (σ : St) (F H : Hp) (ρ : Rho) (F' H' : Hp) (ρ' : Rho) : Prop where
  f : Sub F F'
  keep : ∀ a o, H a = some o → ¬ Owned ρ σ H a → H' a = some o
  old : ∀ a o, Owned ρ' σ H' a → H a = some o → Owned ρ σ H a
  cold : ∀ a o, H a = some o → F a = none → F' a = none
  there : ∀ a o, H a = some o → ∃ u, H' a = some u
theorem Frm.refl (σ : St) (F H : Hp) (ρ : Rho) : Frm σ F H ρ F H ρ := ⟨.refl _, fun _ _ h _ => h, fun _ _ h _ => h, fun _ _ _ h => h, fun _ o h => ⟨o, h⟩⟩
theorem Frm.trans {σ : St} {F H F1 H1 F2 H2 : Hp} {ρ ρ1 ρ2 : Rho} (a : Frm σ F H ρ F1 H1 ρ1) (b : Frm σ F1 H1 ρ1 F2 H2 ρ2) : Frm σ F H ρ F2 H2 ρ2 where
  f := a.f.trans b.f
  keep := fun x o h n => b.keep x o (a.keep x o h n) fun q => n (a.old x o q h)
  old := fun x o q h => by
    obtain ⟨u, hu⟩ := a.there x o h
    exact a.old x o (b.old x u q hu) h
  cold := fun x o h n => by
    obtain ⟨u, hu⟩ := a.there x o h
    exact b.cold x u hu (a.cold x o h n)
  there := fun x o h => by
    obtain ⟨u, hu⟩ := a.there x o h
    exact b.there x u hu
theorem Rel.frm {g : G} {F H F' H' : Hp} {ρ : Rho} {σ : St} (r : Rel g F ρ σ H) (x : Ext F H F' H') : Frm σ F H ρ F' H' ρ where
  f := x.f
  keep := fun a o h _ => x.h a o h
  old := fun a o ⟨i, s, v, e1, e2, h⟩ _ => by
    obtain ⟨v', q1, r1⟩ := r.slot i s e1
    rw [e2] at q1
    cases q1
    exact ⟨i, s, v, e1, e2, (ownA_ext x r1).mp h⟩
  cold := x.n
  there := fun a o h => ⟨o, x.h a o h⟩

def look (ρ : Rho) : W → Option D
  | .d x => some x
  | .own i => match ρ[i]? with
    | some (some (.l xs)) => some (.list xs)
    | _ => none
def WRel (g : G) (F : Hp) (σ : St) (v : V) : W → Prop
  | .d x => Dv F v x
  | .own i => σ[i]? = some (some v)
theorem WRel.mono {g : G} {F F' : Hp} {σ : St} {v : V} {w : W} (f : Sub F F') (r : WRel g F σ v w) : WRel g F' σ v w := by
  cases w with
  | d x => exact dv_mono f r
  | own i => exact r
/-- a value as it may be read: data that stay, or an own list -/
inductive Dq (F H : Hp) : V → D → Prop
  | p {v : V} {x : D} : Dv F v x → Dq F H v x
  | l {a : Addr} {vs : List V} {xs : List D} : H a = some (.lst vs) → DvAll F vs xs → Dq F H (.ref a) (.list xs)
theorem Rel.look {g : G} {F H : Hp} {ρ : Rho} {σ : St} (r : Rel g F ρ σ H) {v : V} {w : W} {x : D} (q : WRel g F σ v w) (h : FL.look ρ w = some x) : Dq F H v x := by
  cases w with
  | d y => cases h; exact .p q
  | own i =>
    have h' : (match ρ[i]? with | some (some (.l xs)) => some (PyData.list xs) | _ => none) = some x := h
    split at h'
    · rename_i xs e
      cases h'
      obtain ⟨u, h1, a, vs, rfl, h2, h3, h4⟩ := r.slot i _ e
      have q' : σ[i]? = some (some v) := q
      rw [h1] at q'
      cases q'
      exact .l h2 h4
    · cases h'
section
variable {F H : Hp} {v : V}
theorem Dq.dv (s : Sub F H) {x : D} (q : Dq F H v x) : Dv H v x := by
  cases q with
  | p h => exact dv_mono s h
  | l h a => exact .lst (.inl h) (dvAll_mono s a)
theorem Dq.lst (s : Sub F H) {xs : List D} (q : Dq F H v (.list xs)) : ∃ a vs, v = .ref a ∧ Rd H a (.lst vs) ∧ DvAll F vs xs := by
  cases q with
  | p h => cases h with
    | lst h a => exact ⟨_, _, rfl, s.rd h, a⟩
  | l h a => exact ⟨_, _, rfl, .inl h, a⟩
theorem Dq.tup (s : Sub F H) {xs : List D} (q : Dq F H v (.tuple xs)) : ∃ a vs, v = .ref a ∧ Rd H a (.tup vs) ∧ DvAll F vs xs := by
  cases q with
  | p h => cases h with
    | tup h a => exact ⟨_, _, rfl, s.rd h, a⟩
theorem Dq.int {i : Int} (q : Dq F H v (.int i)) : v = .int i := by
  cases q with
  | p h => cases h; rfl
theorem Dq.bool {b : Bool} (q : Dq F H v (.bool b)) : v = .bl b := by
  cases q with
  | p h => cases h; rfl
theorem Dq.str {x : Str} (q : Dq F H v (.str x)) : v = .str x := by
  cases q with
  | p h => cases h; rfl
theorem Dq.none (q : Dq F H v .none) : v = .non := by
  cases q with
  | p h => cases h; rfl
end
inductive DqAll (F H : Hp) : List V → List D → Prop
  | nil : DqAll F H [] []
  | cons {v : V} {vs : List V} {d : D} {ds : List D} : Dq F H v d → DqAll F H vs ds → DqAll F H (v :: vs) (d :: ds)

/-! ### readings out of functions -/
def tOf (g : G) (f : Rho → R W) : TE := fun σ H Q => ∃ F ρ, Rel g F ρ σ H ∧ match f ρ with
  | .ok w ρ' => ∀ v H' F', Rel g F' ρ' σ H' → Frm σ F H ρ F' H' ρ' → WRel g F' σ v w → Q v H'
  | .exc c ρ' => ∀ H' F', Rel g F' ρ' σ H' → g.W (.ref (g.cls c)) none σ H'
  | .bad => False
def WRelAll (g : G) (F : Hp) (σ : St) : List V → List W → Prop := Paired (WRel g F σ)
def taOf (g : G) (f : Rho → R (List W)) : TA := fun σ H Q => ∃ F ρ, Rel g F ρ σ H ∧ match f ρ with
  | .ok ws ρ' => ∀ vs H' F', Rel g F' ρ' σ H' → Frm σ F H ρ F' H' ρ' → WRelAll g F' σ vs ws → Q vs H'
  | .exc c ρ' => ∀ H' F', Rel g F' ρ' σ H' → g.W (.ref (g.cls c)) none σ H'
  | .bad => False
def ttOf (g : G) (f : Rho → R Bool) : TT := fun σ H Q => ∃ F ρ, Rel g F ρ σ H ∧ match f ρ with
  | .ok b ρ' => ∀ H' F', Rel g F' ρ' σ H' → Frm σ F H ρ F' H' ρ' → Q b H'
  | .exc c ρ' => ∀ H' F', Rel g F' ρ' σ H' → g.W (.ref (g.cls c)) none σ H'
  | .bad => False
theorem PE.imp {X : Cx} {e : Expr} {t t' : TE} (h : PE X e t) (k : ∀ σ H Q, t' σ H Q → t σ H Q) : PE X e t' :=
  ⟨fun pins s σ H Q I q => h.run pins s σ H Q I (k σ H Q q)⟩
theorem PA.imp {X : Cx} {e : List Expr} {t t' : TA} (h : PA X e t) (k : ∀ σ H Q, t' σ H Q → t σ H Q) : PA X e t' :=
  ⟨fun pos pins s σ H Q I q => h.run pos pins s σ H Q I (k σ H Q q)⟩
theorem PT.imp {X : Cx} {e : Expr} {t t' : TT} (h : PT X e t) (k : ∀ σ H Q, t' σ H Q → t σ H Q) : PT X e t' :=
  ⟨fun pins s σ H Q I q => h.run pins s σ H Q I (k σ H Q q)⟩
abbrev FE (X : Cx) (g : G) (e : Expr) (f : Rho → R W) : Prop := PE X e (tOf g f)
abbrev FA (X : Cx) (g : G) (e : List Expr) (f : Rho → R (List W)) : Prop := PA X e (taOf g f)
abbrev FT (X : Cx) (g : G) (e : Expr) (f : Rho → R Bool) : Prop := PT X e (ttOf g f)

/-- the value as a truth value -/
def asB (f : Rho → R W) : Rho → R Bool := fun ρ => (f ρ).bind fun w ρ' => match w with
  | .d (.bool b) => .ok b ρ'
  | _ => .bad
def fD (x : D) : Rho → R W := fun ρ => .ok (.d x) ρ

/-- two operands, then an operation on data -/
def fBin (o : D → D → Option D) (fa fb : Rho → R W) : Rho → R W := fun ρ => (fa ρ).bind fun w ρ1 => (fb ρ1).bind fun u ρ2 =>
  match look ρ2 w, look ρ2 u with
  | some x, some y => (match o x y with
    | some z => .ok (.d z) ρ2
    | none => .bad)
  | _, _ => .bad
/-- the reading of an operation on data -/
def rD (o : D → D → Option D) : R2 := fun x y H Q => ∃ F a b z, Sub F H ∧ Dq F H x a ∧ Dq F H y b ∧ o a b = some z ∧ ∀ v F' H', Ext F H F' H' → Dv F' v z → Q v H'
abbrev OpD (X : Cx) (f : Value → Value → Sem Value) (o : D → D → Option D) : Prop := OpR X f (rD o)

/-- two readings in a row -/
theorem t2_of {g : G} {fa fb : Rho → R W} {σ : St} {H : Hp} {F : Hp} {ρ : Rho} (r : Rel g F ρ σ H) {k : V → V → Hp → Prop} {K' : W → W → Rho → R W}
    (h : match ((fa ρ).bind fun w ρ1 => (fb ρ1).bind fun u ρ2 => K' w u ρ2) with
      | .ok w ρ' => True
      | .exc c ρ' => ∀ H' F', Rel g F' ρ' σ H' → g.W (.ref (g.cls c)) none σ H'
      | .bad => False)
    (hk : ∀ w u ρ1 ρ2, fa ρ = .ok w ρ1 → fb ρ1 = .ok u ρ2 → ∀ v1 v2 H2 F2, Rel g F2 ρ2 σ H2 → Frm σ F H ρ F2 H2 ρ2 → WRel g F2 σ v1 w → WRel g F2 σ v2 u → k v1 v2 H2) :
    tOf g fa σ H fun x H1 => tOf g fb σ H1 fun y H2 => k x y H2 := by
  refine ⟨F, ρ, r, ?_⟩
  cases ea : fa ρ with
  | bad => rw [ea] at h; exact h
  | exc c ρ1 => rw [ea] at h; exact h
  | ok w ρ1 =>
    rw [ea] at h
    intro v1 H1 F1 r1 s1 w1
    refine ⟨F1, ρ1, r1, ?_⟩
    cases eb : fb ρ1 with
    | bad => simp only [R.bind_ok, eb, R.bind_bad] at h
    | exc c ρ2 => simp only [R.bind_ok, eb, R.bind_exc] at h; exact h
    | ok u ρ2 =>
      intro v2 H2 F2 r2 s2 w2
      exact hk w u ρ1 ρ2 ea eb v1 v2 H2 F2 r2 (s1.trans s2) (w1.mono s2.f) w2
theorem fe_bin_imp {g : G} {o : D → D → Option D} {fa fb : Rho → R W} (σ : St) (H : Hp) (Q : VK) (h : tOf g (fBin o fa fb) σ H Q) : tOp (rD o) (tOf g fa) (tOf g fb) σ H Q := by
  obtain ⟨F, ρ, r, h⟩ := h
  refine t2_of (K' := fun w u ρ2 => match look ρ2 w, look ρ2 u with
    | some x, some y => (match o x y with
      | some z => .ok (.d z) ρ2
      | none => .bad)
    | _, _ => .bad) r ?_ ?_
  · revert h
    unfold fBin
    split <;> intro h
    · trivial
    · rename_i e; exact h
    · exact h
  · intro w u ρ1 ρ2 ea eb v1 v2 H2 F2 r2 s2 w1 w2
    unfold fBin at h
    simp only [ea, eb, R.bind_ok] at h
    cases e1 : look ρ2 w with
    | none => simp only [e1] at h
    | some x =>
      cases e2 : look ρ2 u with
      | none => simp only [e1, e2] at h
      | some y =>
        cases e3 : o x y with
        | none => simp only [e1, e2, e3] at h
        | some z =>
          simp only [e1, e2, e3] at h
          exact ⟨F2, x, y, z, r2.sub, r2.look w1 e1, r2.look w2 e2, e3, fun v F' H' xt q => h v H' F' (r2.ext xt) (s2.trans (r2.frm xt)) q⟩
theorem fe_bin {X : Cx} {g : G} {a b : Expr} {op : Operator} {pos : Pos} {o : D → D → Option D} {fa fb : Rho → R W} (ho : OpD X (binaryOp op) o) (ha : FE X g a fa) (hb : FE X g b fb) :
    FE X g (.BinOp a op b pos) (fBin o fa fb) := by
  exact PE.imp (pe_op ho ha hb) fe_bin_imp
theorem fe_cmp {X : Cx} {g : G} {a b : Expr} {op : CmpOp} {pos : Pos} {o : D → D → Option D} {fa fb : Rho → R W} (ho : OpD X (compareOp op) o) (ha : FE X g a fa) (hb : FE X g b fb) (hm : behindInMarks op b = false) :
    FE X g (.Compare a [op] [b] pos) (fBin o fa fb) := by
  exact PE.imp (pe_cmpR ho ha hb hm) fe_bin_imp
theorem ttest_imp {g : G} {f : Rho → R W} {t : TE} (k : ∀ σ H Q, tOf g f σ H Q → t σ H Q) (σ : St) (H : Hp) (Q : Bool → Hp → Prop) (h : ttOf g (asB f) σ H Q) : tTest t σ H Q := by
  obtain ⟨F, ρ, r, h⟩ := h
  refine k σ H _ ⟨F, ρ, r, ?_⟩
  unfold asB at h
  cases e : f ρ with
  | bad => rw [e] at h; exact h
  | exc c ρ' => rw [e] at h; exact h
  | ok w ρ' =>
    rw [e] at h
    intro v H' F' r' s' q
    cases w with
    | own i => exact h.elim
    | d x =>
      cases x with
      | bool b =>
        cases q
        exact ⟨b, rfl, h H' F' r' s'⟩
      | none => exact h.elim
      | int _ => exact h.elim
      | str _ => exact h.elim
      | list _ => exact h.elim
      | tuple _ => exact h.elim
      | dict _ => exact h.elim
theorem ft_cmp {X : Cx} {g : G} {a b : Expr} {op : CmpOp} {pos : Pos} {o : D → D → Option D} {fa fb : Rho → R W} (ho : OpD X (compareOp op) o) (ha : FE X g a fa) (hb : FE X g b fb) (hm : behindInMarks op b = false) :
    FT X g (.Compare a [op] [b] pos) (asB (fBin o fa fb)) := by
  exact PT.imp (pt_cmpR ho ha hb hm) (ttest_imp fe_bin_imp)
theorem ft_val {X : Cx} {g : G} {e : Expr} {f : Rho → R W} (h : FE X g e f) (he : ∀ whole, isTrue e X.env whole = (do let v ← whole; standAt e.pos; holding [v] (truthy v))) : FT X g e (asB f) :=
  PT.imp (pt_val h he) (ttest_imp fun _ _ _ h => h)
end FL

namespace FL
open PySem L2 PyProof.Rows

theorem mkT {F H : Hp} {p : Addr} {vs : List V} {ds : List D} (s : Sub F H) (h : H p = none) (a : DvAll F vs ds) : Dv (upd F p (.tup vs)) (.ref p) (.tuple ds) :=
  .tup (.inl upd_same) (dvAll_mono (sub_upd (s.none h)) a)
theorem mkL {F H : Hp} {p : Addr} {vs : List V} {ds : List D} (s : Sub F H) (h : H p = none) (a : DvAll F vs ds) : Dv (upd F p (.lst vs)) (.ref p) (.list ds) :=
  .lst (.inl upd_same) (dvAll_mono (sub_upd (s.none h)) a)
theorem Dq.tupF {F H : Hp} {v : V} {xs : List D} (q : Dq F H v (.tuple xs)) : Dv F v (.tuple xs) := by
  cases q with
  | p h => exact h
theorem lim_ok {n : Nat} (h : n ≤ 1000000) : n ≤ sizeLine := Nat.le_trans h (by decide)
theorem lim_lt {n : Nat} (h : n < 1000000) : n < sizeLine := Nat.lt_of_lt_of_le h (by decide)

section
variable {X : Cx} {pins : List (Addr × Obj)} {σ : L2.St} {H : Hp} {s : Shared}
theorem rdL (I : Inv X pins σ H s) {a : Addr} {xs : List V} (r : Rd H a (.lst xs)) :
    xs.length ≤ sizeLine ∧ ∃ (its : List Value) (n : Nat), Vals xs its ∧ xs.length = its.length ∧ s.heap.get? a = some { cls := .type "list", data := .seq its.toArray n } := by
  obtain ⟨z, its, n, v, e⟩ := r.ok I.hok
  exact ⟨z, its, n, v, v.length, e⟩
end
/-! ### list + list, list * int, over lists that are read -/
section
variable {X : Cx}
def rCatR : R2 := fun x y H Q => ∃ l b xs zs, x = .ref l ∧ y = .ref b ∧ Rd H l (.lst xs) ∧ Rd H b (.lst zs) ∧ xs.length + zs.length ≤ sizeLine ∧ ∀ p, H p = none → Q (.ref p) (upd H p (.lst (xs ++ zs)))
theorem op_catR : OpR X (binaryOp .Add) rCatR := by
  intro pins s σ H x y v u Q I rx ry h
  obtain ⟨l, b, xs, zs, rfl, rfl, hH, hB, hz, q⟩ := h
  cases rx
  cases ry
  obtain ⟨z, its, n, r, hl, e⟩ := rdL I hH
  obtain ⟨z2, its2, n2, r2, hl2, e2⟩ := rdL I hB
  refine PySem.P.add_list e e2 ?_ (by rw [List.size_toArray, List.size_toArray]; omega)
  have ea : its.toArray ++ its2.toArray = (its ++ its2).toArray := by simp
  rw [ea]
  exact ⟨.ref _, _, I.lnew (t' := s.toks) (r.append r2) (by rw [List.length_append]; omega), rfl, q _ I.fresh⟩
end

/-! ### arithmetic and + -/
def addD : D → D → Option D
  | .int i, .int j => some (.int (i + j))
  | .str x, .str y => if x.length + y.length ≤ 1000000 then some (.str (x ++ y)) else none
  | .tuple xs, .tuple ys => if xs.length + ys.length ≤ 1000000 then some (.tuple (xs ++ ys)) else none
  | .list xs, .list ys => if xs.length + ys.length ≤ 1000000 then some (.list (xs ++ ys)) else none
  | _, _ => none
section
variable {X : Cx}
theorem opd_add : OpD X (binaryOp .Add) addD := by
  intro pins s σ H x y v u Q I rx ry h
  obtain ⟨F, a, b, z, sub, qa, qb, e, k⟩ := h
  have done_ : ∀ {w : V}, Dv F w z → Q w H := fun {w} d => k w F H (.refl sub) d
  cases a with
  | int i =>
    cases b with
    | int j =>
      cases e
      exact op_add pins s σ H x y v u Q I rx ry ⟨i, j, qa.int, qb.int, done_ (.int _)⟩
    | _ => cases e
  | str i =>
    cases b with
    | str j =>
      have e' : (if i.length + j.length ≤ 1000000 then some (PyData.str (i ++ j)) else none) = some z := e
      split at e'
      · rename_i hl
        cases e'
        exact op_add_str pins s σ H x y v u Q I rx ry ⟨i, j, qa.str, qb.str, lim_ok hl, done_ (.str _)⟩
      · cases e'
    | _ => cases e
  | tuple xs =>
    cases b with
    | tuple ys =>
      have e' : (if xs.length + ys.length ≤ 1000000 then some (PyData.tuple (xs ++ ys)) else none) = some z := e
      split at e'
      · rename_i hl
        cases e'
        have ta := qa.tupF
        have tb := qb.tupF
        obtain ⟨p, vs, rfl, h1, a1⟩ := qa.tup sub
        obtain ⟨q, us, rfl, h2, a2⟩ := qb.tup sub
        have l1 := a1.len
        have l2 := a2.len
        refine op_catA pins s σ H _ _ v u Q I rx ry ⟨p, q, vs, us, rfl, rfl, .inl h1, .inl h2, by rw [l1, l2]; exact lim_ok hl, fun e => done_ ?_, fun _ e => done_ ?_, fun _ _ r hr => k _ _ _ (.new sub hr) (mkT sub hr (a1.app a2))⟩
        · subst e
          cases a1
          exact tb
        · subst e
          cases a2
          rw [List.append_nil]
          exact ta
      · cases e'
    | _ => cases e
  | list xs =>
    cases b with
    | list ys =>
      have e' : (if xs.length + ys.length ≤ 1000000 then some (PyData.list (xs ++ ys)) else none) = some z := e
      split at e'
      · rename_i hl
        cases e'
        obtain ⟨p, vs, rfl, h1, a1⟩ := qa.lst sub
        obtain ⟨q, us, rfl, h2, a2⟩ := qb.lst sub
        have l1 := a1.len
        have l2 := a2.len
        exact op_catR pins s σ H _ _ v u Q I rx ry ⟨p, q, vs, us, rfl, rfl, h1, h2, by rw [l1, l2]; exact lim_ok hl, fun r hr => k _ _ _ (.new sub hr) (mkL sub hr (a1.app a2))⟩
      · cases e'
    | _ => cases e
  | none => cases b <;> cases e
  | bool _ => cases b <;> cases e
  | dict _ => cases b <;> cases e
/-- an operation on two ints -/
theorem opd_int {f : Value → Value → Sem Value} {C : Int → Int → Prop} {g : Int → Int → V} {o : D → D → Option D} (r : OpR X f (rI C g))
    (ho : ∀ a b z, o a b = some z → ∃ i j, a = .int i ∧ b = .int j ∧ C i j ∧ ∀ F, Dv F (g i j) z) : OpD X f o := by
  intro pins s σ H x y v u Q I rx ry h
  obtain ⟨F, a, b, z, sub, qa, qb, e, k⟩ := h
  obtain ⟨i, j, rfl, rfl, c, d⟩ := ho a b z e
  exact r pins s σ H x y v u Q I rx ry ⟨i, j, qa.int, qb.int, c, k _ F H (.refl sub) (d F)⟩
theorem opd_int0 {f : Value → Value → Sem Value} {g : Int → Int → V} {o : D → D → Option D} (r : OpR X f (rI0 g))
    (ho : ∀ a b z, o a b = some z → ∃ i j, a = .int i ∧ b = .int j ∧ ∀ F, Dv F (g i j) z) : OpD X f o := by
  intro pins s σ H x y v u Q I rx ry h
  obtain ⟨F, a, b, z, sub, qa, qb, e, k⟩ := h
  obtain ⟨i, j, rfl, rfl, d⟩ := ho a b z e
  exact r pins s σ H x y v u Q I rx ry ⟨i, j, qa.int, qb.int, k _ F H (.refl sub) (d F)⟩
end
def subD : D → D → Option D
  | .int i, .int j => some (.int (i - j))
  | _, _ => none
def fdivD : D → D → Option D
  | .int i, .int j => if j ≠ 0 ∧ j.natAbs < 1073741824 then some (.int (i.fdiv j)) else none
  | _, _ => none
def modD : D → D → Option D
  | .int i, .int j => if j ≠ 0 then some (.int (i.fmod j)) else none
  | _, _ => none
def powD : D → D → Option D
  | .int i, .int j => if 0 ≤ j ∧ j ≤ 1000000 ∧ i.natAbs < 18446744073709551616 then some (.int (i ^ j.toNat)) else none
  | _, _ => none
section
variable {X : Cx}
theorem opd_sub : OpD X (binaryOp .Sub) subD := opd_int0 op_sub fun a b z e => by
  cases a <;> cases b <;> simp only [subD, Option.some.injEq] at e <;> first | (cases e; done) | (subst e; exact ⟨_, _, rfl, rfl, fun _ => .int _⟩)
theorem opd_fdiv : OpD X (binaryOp .FloorDiv) fdivD := opd_int op_fdivN fun a b z e => by
  cases a <;> cases b <;> simp only [fdivD] at e <;> first | (cases e; done) | skip
  split at e
  · rename_i h
    cases e
    exact ⟨_, _, rfl, rfl, h, fun _ => .int _⟩
  · cases e
theorem opd_mod : OpD X (binaryOp .Mod) modD := opd_int op_modN fun a b z e => by
  cases a <;> cases b <;> simp only [modD] at e <;> first | (cases e; done) | skip
  split at e
  · rename_i h
    cases e
    exact ⟨_, _, rfl, rfl, h, fun _ => .int _⟩
  · cases e
theorem opd_pow : OpD X (binaryOp .Pow) powD := opd_int op_pow fun a b z e => by
  cases a <;> cases b <;> simp only [powD] at e <;> first | (cases e; done) | skip
  split at e
  · rename_i h
    cases e
    exact ⟨_, _, rfl, rfl, ⟨h.1, h.2.1, by have := h.2.2; omega⟩, fun _ => .int _⟩
  · cases e
end

/-! ### == and != -/
mutual
/-- data without dicts, at most n deep, every text plain -/
def shp : Nat → D → Bool
  | _, .none => true
  | _, .bool _ => true
  | _, .int _ => true
  | _, .str x => PyData.strOk x
  | 0, .list _ => false
  | 0, .tuple _ => false
  | n + 1, .list xs => shpAll n xs
  | n + 1, .tuple xs => shpAll n xs
  | _, .dict _ => false
def shpAll : Nat → List D → Bool
  | _, [] => true
  | n, x :: xs => shp n x && shpAll n xs
end
mutual
theorem shp_lay : ∀ (n : Nat) (d : D), shp n d = true → d.canLay0 = true ∧ d.depth ≤ n
  | n, .none, _ => ⟨by simp [PyData.canLay0], by simp [PyData.depth]⟩
  | n, .bool _, _ => ⟨by simp [PyData.canLay0], by simp [PyData.depth]⟩
  | n, .int _, _ => ⟨by simp [PyData.canLay0], by simp [PyData.depth]⟩
  | n, .str x, h => ⟨by simpa [PyData.canLay0, shp] using h, by simp [PyData.depth]⟩
  | 0, .list _, h => by simp [shp] at h
  | 0, .tuple _, h => by simp [shp] at h
  | n + 1, .list xs, h => by
    obtain ⟨h1, h2⟩ := shpAll_lay n xs (by simpa [shp] using h)
    exact ⟨by simpa [PyData.canLay0] using h1, by simp only [PyData.depth]; omega⟩
  | n + 1, .tuple xs, h => by
    obtain ⟨h1, h2⟩ := shpAll_lay n xs (by simpa [shp] using h)
    exact ⟨by simpa [PyData.canLay0] using h1, by simp only [PyData.depth]; omega⟩
  | n, .dict _, h => by cases n <;> simp [shp] at h
theorem shpAll_lay : ∀ (n : Nat) (ds : List D), shpAll n ds = true → PyData.canLayAll0 ds = true ∧ PyData.depthAll ds ≤ n
  | n, [], _ => ⟨by simp [PyData.canLayAll0], by simp [PyData.depthAll]⟩
  | n, d :: ds, h => by
    rw [shpAll, Bool.and_eq_true] at h
    obtain ⟨h1, h2⟩ := shp_lay n d h.1
    obtain ⟨h3, h4⟩ := shpAll_lay n ds h.2
    refine ⟨by simp [PyData.canLayAll0, h1, h3], ?_⟩
    simp only [PyData.depthAll]
    omega
end
theorem shp_shaped {d : D} (h : shp 8 d = true) : SeqAt.shaped d = true := by
  obtain ⟨h1, h2⟩ := shp_lay 8 d h
  unfold SeqAt.shaped
  rw [h1, decide_eq_true (by omega)]
  rfl
def eqD (a b : D) : Option D := if shp 8 a = true ∧ shp 8 b = true then some (.bool (PyData.eqv a b)) else none
def neD (a b : D) : Option D := if shp 8 a = true ∧ shp 8 b = true then some (.bool (!PyData.eqv a b)) else none
section
variable {X : Cx}
theorem opd_eq (hu : X.A.units + 64 < cLine) : OpD X (compareOp .Eq) eqD := by
  intro pins s σ H x y v u Q I rx ry h
  obtain ⟨F, a, b, z, sub, qa, qb, e, k⟩ := h
  unfold eqD at e
  split at e
  · rename_i h
    cases e
    exact op_eqD hu pins s σ H x y v u Q I rx ry ⟨a, b, (qa.dv sub).dp _, (qb.dv sub).dp _, shp_shaped h.1, shp_shaped h.2, k _ F H (.refl sub) (.bl _)⟩
  · cases e
theorem opd_ne (hu : X.A.units + 64 < cLine) : OpD X (compareOp .NotEq) neD := by
  intro pins s σ H x y v u Q I rx ry h
  obtain ⟨F, a, b, z, sub, qa, qb, e, k⟩ := h
  unfold neD at e
  split at e
  · rename_i h
    cases e
    exact op_neD hu pins s σ H x y v u Q I rx ry ⟨a, b, (qa.dv sub).dp _, (qb.dv sub).dp _, shp_shaped h.1, shp_shaped h.2, k _ F H (.refl sub) (.bl _)⟩
  · cases e
end
/-! ### < <= > >= -/
def ltD : D → D → Option D
  | .int i, .int j => some (.bool (decide (i < j)))
  | .tuple xs, .tuple ys => if shp 8 (.tuple xs) = true ∧ shp 8 (.tuple ys) = true ∧ PySem.W.alikeAll xs ys = true then some (.bool (PySem.W.dataLt (.tuple xs) (.tuple ys))) else none
  | _, _ => none
def leD : D → D → Option D
  | .int i, .int j => some (.bool (decide (i ≤ j)))
  | _, _ => none
def geD : D → D → Option D
  | .int i, .int j => some (.bool (decide (j ≤ i)))
  | _, _ => none
section
variable {X : Cx}
theorem opd_le : OpD X (compareOp .LtE) leD := opd_int0 op_le fun a b z e => by
  cases a <;> cases b <;> simp only [leD, Option.some.injEq] at e <;> first | (cases e; done) | (subst e; exact ⟨_, _, rfl, rfl, fun _ => .bl _⟩)
theorem opd_ge : OpD X (compareOp .GtE) geD := opd_int0 op_ge fun a b z e => by
  cases a <;> cases b <;> simp only [geD, Option.some.injEq] at e <;> first | (cases e; done) | (subst e; exact ⟨_, _, rfl, rfl, fun _ => .bl _⟩)
theorem opd_lt (hu : X.A.units + 64 < cLine) : OpD X (compareOp .Lt) ltD := by
  intro pins s σ H x y v u Q I rx ry h
  obtain ⟨F, a, b, z, sub, qa, qb, e, k⟩ := h
  cases a with
  | int i =>
    cases b with
    | int j =>
      cases e
      exact op_lt pins s σ H x y v u Q I rx ry ⟨i, j, qa.int, qb.int, k _ F H (.refl sub) (.bl _)⟩
    | _ => cases e
  | tuple xs =>
    cases b with
    | tuple ys =>
      have e' : (if shp 8 (.tuple xs) = true ∧ shp 8 (.tuple ys) = true ∧ PySem.W.alikeAll xs ys = true then some (PyData.bool (PySem.W.dataLt (.tuple xs) (.tuple ys))) else none) = some z := e
      split at e'
      · rename_i hc
        cases e'
        obtain ⟨as, r1⟩ := Dp.reads I _ x v ((qa.dv sub).dp _) rx
        obtain ⟨bs, r2⟩ := Dp.reads I _ y u ((qb.dv sub).dp _) ry
        have hd := (shp_lay 8 _ hc.1).2
        have key := PySem.W.rcLt_alike (.tuple xs) (.tuple ys) X.A s v u as bs r1 r2 (by simpa [PySem.W.alike] using hc.2.2) (by intro z; cases z) (by omega) X.prog X.w X.xe
        show wpAny _ _ (compareOp .Lt v u) _ _ _
        exact key _ ⟨.bl _, H, I, rfl, k _ F H (.refl sub) (.bl _)⟩
      · cases e'
    | _ => cases e
  | none => cases b <;> cases e
  | bool _ => cases b <;> cases e
  | str _ => cases b <;> cases e
  | list _ => cases b <;> cases e
  | dict _ => cases b <;> cases e
end
/-! ### in, not in: a list, a tuple -/
def inD : D → D → Option D
  | x, .list ys => if shp 8 x = true ∧ shp 8 (.list ys) = true then some (.bool (ys.any fun z => PyData.eqv z x)) else none
  | x, .tuple ys => if shp 8 x = true ∧ shp 8 (.tuple ys) = true then some (.bool (ys.any fun z => PyData.eqv z x)) else none
  | _, _ => none
def notInD : D → D → Option D
  | x, .list ys => if shp 8 x = true ∧ shp 8 (.list ys) = true then some (.bool (!ys.any fun z => PyData.eqv z x)) else none
  | x, .tuple ys => if shp 8 x = true ∧ shp 8 (.tuple ys) = true then some (.bool (!ys.any fun z => PyData.eqv z x)) else none
  | _, _ => none
section
variable {X : Cx}
theorem shp_seq {n : Nat} {ys : List D} (h : shp (n + 1) (.tuple ys) = true) : PyData.canLayAll0 ys = true ∧ PyData.depthAll ys ≤ n := shpAll_lay n ys (by simpa [shp] using h)
theorem shp_seqL {n : Nat} {ys : List D} (h : shp (n + 1) (.list ys) = true) : PyData.canLayAll0 ys = true ∧ PyData.depthAll ys ≤ n := shpAll_lay n ys (by simpa [shp] using h)
theorem opd_in (hu : X.A.units + 65 < cLine) : OpD X (compareOp .In) inD := by
  intro pins s σ H x y v u Q I rx ry h
  obtain ⟨F, a, b, z, sub, qa, qb, e, k⟩ := h
  obtain ⟨as, r1⟩ := Dp.reads I _ x v ((qa.dv sub).dp _) rx
  obtain ⟨bs, r2⟩ := Dp.reads I _ y u ((qb.dv sub).dp _) ry
  cases b with
  | list ys =>
    have e' : (if shp 8 a = true ∧ shp 8 (.list ys) = true then some (PyData.bool (ys.any fun z => PyData.eqv z a)) else none) = some z := e
    split at e'
    · rename_i hc
      cases e'
      have h1 := shp_lay 8 _ hc.1
      have h2 := shp_seqL hc.2
      exact SeqAt.in_list_reads r2 r1 h2.1 h1.1 (by omega) ⟨.bl _, H, I, rfl, k _ F H (.refl sub) (.bl _)⟩
    · cases e'
  | tuple ys =>
    have e' : (if shp 8 a = true ∧ shp 8 (.tuple ys) = true then some (PyData.bool (ys.any fun z => PyData.eqv z a)) else none) = some z := e
    split at e'
    · rename_i hc
      cases e'
      have h1 := shp_lay 8 _ hc.1
      have h2 := shp_seq hc.2
      exact SeqAt.in_tuple_reads r2 r1 h2.1 h1.1 (by omega) ⟨.bl _, H, I, rfl, k _ F H (.refl sub) (.bl _)⟩
    · cases e'
  | none => cases e
  | bool _ => cases e
  | int _ => cases e
  | str _ => cases e
  | dict _ => cases e
theorem opd_notIn (hu : X.A.units + 65 < cLine) : OpD X (compareOp .NotIn) notInD := by
  intro pins s σ H x y v u Q I rx ry h
  obtain ⟨F, a, b, z, sub, qa, qb, e, k⟩ := h
  obtain ⟨as, r1⟩ := Dp.reads I _ x v ((qa.dv sub).dp _) rx
  obtain ⟨bs, r2⟩ := Dp.reads I _ y u ((qb.dv sub).dp _) ry
  cases b with
  | list ys =>
    have e' : (if shp 8 a = true ∧ shp 8 (.list ys) = true then some (PyData.bool (!ys.any fun z => PyData.eqv z a)) else none) = some z := e
    split at e'
    · rename_i hc
      cases e'
      have h1 := shp_lay 8 _ hc.1
      have h2 := shp_seqL hc.2
      exact SeqAt.notIn_list_reads r2 r1 h2.1 h1.1 (by omega) ⟨.bl _, H, I, rfl, k _ F H (.refl sub) (.bl _)⟩
    · cases e'
  | tuple ys =>
    have e' : (if shp 8 a = true ∧ shp 8 (.tuple ys) = true then some (PyData.bool (!ys.any fun z => PyData.eqv z a)) else none) = some z := e
    split at e'
    · rename_i hc
      cases e'
      have h1 := shp_lay 8 _ hc.1
      have h2 := shp_seq hc.2
      exact SeqAt.notIn_tuple_reads r2 r1 h2.1 h1.1 (by omega) ⟨.bl _, H, I, rfl, k _ F H (.refl sub) (.bl _)⟩
    · cases e'
  | none => cases e
  | bool _ => cases e
  | int _ => cases e
  | str _ => cases e
  | dict _ => cases e
end
/-! ### is, is not, with True, False, None on the right -/
def isB (b : Bool) : D → Bool
  | .bool a => a == b
  | _ => false
def isN : D → Bool
  | .none => true
  | _ => false
def isD : D → D → Option D
  | x, .bool b => some (.bool (isB b x))
  | x, .none => some (.bool (isN x))
  | _, _ => none
def isNotD : D → D → Option D
  | x, .bool b => some (.bool (!isB b x))
  | x, .none => some (.bool (!isN x))
  | _, _ => none
theorem dv_none {F : Hp} {v : V} {x : D} (d : Dv F v x) : decide (v = V.non) = isN x := by
  cases d <;> rfl
section
variable {X : Cx}
theorem dv_isb {F : Hp} {v : V} {x : D} {u : Value} {b : Bool} (d : Dv F v x) (r : RelV v u) : plainIs u (.bool b) = true ∧ (u == Value.bool b) = isB b x := by
  cases d with
  | bl c => cases r; exact ⟨rfl, by cases c <;> cases b <;> rfl⟩
  | non => cases r; exact ⟨rfl, rfl⟩
  | int i => obtain ⟨t, rfl⟩ := r; exact ⟨rfl, rfl⟩
  | str i => obtain ⟨t, rfl⟩ := r; exact ⟨rfl, rfl⟩
  | lst _ _ => cases r; exact ⟨rfl, rfl⟩
  | tup _ _ => cases r; exact ⟨rfl, rfl⟩
theorem opd_is : OpD X (compareOp .Is) isD := by
  intro pins s σ H x y v u Q I rx ry h
  obtain ⟨F, a, b, z, sub, qa, qb, e, k⟩ := h
  have da := qa.dv sub
  cases b with
  | bool c =>
    cases e
    have ey := qb.bool
    subst ey
    cases (show u = Value.bool c from ry)
    obtain ⟨h1, h2⟩ := dv_isb (b := c) da rx
    exact wpAny_is_plain h1 (by rw [h2]; exact ⟨.bl _, H, I, rfl, k _ F H (.refl sub) (.bl _)⟩)
  | none =>
    cases e
    exact op_isN pins s σ H x y v u Q I rx ry ⟨qb.none, by rw [dv_none da]; exact k _ F H (.refl sub) (.bl _)⟩
  | int _ => cases e
  | str _ => cases e
  | list _ => cases e
  | tuple _ => cases e
  | dict _ => cases e
theorem opd_isNot : OpD X (compareOp .IsNot) isNotD := by
  intro pins s σ H x y v u Q I rx ry h
  obtain ⟨F, a, b, z, sub, qa, qb, e, k⟩ := h
  have da := qa.dv sub
  cases b with
  | bool c =>
    cases e
    have ey := qb.bool
    subst ey
    cases (show u = Value.bool c from ry)
    obtain ⟨h1, h2⟩ := dv_isb (b := c) da rx
    exact wpAny_isNot_plain h1 (by rw [h2]; exact ⟨.bl _, H, I, rfl, k _ F H (.refl sub) (.bl _)⟩)
  | none =>
    cases e
    exact op_notN pins s σ H x y v u Q I rx ry ⟨qb.none, by rw [dv_none da]; exact k _ F H (.refl sub) (.bl _)⟩
  | int _ => cases e
  | str _ => cases e
  | list _ => cases e
  | tuple _ => cases e
  | dict _ => cases e
end
end FL

namespace FL
open PySem L2 PyProof.Rows

/-! ### list * int, int * int -/
section
variable {X : Cx}
def rRepR : R2 := fun x y H Q => ∃ l k xs, x = .ref l ∧ y = .int k ∧ Rd H l (.lst xs) ∧ -(2 ^ 63) ≤ k ∧ k < 2 ^ 63 ∧ xs.length * k.toNat ≤ sizeLine ∧
  ∀ p, H p = none → Q (.ref p) (upd H p (.lst (List.replicate k.toNat xs).flatten))
theorem op_repR : OpR X (binaryOp .Mult) rRepR := by
  intro pins s σ H x y v u Q I rx ry h
  obtain ⟨l, k, xs, rfl, rfl, hH, h1, h2, hz, q⟩ := h
  cases rx
  obtain ⟨t, rfl⟩ := ry
  obtain ⟨z, its, n, r, hl, e⟩ := rdL I hH
  have hlen : its.toArray.size * k.toNat ≤ sizeLine := by rw [List.size_toArray, ← hl]; exact hz
  have hcap : ¬ its.toArray.size * k.toNat > (2 ^ 63 - 1) / 8 := by
    have : (sizeLine : Nat) ≤ (2 ^ 63 - 1) / 8 := by decide
    omega
  have hfit : ¬ (!Builtin.List.listFitsIndex k) = true := by
    rw [fitsIndex_both h1 h2]
    exact Bool.false_ne_true
  have hlong : ¬ Builtin.List.listTooLong (its.toArray.size * k.toNat) = true := by
    rw [notLongL hlen]
    exact Bool.false_ne_true
  have hnew : List.foldl (fun x1 x2 => x1 ++ x2) #[] (List.replicate (if its.toArray.isEmpty = true then 0 else k.toNat) its.toArray) = (List.replicate k.toNat its).flatten.toArray := by
    have f0 : ∀ m : Nat, List.foldl (fun x1 x2 => x1 ++ x2) #[] (List.replicate m its.toArray) = (List.replicate m its).flatten.toArray := fun m => by
      have := foldl_rep its m []
      rw [List.nil_append] at this
      exact this
    rw [f0]
    cases its with
    | nil => simp
    | cons a r' => rw [if_neg (by simp)]
  refine wpAny_binaryOp_repeat_ref (T := "list") (U := "int") (by decide) ⟨_, e, rfl⟩ (fun s' => typeIs_int s' k t) noFill_list_mul F.fills_int_mul F.slot_int_rmul repeat_list F.slot_int_index.lookup
    (call_meets F.slot_int_rmul (typeIs_int s k t) F.entry_int_rmul (F.args_int_rmul_2 _ _) (int___rmul___int_list k t l its.toArray n)
      ⟨e, rfl, ⟨_, e, rfl⟩, call_meets F.slot_list_mul ⟨_, e, rfl⟩ F.entry_list_mul (F.args_list_mul_2 _ _) (AutoListH.list___mul___list_int_3 l its.toArray n k t hfit hcap hlong) ⟨e, ?_⟩⟩)
  rw [hnew]
  exact ⟨.ref _, _, I.lnew (t' := s.toks) (r.rep k.toNat) (by rw [PyProof.Rows.lm_len_rep_flat, Nat.mul_comm]; exact hz), rfl, q _ I.fresh⟩
end
def mulD : D → D → Option D
  | .int i, .int j => if (-18446744073709551616 < i ∧ i < 18446744073709551616) ∨ (-18446744073709551616 < j ∧ j < 18446744073709551616) then some (.int (i * j)) else none
  | .list xs, .int k => if 0 ≤ k ∧ k ≤ 1000 ∧ xs.length ≤ 1000 then some (.list (List.replicate k.toNat xs).flatten) else none
  | _, _ => none
section
variable {X : Cx}
theorem opd_mul : OpD X (binaryOp .Mult) mulD := by
  intro pins s σ H x y v u Q I rx ry h
  obtain ⟨F, a, b, z, sub, qa, qb, e, k⟩ := h
  cases a with
  | int i =>
    cases b with
    | int j =>
      have e' : (if (-18446744073709551616 < i ∧ i < 18446744073709551616) ∨ (-18446744073709551616 < j ∧ j < 18446744073709551616) then some (PyData.int (i * j)) else none) = some z := e
      split at e'
      · rename_i hc
        cases e'
        exact op_mul pins s σ H x y v u Q I rx ry ⟨i, j, qa.int, qb.int, by unfold CMul; exact hc, k _ F H (.refl sub) (.int _)⟩
      · cases e'
    | _ => cases e
  | list xs =>
    cases b with
    | int j =>
      have e' : (if 0 ≤ j ∧ j ≤ 1000 ∧ xs.length ≤ 1000 then some (PyData.list (List.replicate j.toNat xs).flatten) else none) = some z := e
      split at e'
      · rename_i hc
        cases e'
        obtain ⟨p, vs, rfl, h1, a1⟩ := qa.lst sub
        have l1 := a1.len
        refine op_repR pins s σ H _ _ v u Q I rx ry ⟨p, j, vs, rfl, qb.int, h1, by omega, by omega, ?_, fun r hr => k _ _ _ (.new sub hr) (mkL sub hr (a1.rep _))⟩
        rw [l1]
        have : xs.length * j.toNat ≤ 1000 * 1000 := Nat.mul_le_mul hc.2.2 (by omega)
        exact lim_ok (by omega)
      · cases e'
    | _ => cases e
  | none => cases b <;> cases e
  | bool _ => cases b <;> cases e
  | str _ => cases b <;> cases e
  | tuple _ => cases b <;> cases e
  | dict _ => cases b <;> cases e
end

/-! ### xs[i] -/
def idxD : D → D → Option D
  | .list xs, .int i => atI xs i
  | .tuple xs, .int i => atI xs i
  | _, _ => none
theorem atI_get {F : Hp} {vs : List V} {ds : List D} {i : Int} {d : D} (a : DvAll F vs ds) (h : atI ds i = some d) : ∃ v, atI vs i = some v ∧ Dv F v d := by
  unfold atI at h ⊢
  rw [a.len]
  cases e : ixN ds.length i with
  | none => rw [e] at h; cases h
  | some j =>
    rw [e] at h
    exact a.get h
section
variable {X : Cx}
def IxD (X : Cx) (o : D → D → Option D) : Prop := IxR X (rD o)
theorem ixd : IxD X idxD := by
  intro value slice pins s σ H x y v u Q I rx ry h hs
  obtain ⟨F, a, b, z, sub, qa, qb, e, k⟩ := h
  cases a with
  | list xs =>
    cases b with
    | int i =>
      obtain ⟨p, vs, rfl, h1, a1⟩ := qa.lst sub
      obtain ⟨w, h2, h3⟩ := atI_get a1 (show atI xs i = some z from e)
      exact ix_list value slice pins s σ H _ _ v u Q I rx ry ⟨p, vs, i, w, rfl, qb.int, .inl h1, h2, k _ F H (.refl sub) h3⟩ hs
    | _ => cases e
  | tuple xs =>
    cases b with
    | int i =>
      obtain ⟨p, vs, rfl, h1, a1⟩ := qa.tup sub
      obtain ⟨w, h2, h3⟩ := atI_get a1 (show atI xs i = some z from e)
      exact ix_tup value slice pins s σ H _ _ v u Q I rx ry ⟨p, vs, i, w, rfl, qb.int, .inl h1, h2, k _ F H (.refl sub) h3⟩ hs
    | _ => cases e
  | none => cases b <;> cases e
  | bool _ => cases b <;> cases e
  | int _ => cases b <;> cases e
  | str _ => cases b <;> cases e
  | dict _ => cases b <;> cases e
theorem fe_idx {g : G} {a b : Expr} {pos : Pos} {o : D → D → Option D} {fa fb : Rho → R W} (ho : IxD X o) (ha : FE X g a fa) (hb : FE X g b fb) (hs : PlainIx b) : FE X g (.Subscript a b pos) (fBin o fa fb) :=
  PE.imp (pe_ix ho ha hb hs) fe_bin_imp
end

/-! ### slices -/
/-- an optional bound: none is data .none -/
def cutD {α : Type} (xs : List α) (lo hi : Option Int) : List α := (xs.drop (HT.sIx xs.length 0 lo)).take (HT.sIx xs.length xs.length hi - HT.sIx xs.length 0 lo)
def slD (x : D) (lo hi : Option Int) : Option D := match x with
  | .list xs => some (.list (cutD xs lo hi))
  | .tuple xs => some (.tuple (cutD xs lo hi))
  | .str z => if z.length ≤ 1000000 then some (.str (cutS z lo hi)) else none
  | _ => none
theorem cut_all {F : Hp} {vs : List V} {ds : List D} (lo hi : Option Int) (a : DvAll F vs ds) : DvAll F (cutV vs lo hi) (cutD ds lo hi) := by
  unfold cutV cutD
  rw [a.len]
  exact (a.drop _).take _
def rSlD : V → Option Int → Option Int → Hp → VK → Prop := fun x lo hi H Q => ∃ F a z, Sub F H ∧ Dq F H x a ∧ slD a lo hi = some z ∧ ∀ v F' H', Ext F H F' H' → Dv F' v z → Q v H'
theorem cut_whole {α : Type} {xs : List α} {lo hi : Option Int} (h1 : HT.sIx xs.length 0 lo = 0) (h2 : HT.sIx xs.length xs.length hi = xs.length) : cutD xs lo hi = xs := by
  unfold cutD
  rw [h1, h2]
  simp
section
variable {X : Cx}
theorem sld : SlR X rSlD := by
  intro pins s σ H x v vl vu lo hi sl Q I rx hs pl pu h
  obtain ⟨F, a, z, sub, qa, e, k⟩ := h
  cases a with
  | list xs =>
    cases e
    obtain ⟨p, vs, rfl, h1, a1⟩ := qa.lst sub
    exact sl_list pins s σ H _ v vl vu lo hi sl Q I rx hs pl pu ⟨p, vs, rfl, .inl h1, fun r hr => k _ _ _ (.new sub hr) (mkL sub hr (cut_all lo hi a1))⟩
  | tuple xs =>
    cases e
    have t := qa.tupF
    obtain ⟨p, vs, rfl, h1, a1⟩ := qa.tup sub
    have l1 := a1.len
    refine sl_tupA pins s σ H _ v vl vu lo hi sl Q I rx hs pl pu ⟨p, vs, rfl, .inl h1, fun hw => k _ F H (.refl sub) ?_, fun _ r hr => k _ _ _ (.new sub hr) (mkT sub hr (cut_all lo hi a1))⟩
    rw [l1] at hw
    rw [cut_whole hw.1 hw.2]
    exact t
  | str y =>
    have e' : (if y.length ≤ 1000000 then some (PyData.str (cutS y lo hi)) else none) = some z := e
    split at e'
    · rename_i hl
      cases e'
      exact sl_str pins s σ H _ v vl vu lo hi sl Q I rx hs pl pu ⟨y, qa.str, lim_ok hl, k _ F H (.refl sub) (.str _)⟩
    · cases e'
  | none => cases e
  | bool _ => cases e
  | int _ => cases e
  | dict _ => cases e
end
/-- a bound's value -/
def asPart : D → Option (Option Int)
  | .none => some none
  | .int i => some (some i)
  | _ => none
def fPart (f : Rho → R W) : Rho → R (Option Int) := fun ρ => (f ρ).bind fun w ρ' => match w with
  | .d (.int i) => .ok (some i) ρ'
  | _ => .bad
def fNoPart : Rho → R (Option Int) := fun ρ => .ok none ρ
def toOf (g : G) (f : Rho → R (Option Int)) : TO := fun σ H Q => ∃ F ρ, Rel g F ρ σ H ∧ match f ρ with
  | .ok b ρ' => ∀ H' F', Rel g F' ρ' σ H' → Frm σ F H ρ F' H' ρ' → Q b H'
  | .exc c ρ' => ∀ H' F', Rel g F' ρ' σ H' → g.W (.ref (g.cls c)) none σ H'
  | .bad => False
theorem PO.imp {X : Cx} {e : Option Expr} {t t' : TO} (h : PO X e t) (k : ∀ σ H Q, t' σ H Q → t σ H Q) : PO X e t' :=
  ⟨fun pins s σ H Q I q => h.run pins s σ H Q I (k σ H Q q)⟩
abbrev FO (X : Cx) (g : G) (e : Option Expr) (f : Rho → R (Option Int)) : Prop := PO X e (toOf g f)
theorem fo_none {X : Cx} {g : G} : FO X g none fNoPart := PO.imp po_none fun σ H Q ⟨F, ρ, r, h⟩ => h H F r (.refl _ _ _ _)
theorem fo_some {X : Cx} {g : G} {e : Expr} {f : Rho → R W} (h : FE X g e f) : FO X g (some e) (fPart f) := PO.imp (po_some h) fun σ H Q ⟨F, ρ, r, h⟩ => by
  refine ⟨F, ρ, r, ?_⟩
  unfold fPart at h
  cases e : f ρ with
  | bad => rw [e] at h; exact h
  | exc c ρ' => rw [e] at h; exact h
  | ok w ρ' =>
    rw [e] at h
    intro v H' F' r' s' q
    cases w with
    | own i => exact h.elim
    | d x =>
      cases x with
      | int i =>
        cases q
        exact ⟨i, rfl, h H' F' r' s'⟩
      | none => exact h.elim
      | bool _ => exact h.elim
      | str _ => exact h.elim
      | list _ => exact h.elim
      | tuple _ => exact h.elim
      | dict _ => exact h.elim
def fSl (fa : Rho → R W) (fl fh : Rho → R (Option Int)) : Rho → R W := fun ρ => (fa ρ).bind fun w ρ1 => (fl ρ1).bind fun lo ρ2 => (fh ρ2).bind fun hi ρ3 =>
  match look ρ3 w with
  | some x => (match slD x lo hi with
    | some z => .ok (.d z) ρ3
    | none => .bad)
  | none => .bad
theorem fe_slice {X : Cx} {g : G} {e : Expr} {lo hi : Option Expr} {p2 pos : Pos} {fa : Rho → R W} {fl fh : Rho → R (Option Int)} (ha : FE X g e fa) (hl : FO X g lo fl) (hh : FO X g hi fh) : FE X g (.Subscript e (.Slice lo hi none p2) pos) (fSl fa fl fh) := by
  refine PE.imp (pe_slice sld ha hl hh) ?_
  rintro σ H Q ⟨F, ρ, r, h⟩
  refine ⟨F, ρ, r, ?_⟩
  unfold fSl at h
  cases e1 : fa ρ with
  | bad => rw [e1] at h; exact h
  | exc c ρ' => rw [e1] at h; exact h
  | ok w ρ1 =>
    rw [e1] at h
    simp only [R.bind_ok] at h
    intro v H1 F1 r1 s1 w1
    refine ⟨F1, ρ1, r1, ?_⟩
    cases e2 : fl ρ1 with
    | bad => rw [e2] at h; exact h
    | exc c ρ' => rw [e2] at h; exact h
    | ok lo' ρ2 =>
      rw [e2] at h
      simp only [R.bind_ok] at h
      intro H2 F2 r2 s2
      refine ⟨F2, ρ2, r2, ?_⟩
      cases e3 : fh ρ2 with
      | bad => rw [e3] at h; exact h
      | exc c ρ' => rw [e3] at h; exact h
      | ok hi' ρ3 =>
        rw [e3] at h
        simp only [R.bind_ok] at h
        intro H3 F3 r3 s3
        cases e4 : look ρ3 w with
        | none => rw [e4] at h; exact h.elim
        | some x =>
          rw [e4] at h
          simp only at h
          cases e5 : slD x lo' hi' with
          | none => rw [e5] at h; exact h.elim
          | some z =>
            rw [e5] at h
            exact ⟨F3, x, z, r3.sub, r3.look ((w1.mono s2.f).mono s3.f) e4, e5, fun v' F' H' xt q => h v' H' F' (r3.ext xt) (((s1.trans s2).trans s3).trans (r3.frm xt)) q⟩

/-! ### built-ins by their arguments' data -/
def lookAll (ρ : Rho) : List W → Option (List D)
  | [] => some []
  | w :: ws => match look ρ w, lookAll ρ ws with
    | some x, some xs => some (x :: xs)
    | _, _ => none
theorem Rel.lookAll {g : G} {F H : Hp} {ρ : Rho} {σ : L2.St} (r : Rel g F ρ σ H) : ∀ {vs : List V} {ws : List W} {xs : List D}, WRelAll g F σ vs ws → FL.lookAll ρ ws = some xs → DqAll F H vs xs
  | _, _, _, .nil, h => by cases h; exact .nil
  | _, _, _, .cons (b := w) (l₂ := ws) a b, h => by
    unfold FL.lookAll at h
    cases e1 : FL.look ρ w with
    | none => simp only [e1] at h; cases h
    | some x =>
      cases e2 : FL.lookAll ρ ws with
      | none => simp only [e1, e2] at h; cases h
      | some xs =>
        simp only [e1, e2] at h
        cases h
        exact .cons (r.look a e1) (r.lookAll b e2)
def rDs (o : List D → Option D) : List V → Hp → VK → Prop := fun vs H Q => ∃ F ds z, Sub F H ∧ DqAll F H vs ds ∧ o ds = some z ∧ ∀ v F' H', Ext F H F' H' → Dv F' v z → Q v H'
abbrev CallD (X : Cx) (f : Value) (o : List D → Option D) : Prop := CallR X f (rDs o)
def fCB (o : List D → Option D) (fas : Rho → R (List W)) : Rho → R W := fun ρ => (fas ρ).bind fun ws ρ' => match lookAll ρ' ws with
  | some ds => (match o ds with
    | some z => .ok (.d z) ρ'
    | none => .bad)
  | none => .bad
theorem fcb_imp {g : G} {o : List D → Option D} {fas : Rho → R (List W)} (σ : L2.St) (H : Hp) (Q : VK) (h : tOf g (fCB o fas) σ H Q) : tCB (rDs o) (taOf g fas) σ H Q := by
  obtain ⟨F, ρ, r, h⟩ := h
  refine ⟨F, ρ, r, ?_⟩
  unfold fCB at h
  cases e1 : fas ρ with
  | bad => rw [e1] at h; exact h
  | exc c ρ' => rw [e1] at h; exact h
  | ok ws ρ1 =>
    rw [e1] at h
    simp only [R.bind_ok] at h
    intro vs H1 F1 r1 s1 w1
    cases e4 : lookAll ρ1 ws with
    | none => rw [e4] at h; exact h.elim
    | some ds =>
      rw [e4] at h
      simp only at h
      cases e5 : o ds with
      | none => rw [e5] at h; exact h.elim
      | some z =>
        rw [e5] at h
        exact ⟨F1, ds, z, r1.sub, r1.lookAll w1 e4, e5, fun v' F' H' xt q => h v' H' F' (r1.ext xt) (s1.trans (r1.frm xt)) q⟩
theorem fe_callB {X : Cx} {g : G} {id : String} {o : List D → Option D} {x : Str} {e : Expr} {es : List Expr} {p pos : Pos} {fas : Rho → R (List W)} (hc : CallD X (.builtin id) o) (hg : Gl X x) (hm : X.mg x = none) (hv : bootBuiltins x = some (.builtin id)) (ha : FA X g (e :: es) fas)
    (hn : x ≠ "__name__") (hdb : (x == ("__debug__" : Str)) = false) (he : starEach (e :: es) X.env = (false, eval e X.env) :: starEach es X.env) (hpl : (backTo pos (starEach es X.env)).any (·.1) = false) :
    FE X g (.Call (.Name x p) (e :: es) [] pos) (fCB o fas) := PE.imp (pe_callB hc hg hm hv ha hn hdb he hpl) fcb_imp
theorem fe_callTy {X : Cx} {g : G} {T : String} {o : List D → Option D} {x : Str} {e : Expr} {es : List Expr} {p pos : Pos} {fas : Rho → R (List W)} (hc : CallD X (.type T) o) (hg : Gl X x) (hm : X.mg x = none) (hv : bootBuiltins x = some (.type T)) (ha : FA X g (e :: es) fas)
    (hn : x ≠ "__name__") (hdb : (x == ("__debug__" : Str)) = false) (he : starEach (e :: es) X.env = (false, eval e X.env) :: starEach es X.env) (hpl : (backTo pos (starEach es X.env)).any (·.1) = false) :
    FE X g (.Call (.Name x p) (e :: es) [] pos) (fCB o fas) := PE.imp (pe_callTy hc hg hm hv ha hn hdb he hpl) fcb_imp

def lenD : List D → Option D
  | [.list xs] => some (.int xs.length)
  | [.tuple xs] => some (.int xs.length)
  | [.str z] => if z.length ≤ 1000000 then some (.int z.length) else none
  | _ => none
def listD : List D → Option D
  | [.list xs] => some (.list xs)
  | [.tuple xs] => some (.list xs)
  | _ => none
def tupleD : List D → Option D
  | [.list xs] => some (.tuple xs)
  | [.tuple xs] => some (.tuple xs)
  | _ => none
def boolsOf : List D → Option (List Bool)
  | [] => some []
  | .bool b :: r => (boolsOf r).map (b :: ·)
  | _ => none
def intsOf : List D → Option (List Int)
  | [] => some []
  | .int b :: r => (intsOf r).map (b :: ·)
  | _ => none
def allD : List D → Option D
  | [.list xs] => (boolsOf xs).map fun bs => .bool (bs.all id)
  | _ => none
def sumD : List D → Option D
  | [.list xs] => (intsOf xs).map fun ns => .int ns.sum
  | _ => none
def min2D : List D → Option D
  | [.int i, .int j] => some (.int (if j < i then j else i))
  | _ => none
theorem bools_v {F : Hp} : ∀ {vs : List V} {xs : List D} {bs : List Bool}, DvAll F vs xs → boolsOf xs = some bs → vs = bs.map V.bl
  | _, _, _, .nil, h => by cases h; rfl
  | _, _, bs, .cons (d := x) (ds := xs) a b, h => by
    cases a with
    | bl c =>
      have h' : (boolsOf xs).map (c :: ·) = some bs := h
      cases e : boolsOf xs with
      | none => rw [e] at h'; cases h'
      | some cs =>
        rw [e] at h'
        cases h'
        rw [bools_v b e]
        rfl
    | _ => cases h
theorem ints_v {F : Hp} : ∀ {vs : List V} {xs : List D} {bs : List Int}, DvAll F vs xs → intsOf xs = some bs → vs = bs.map V.int
  | _, _, _, .nil, h => by cases h; rfl
  | _, _, bs, .cons (d := x) (ds := xs) a b, h => by
    cases a with
    | int c =>
      have h' : (intsOf xs).map (c :: ·) = some bs := h
      cases e : intsOf xs with
      | none => rw [e] at h'; cases h'
      | some cs =>
        rw [e] at h'
        cases h'
        rw [ints_v b e]
        rfl
    | _ => cases h
section
variable {X : Cx}
theorem cd_len : CallD X (.builtin "len") lenD := by
  intro pins s σ H xs us Q I r h
  obtain ⟨F, ds, z, sub, q, e, k⟩ := h
  cases q with
  | nil => cases e
  | cons a b =>
    cases b with
    | cons _ _ => revert e; unfold lenD; split <;> intro e <;> simp_all
    | nil =>
      rename_i d
      cases d with
      | list ys =>
        cases e
        obtain ⟨p, vs, rfl, h1, a1⟩ := a.lst sub
        rw [← a1.len] at k
        exact call_len_seq pins s σ H _ us Q I r ⟨p, vs, rfl, .inl (.inl h1), k _ F H (.refl sub) (.int _)⟩
      | tuple ys =>
        cases e
        obtain ⟨p, vs, rfl, h1, a1⟩ := a.tup sub
        rw [← a1.len] at k
        exact call_len_seq pins s σ H _ us Q I r ⟨p, vs, rfl, .inr (.inl h1), k _ F H (.refl sub) (.int _)⟩
      | str y =>
        have e' : (if y.length ≤ 1000000 then some (PyData.int y.length) else none) = some z := e
        split at e'
        · rename_i hl
          cases e'
          rw [a.str] at r
          exact call_len_str pins s σ H _ us Q I r ⟨y, rfl, lim_ok hl, k _ F H (.refl sub) (.int _)⟩
        · cases e'
      | none => cases e
      | bool _ => cases e
      | int _ => cases e
      | dict _ => cases e
theorem one_arg {α : Type} {o : List D → Option D} {ds : List D} {z : D} (h : o ds = some z) (hn : o [] = none) (hm : ∀ a b c, o (a :: b :: c) = none) : ∃ d, ds = [d] := by
  cases ds with
  | nil => rw [hn] at h; cases h
  | cons a b =>
    cases b with
    | nil => exact ⟨a, rfl⟩
    | cons b c => rw [hm] at h; cases h
theorem DqAll.one {F H : Hp} {vs : List V} {d : D} (q : DqAll F H vs [d]) : ∃ v, vs = [v] ∧ Dq F H v d := by
  cases q with
  | cons a b => cases b; exact ⟨_, rfl, a⟩
theorem cd_list : CallD X (.type "list") listD := by
  intro pins s σ H xs us Q I r h
  obtain ⟨F, ds, z, sub, q, e, k⟩ := h
  obtain ⟨d, rfl⟩ := one_arg (α := Unit) e rfl (fun _ _ _ => by simp [listD])
  obtain ⟨v, rfl, a⟩ := q.one
  cases d with
  | list ys =>
    cases e
    obtain ⟨p, vs, rfl, h1, a1⟩ := a.lst sub
    exact call_list_of pins s σ H _ us Q I r ⟨p, vs, rfl, .inl (.inl h1), fun l hl => k _ _ _ (.new sub hl) (mkL sub hl a1)⟩
  | tuple ys =>
    cases e
    obtain ⟨p, vs, rfl, h1, a1⟩ := a.tup sub
    exact call_list_of pins s σ H _ us Q I r ⟨p, vs, rfl, .inr (.inl h1), fun l hl => k _ _ _ (.new sub hl) (mkL sub hl a1)⟩
  | none => cases e
  | bool _ => cases e
  | int _ => cases e
  | str _ => cases e
  | dict _ => cases e
theorem cd_tuple : CallD X (.type "tuple") tupleD := by
  intro pins s σ H xs us Q I r h
  obtain ⟨F, ds, z, sub, q, e, k⟩ := h
  obtain ⟨d, rfl⟩ := one_arg (α := Unit) e rfl (fun _ _ _ => by simp [tupleD])
  obtain ⟨v, rfl, a⟩ := q.one
  cases d with
  | list ys =>
    cases e
    obtain ⟨p, vs, rfl, h1, a1⟩ := a.lst sub
    exact call_tuple_of pins s σ H _ us Q I r ⟨p, vs, rfl, .inl ⟨.inl h1, fun l hl => k _ _ _ (.new sub hl) (mkT sub hl a1)⟩⟩
  | tuple ys =>
    cases e
    have t := a.tupF
    obtain ⟨p, vs, rfl, h1, a1⟩ := a.tup sub
    exact call_tuple_of pins s σ H _ us Q I r ⟨p, vs, rfl, .inr ⟨.inl h1, k _ F H (.refl sub) t⟩⟩
  | none => cases e
  | bool _ => cases e
  | int _ => cases e
  | str _ => cases e
  | dict _ => cases e
theorem cd_all (hc : X.calm = true) : CallD X (.builtin "all") allD := by
  intro pins s σ H xs us Q I r h
  obtain ⟨F, ds, z, sub, q, e, k⟩ := h
  obtain ⟨d, rfl⟩ := one_arg (α := Unit) e rfl (fun _ _ _ => by simp [allD])
  obtain ⟨v, rfl, a⟩ := q.one
  cases d with
  | list ys =>
    have e' : (boolsOf ys).map (fun bs => PyData.bool (bs.all id)) = some z := e
    cases eb : boolsOf ys with
    | none => rw [eb] at e'; cases e'
    | some bs =>
      rw [eb] at e'
      cases e'
      obtain ⟨p, vs, rfl, h1, a1⟩ := a.lst sub
      have ev := bools_v a1 eb
      subst ev
      exact cr_all hc pins s σ H _ us Q I r ⟨p, bs, rfl, .inl h1, k _ F H (.refl sub) (.bl _)⟩
  | none => cases e
  | bool _ => cases e
  | int _ => cases e
  | str _ => cases e
  | tuple _ => cases e
  | dict _ => cases e
theorem cd_sum (hc : X.calm = true) : CallD X (.builtin "sum") sumD := by
  intro pins s σ H xs us Q I r h
  obtain ⟨F, ds, z, sub, q, e, k⟩ := h
  obtain ⟨d, rfl⟩ := one_arg (α := Unit) e rfl (fun _ _ _ => by simp [sumD])
  obtain ⟨v, rfl, a⟩ := q.one
  cases d with
  | list ys =>
    have e' : (intsOf ys).map (fun bs => PyData.int bs.sum) = some z := e
    cases eb : intsOf ys with
    | none => rw [eb] at e'; cases e'
    | some bs =>
      rw [eb] at e'
      cases e'
      obtain ⟨p, vs, rfl, h1, a1⟩ := a.lst sub
      have ev := ints_v a1 eb
      subst ev
      exact cr_sum hc pins s σ H _ us Q I r ⟨p, bs, rfl, .inl h1, k _ F H (.refl sub) (.int _)⟩
  | none => cases e
  | bool _ => cases e
  | int _ => cases e
  | str _ => cases e
  | tuple _ => cases e
  | dict _ => cases e
theorem cd_min2 (hc : X.calm = true) : CallD X (.builtin "min") min2D := by
  intro pins s σ H xs us Q I r h
  obtain ⟨F, ds, z, sub, q, e, k⟩ := h
  have hd : ∃ i j, ds = [.int i, .int j] := by
    revert e
    unfold min2D
    split
    · intro _; exact ⟨_, _, rfl⟩
    · intro e; cases e
  obtain ⟨i, j, rfl⟩ := hd
  cases e
  cases q with
  | cons a b =>
    cases b with
    | cons b c =>
      cases c
      rw [a.int, b.int] at r
      exact call_min2 hc pins s σ H _ us Q I r ⟨i, j, rfl, k _ F H (.refl sub) (.int _)⟩
end
end FL

namespace FL
open PySem L2 PyProof.Rows

/-! ### names, constants -/
def fVar (i : Nat) : Rho → R W := fun ρ => match ρ[i]? with
  | some (some (.d x)) => .ok (.d x) ρ
  | some (some _) => .ok (.own i) ρ
  | _ => .bad
section
variable {X : Cx} {g : G}
theorem fe_var {i : Nat} {x : Str} {pos : Pos} (hN : X.N[i]? = some x) (hv : Vis X.env.scope x) (hd : (x == ("__debug__" : Str)) = false) (hcd : (x == ("__classdict__" : Str)) = false) : FE X g (.Name x pos) (fVar i) := by
  refine PE.imp (pe_var hN hv hd hcd) ?_
  rintro σ H Q ⟨F, ρ, r, h⟩
  unfold fVar at h
  cases e : ρ[i]? with
  | none => rw [e] at h; exact h.elim
  | some o =>
    cases o with
    | none => rw [e] at h; exact h.elim
    | some s =>
      obtain ⟨v, h1, h2⟩ := r.slot i s e
      rw [e] at h
      cases s with
      | d y => exact ⟨v, h1, h v H F r (.refl _ _ _ _) h2⟩
      | l _ => exact ⟨v, h1, h v H F r (.refl _ _ _ _) h1⟩
      | m _ => exact ⟨v, h1, h v H F r (.refl _ _ _ _) h1⟩
      | t _ _ _ => exact ⟨v, h1, h v H F r (.refl _ _ _ _) h1⟩
      | e _ => exact ⟨v, h1, h v H F r (.refl _ _ _ _) h1⟩
      | z _ => exact ⟨v, h1, h v H F r (.refl _ _ _ _) h1⟩
theorem fe_c {e : Expr} {v : V} {x : D} (h : PE X e (tC v)) (d : ∀ F, Dv F v x) : FE X g e (fD x) :=
  PE.imp h fun σ H Q ⟨F, ρ, r, h⟩ => h v H F r (.refl _ _ _ _) (d F)
theorem fe_int {i : Int} {j} {pos : Pos} : FE X g (.Constant (.int i) j pos) (fD (.int i)) := fe_c pe_int fun _ => .int _
theorem fe_bl {b : Bool} {j} {pos : Pos} : FE X g (.Constant (.bool b) j pos) (fD (.bool b)) := fe_c pe_bl fun _ => .bl _
theorem fe_non {j} {pos : Pos} : FE X g (.Constant .none j pos) (fD .none) := fe_c pe_non fun _ => .non
theorem fe_str {x : Str} {j} {pos : Pos} : FE X g (.Constant (.str x) j pos) (fD (.str x)) := fe_c pe_str fun _ => .str _
/-! ### arguments -/
def fNil : Rho → R (List W) := fun ρ => .ok [] ρ
def fCons (f : Rho → R W) (fs : Rho → R (List W)) : Rho → R (List W) := fun ρ => (f ρ).bind fun w ρ1 => (fs ρ1).bind fun ws ρ2 => .ok (w :: ws) ρ2
theorem fa_nil : FA X g [] fNil := PA.imp pa_nil fun σ H Q ⟨F, ρ, r, h⟩ => h [] H F r (.refl _ _ _ _) .nil
theorem WRelAll.mono {F F' : Hp} {σ : L2.St} (f : Sub F F') : ∀ {vs : List V} {ws : List W}, WRelAll g F σ vs ws → WRelAll g F' σ vs ws
  | _, _, .nil => .nil
  | _, _, .cons a b => .cons (a.mono f) (WRelAll.mono f b)
theorem fa_cons {e : Expr} {es : List Expr} {f : Rho → R W} {fs : Rho → R (List W)} (h : FE X g e f) (hs : FA X g es fs) (hst : starEach (e :: es) X.env = (false, eval e X.env) :: starEach es X.env) : FA X g (e :: es) (fCons f fs) := by
  refine PA.imp (pa_cons h hs hst) ?_
  rintro σ H Q ⟨F, ρ, r, h⟩
  refine ⟨F, ρ, r, ?_⟩
  unfold fCons at h
  cases e1 : f ρ with
  | bad => rw [e1] at h; exact h
  | exc c ρ' => rw [e1] at h; exact h
  | ok w ρ1 =>
    rw [e1] at h
    simp only [R.bind_ok] at h
    intro v H1 F1 r1 s1 w1
    refine ⟨F1, ρ1, r1, ?_⟩
    cases e2 : fs ρ1 with
    | bad => rw [e2] at h; exact h
    | exc c ρ' => rw [e2] at h; exact h
    | ok ws ρ2 =>
      rw [e2] at h
      simp only [R.bind_ok] at h
      intro vs H2 F2 r2 s2 w2
      exact h (v :: vs) H2 F2 r2 (s1.trans s2) (.cons (w1.mono s2.f) w2)
/-! ### displays -/
def datas : List W → Option (List D)
  | [] => some []
  | .d x :: r => (datas r).map (x :: ·)
  | .own _ :: _ => none
theorem datas_all {F : Hp} {σ : L2.St} : ∀ {vs : List V} {ws : List W} {ds : List D}, WRelAll g F σ vs ws → datas ws = some ds → DvAll F vs ds
  | _, _, _, .nil, h => by cases h; exact .nil
  | _, _, ds, .cons (b := w) (l₂ := ws) a b, h => by
    cases w with
    | own i => cases h
    | d x =>
      have h' : (datas ws).map (x :: ·) = some ds := h
      cases e : datas ws with
      | none => rw [e] at h'; cases h'
      | some xs =>
        rw [e] at h'
        cases h'
        exact .cons a (datas_all b e)
def fTup (fs : Rho → R (List W)) : Rho → R W := fun ρ => (fs ρ).bind fun ws ρ1 => match datas ws with
  | some ds => if ds.length ≤ 1000000 then .ok (.d (.tuple ds)) ρ1 else .bad
  | none => .bad
def fLst (fs : Rho → R (List W)) : Rho → R W := fun ρ => (fs ρ).bind fun ws ρ1 => match datas ws with
  | some ds => if ds.length ≤ 1000000 then .ok (.d (.list ds)) ρ1 else .bad
  | none => .bad
theorem fe_tup {es : List Expr} {x1} {pos : Pos} {fs : Rho → R (List W)} (hs : FA X g es fs) : FE X g (.Tuple es x1 pos) (fTup fs) := by
  refine PE.imp (pe_tup hs) ?_
  rintro σ H Q ⟨F, ρ, r, h⟩
  refine ⟨F, ρ, r, ?_⟩
  unfold fTup at h
  cases e1 : fs ρ with
  | bad => rw [e1] at h; exact h
  | exc c ρ' => rw [e1] at h; exact h
  | ok ws ρ1 =>
    rw [e1] at h
    simp only [R.bind_ok] at h
    intro vs H1 F1 r1 s1 w1
    cases e2 : datas ws with
    | none => rw [e2] at h; exact h.elim
    | some ds =>
      rw [e2] at h
      simp only at h
      have a := datas_all w1 e2
      by_cases hl : ds.length ≤ 1000000
      · rw [if_pos hl] at h
        exact ⟨by rw [a.len]; exact lim_ok hl, fun p hp => h _ _ _ (r1.ext (.new r1.sub hp)) (s1.trans (r1.frm (.new r1.sub hp))) (mkT r1.sub hp a)⟩
      · rw [if_neg hl] at h
        exact h.elim
theorem fe_lst {es : List Expr} {pos : Pos} {fs : Rho → R (List W)} (hs : FA X g es fs) : FE X g (.List es pos) (fLst fs) := by
  refine PE.imp (pe_lst hs) ?_
  rintro σ H Q ⟨F, ρ, r, h⟩
  refine ⟨F, ρ, r, ?_⟩
  unfold fLst at h
  cases e1 : fs ρ with
  | bad => rw [e1] at h; exact h
  | exc c ρ' => rw [e1] at h; exact h
  | ok ws ρ1 =>
    rw [e1] at h
    simp only [R.bind_ok] at h
    intro vs H1 F1 r1 s1 w1
    cases e2 : datas ws with
    | none => rw [e2] at h; exact h.elim
    | some ds =>
      rw [e2] at h
      simp only at h
      have a := datas_all w1 e2
      by_cases hl : ds.length ≤ 1000000
      · rw [if_pos hl] at h
        exact ⟨by rw [a.len]; exact lim_ok hl, fun p hp => h _ _ _ (r1.ext (.new r1.sub hp)) (s1.trans (r1.frm (.new r1.sub hp))) (mkL r1.sub hp a)⟩
      · rw [if_neg hl] at h
        exact h.elim
/-! ### and, or, not, if .. else -/
def fAnd (fa fb : Rho → R W) : Rho → R W := fun ρ => (fa ρ).bind fun w ρ1 => match w with
  | .d (.bool true) => fb ρ1
  | .d (.bool false) => .ok (.d (.bool false)) ρ1
  | _ => .bad
def fOr (fa fb : Rho → R W) : Rho → R W := fun ρ => (fa ρ).bind fun w ρ1 => match w with
  | .d (.bool false) => fb ρ1
  | .d (.bool true) => .ok (.d (.bool true)) ρ1
  | _ => .bad
def fNot (fa : Rho → R W) : Rho → R W := fun ρ => (fa ρ).bind fun w ρ1 => match w with
  | .d (.bool b) => .ok (.d (.bool (!b))) ρ1
  | _ => .bad
def tfAnd (fa fb : Rho → R Bool) : Rho → R Bool := fun ρ => (fa ρ).bind fun b ρ1 => match b with
  | true => fb ρ1
  | false => .ok false ρ1
def tfOr (fa fb : Rho → R Bool) : Rho → R Bool := fun ρ => (fa ρ).bind fun b ρ1 => match b with
  | false => fb ρ1
  | true => .ok true ρ1
def tfNot (fa : Rho → R Bool) : Rho → R Bool := fun ρ => (fa ρ).bind fun b ρ1 => .ok (!b) ρ1
def fIf (fc : Rho → R Bool) (fa fb : Rho → R W) : Rho → R W := fun ρ => (fc ρ).bind fun b ρ1 => match b with
  | true => fa ρ1
  | false => fb ρ1
/-- weaken a reading by a later frozen part -/
theorem tOf_from {f : Rho → R W} {σ : L2.St} {H H0 F0 F : Hp} {ρ ρ0 : Rho} {Q : VK} (r : Rel g F ρ σ H) (s0 : Frm σ F0 H0 ρ0 F H ρ)
    (h : match f ρ with
      | .ok w ρ' => ∀ v H' F', Rel g F' ρ' σ H' → Frm σ F0 H0 ρ0 F' H' ρ' → WRel g F' σ v w → Q v H'
      | .exc c ρ' => ∀ H' F', Rel g F' ρ' σ H' → g.W (.ref (g.cls c)) none σ H'
      | .bad => False) : tOf g f σ H Q := by
  refine ⟨F, ρ, r, ?_⟩
  cases e : f ρ with
  | bad => rw [e] at h; exact h
  | exc c ρ' => rw [e] at h; exact h
  | ok w ρ' => rw [e] at h; exact fun v H' F' r' s' => h v H' F' r' (s0.trans s')
theorem ttOf_from {f : Rho → R Bool} {σ : L2.St} {H H0 F0 F : Hp} {ρ ρ0 : Rho} {Q : Bool → Hp → Prop} (r : Rel g F ρ σ H) (s0 : Frm σ F0 H0 ρ0 F H ρ)
    (h : match f ρ with
      | .ok w ρ' => ∀ H' F', Rel g F' ρ' σ H' → Frm σ F0 H0 ρ0 F' H' ρ' → Q w H'
      | .exc c ρ' => ∀ H' F', Rel g F' ρ' σ H' → g.W (.ref (g.cls c)) none σ H'
      | .bad => False) : ttOf g f σ H Q := by
  refine ⟨F, ρ, r, ?_⟩
  cases e : f ρ with
  | bad => rw [e] at h; exact h
  | exc c ρ' => rw [e] at h; exact h
  | ok w ρ' => rw [e] at h; exact fun H' F' r' s' => h H' F' r' (s0.trans s')
theorem fe_and_imp {fa fb : Rho → R W} (σ : L2.St) (H : Hp) (Q : VK) (h : tOf g (fAnd fa fb) σ H Q) : tAndV (tOf g fa) (tOf g fb) σ H Q := by
  obtain ⟨F, ρ, r, h⟩ := h
  refine ⟨F, ρ, r, ?_⟩
  unfold fAnd at h
  cases e1 : fa ρ with
  | bad => rw [e1] at h; exact h
  | exc c ρ' => rw [e1] at h; exact h
  | ok w ρ1 =>
    rw [e1] at h
    simp only [R.bind_ok] at h
    intro v H1 F1 r1 s1 w1
    cases w with
    | own i => exact h.elim
    | d x =>
      cases x with
      | bool b =>
        cases w1
        refine ⟨b, rfl, ?_⟩
        cases b with
        | true => exact tOf_from r1 s1 h
        | false => exact h _ H1 F1 r1 s1 (.bl _)
      | none => exact h.elim
      | int _ => exact h.elim
      | str _ => exact h.elim
      | list _ => exact h.elim
      | tuple _ => exact h.elim
      | dict _ => exact h.elim
theorem fe_or_imp {fa fb : Rho → R W} (σ : L2.St) (H : Hp) (Q : VK) (h : tOf g (fOr fa fb) σ H Q) : tOrV (tOf g fa) (tOf g fb) σ H Q := by
  obtain ⟨F, ρ, r, h⟩ := h
  refine ⟨F, ρ, r, ?_⟩
  unfold fOr at h
  cases e1 : fa ρ with
  | bad => rw [e1] at h; exact h
  | exc c ρ' => rw [e1] at h; exact h
  | ok w ρ1 =>
    rw [e1] at h
    simp only [R.bind_ok] at h
    intro v H1 F1 r1 s1 w1
    cases w with
    | own i => exact h.elim
    | d x =>
      cases x with
      | bool b =>
        cases w1
        refine ⟨b, rfl, ?_⟩
        cases b with
        | true => exact h _ H1 F1 r1 s1 (.bl _)
        | false => exact tOf_from r1 s1 h
      | none => exact h.elim
      | int _ => exact h.elim
      | str _ => exact h.elim
      | list _ => exact h.elim
      | tuple _ => exact h.elim
      | dict _ => exact h.elim
variable {a b c : Expr} {rest : List Expr} {pos : Pos}
theorem fe_and {fa fb : Rho → R W} (ha : FE X g a fa) (hb : FE X g (.BoolOp .And (b :: rest) pos) fb) : FE X g (.BoolOp .And (a :: b :: rest) pos) (fAnd fa fb) := PE.imp (pe_and ha hb) fe_and_imp
theorem fe_or {fa fb : Rho → R W} (ha : FE X g a fa) (hb : FE X g (.BoolOp .Or (b :: rest) pos) fb) : FE X g (.BoolOp .Or (a :: b :: rest) pos) (fOr fa fb) := PE.imp (pe_or ha hb) fe_or_imp
theorem fe_one {op} {fa : Rho → R W} (ha : FE X g a fa) : FE X g (.BoolOp op [a] pos) fa := pe_one ha
theorem fe_not {fa : Rho → R W} (ha : FE X g a fa) : FE X g (.UnaryOp .Not a pos) (fNot fa) := by
  refine PE.imp (pe_not ha) ?_
  rintro σ H Q ⟨F, ρ, r, h⟩
  refine ⟨F, ρ, r, ?_⟩
  unfold fNot at h
  cases e1 : fa ρ with
  | bad => rw [e1] at h; exact h
  | exc c ρ' => rw [e1] at h; exact h
  | ok w ρ1 =>
    rw [e1] at h
    simp only [R.bind_ok] at h
    intro v H1 F1 r1 s1 w1
    cases w with
    | own i => exact h.elim
    | d x =>
      cases x with
      | bool b =>
        cases w1
        exact ⟨b, rfl, h _ H1 F1 r1 s1 (.bl _)⟩
      | none => exact h.elim
      | int _ => exact h.elim
      | str _ => exact h.elim
      | list _ => exact h.elim
      | tuple _ => exact h.elim
      | dict _ => exact h.elim
abbrev FW (X : Cx) (g : G) (e : Expr) (f : Rho → R Bool) : Prop := PW X e (ttOf g f)
theorem PW.imp {X : Cx} {e : Expr} {t t' : TT} (h : PW X e t) (k : ∀ σ H Q, t' σ H Q → t σ H Q) : PW X e t' :=
  ⟨fun wh pins s σ H Q I q => h.run wh pins s σ H Q I (k σ H Q q)⟩
theorem fw_and1 {fa : Rho → R Bool} (ha : FT X g a fa) : FW X g (.BoolOp .And [a] pos) fa := pw_and1 ha
theorem fw_or1 {fa : Rho → R Bool} (ha : FT X g a fa) : FW X g (.BoolOp .Or [a] pos) fa := pw_or1 ha
theorem fw_and {fa fb : Rho → R Bool} (ha : FT X g a fa) (hb : FW X g (.BoolOp .And (b :: rest) pos) fb) : FW X g (.BoolOp .And (a :: b :: rest) pos) (tfAnd fa fb) := by
  refine PW.imp (pw_and ha hb) ?_
  rintro σ H Q ⟨F, ρ, r, h⟩
  refine ⟨F, ρ, r, ?_⟩
  unfold tfAnd at h
  cases e1 : fa ρ with
  | bad => rw [e1] at h; exact h
  | exc c ρ' => rw [e1] at h; exact h
  | ok w ρ1 =>
    rw [e1] at h
    simp only [R.bind_ok] at h
    intro H1 F1 r1 s1
    cases w with
    | true => exact ttOf_from r1 s1 h
    | false => exact h H1 F1 r1 s1
theorem fw_or {fa fb : Rho → R Bool} (ha : FT X g a fa) (hb : FW X g (.BoolOp .Or (b :: rest) pos) fb) : FW X g (.BoolOp .Or (a :: b :: rest) pos) (tfOr fa fb) := by
  refine PW.imp (pw_or ha hb) ?_
  rintro σ H Q ⟨F, ρ, r, h⟩
  refine ⟨F, ρ, r, ?_⟩
  unfold tfOr at h
  cases e1 : fa ρ with
  | bad => rw [e1] at h; exact h
  | exc c ρ' => rw [e1] at h; exact h
  | ok w ρ1 =>
    rw [e1] at h
    simp only [R.bind_ok] at h
    intro H1 F1 r1 s1
    cases w with
    | true => exact h H1 F1 r1 s1
    | false => exact ttOf_from r1 s1 h
theorem ft_not {fa : Rho → R Bool} (ha : FT X g a fa) : FT X g (.UnaryOp .Not a pos) (tfNot fa) := by
  refine PT.imp (pt_not ha) ?_
  rintro σ H Q ⟨F, ρ, r, h⟩
  refine ⟨F, ρ, r, ?_⟩
  unfold tfNot at h
  cases e1 : fa ρ with
  | bad => rw [e1] at h; exact h
  | exc c ρ' => rw [e1] at h; exact h
  | ok w ρ1 => rw [e1] at h; exact h
theorem fe_if {fc : Rho → R Bool} {fa fb : Rho → R W} (hc : FT X g c fc) (ha : FE X g a fa) (hb : FE X g b fb) : FE X g (.IfExp c a b pos) (fIf fc fa fb) := by
  refine PE.imp (pe_ifExp hc ha hb) ?_
  rintro σ H Q ⟨F, ρ, r, h⟩
  refine ⟨F, ρ, r, ?_⟩
  unfold fIf at h
  cases e1 : fc ρ with
  | bad => rw [e1] at h; exact h
  | exc c ρ' => rw [e1] at h; exact h
  | ok w ρ1 =>
    rw [e1] at h
    simp only [R.bind_ok] at h
    intro H1 F1 r1 s1
    cases w with
    | true => exact tOf_from r1 s1 h
    | false => exact tOf_from r1 s1 h
/-! ### a < b < c -/
def fChain (o o' : D → D → Option D) (fa fb fc : Rho → R W) : Rho → R W := fun ρ => (fa ρ).bind fun w ρ1 => (fb ρ1).bind fun u ρ2 =>
  match look ρ2 w, look ρ2 u with
  | some x, some y => (match o x y with
    | some (.bool true) => (fc ρ2).bind fun t ρ3 => (match look ρ3 u, look ρ3 t with
      | some y', some z => (match o' y' z with
        | some r => .ok (.d r) ρ3
        | none => .bad)
      | _, _ => .bad)
    | some (.bool false) => .ok (.d (.bool false)) ρ2
    | _ => .bad)
  | _, _ => .bad
theorem chain_imp {o o' : D → D → Option D} {fa fb fc : Rho → R W} (σ : L2.St) (H : Hp) (Q : VK) (h : tOf g (fChain o o' fa fb fc) σ H Q) : tChain (rD o) (rD o') (tOf g fa) (tOf g fb) (tOf g fc) σ H Q := by
  obtain ⟨F, ρ, r, h⟩ := h
  refine ⟨F, ρ, r, ?_⟩
  unfold fChain at h
  cases e1 : fa ρ with
  | bad => rw [e1] at h; exact h
  | exc c ρ' => rw [e1] at h; exact h
  | ok w ρ1 =>
    rw [e1] at h
    simp only [R.bind_ok] at h
    intro v1 H1 F1 r1 s1 w1
    refine ⟨F1, ρ1, r1, ?_⟩
    cases e2 : fb ρ1 with
    | bad => rw [e2] at h; exact h
    | exc c ρ' => rw [e2] at h; exact h
    | ok u ρ2 =>
      rw [e2] at h
      simp only [R.bind_ok] at h
      intro v2 H2 F2 r2 s2 w2
      cases e3 : look ρ2 w with
      | none => rw [e3] at h; exact h.elim
      | some x =>
        cases e4 : look ρ2 u with
        | none => rw [e3, e4] at h; exact h.elim
        | some y =>
          rw [e3, e4] at h
          simp only at h
          cases e5 : o x y with
          | none => rw [e5] at h; exact h.elim
          | some z =>
            rw [e5] at h
            refine ⟨F2, x, y, z, r2.sub, r2.look (w1.mono s2.f) e3, r2.look w2 e4, e5, fun v F' H' xt q => ?_⟩
            cases z with
            | bool b =>
              cases q
              refine ⟨b, rfl, ?_⟩
              have r3 := r2.ext xt
              cases b with
              | false => exact h _ H' F' r3 ((s1.trans s2).trans (r2.frm xt)) (.bl _)
              | true =>
                simp only at h
                rw [if_pos rfl]
                refine ⟨F', ρ2, r3, ?_⟩
                cases e6 : fc ρ2 with
                | bad => rw [e6] at h; exact h
                | exc c ρ' => rw [e6] at h; exact h
                | ok t ρ3 =>
                  rw [e6] at h
                  simp only [R.bind_ok] at h
                  intro v3 H3 F3 r4 s4 w4
                  cases e7 : look ρ3 u with
                  | none => rw [e7] at h; exact h.elim
                  | some y' =>
                    cases e8 : look ρ3 t with
                    | none => rw [e7, e8] at h; exact h.elim
                    | some z' =>
                      rw [e7, e8] at h
                      simp only at h
                      cases e9 : o' y' z' with
                      | none => rw [e9] at h; exact h.elim
                      | some rr =>
                        rw [e9] at h
                        exact ⟨F3, y', z', rr, r4.sub, r4.look ((w2.mono xt.f).mono s4.f) e7, r4.look w4 e8, e9, fun v' F'' H'' xt' q' => h v' H'' F'' (r4.ext xt') ((((s1.trans s2).trans (r2.frm xt)).trans s4).trans (r4.frm xt')) q'⟩
            | none => exact h.elim
            | int _ => exact h.elim
            | str _ => exact h.elim
            | list _ => exact h.elim
            | tuple _ => exact h.elim
            | dict _ => exact h.elim
theorem fe_chain {op op' : CmpOp} {o o' : D → D → Option D} {fa fb fc : Rho → R W} (ho : OpD X (compareOp op) o) (ho' : OpD X (compareOp op') o') (ha : FE X g a fa) (hb : FE X g b fb) (hc : FE X g c fc) (hm : lastMarks [op, op'] [b, c] = false) :
    FE X g (.Compare a [op, op'] [b, c] pos) (fChain o o' fa fb fc) := PE.imp (pe_chain ho ho' ha hb hc hm) chain_imp
theorem ft_chain {op op' : CmpOp} {o o' : D → D → Option D} {fa fb fc : Rho → R W} (ho : OpD X (compareOp op) o) (ho' : OpD X (compareOp op') o') (ha : FE X g a fa) (hb : FE X g b fb) (hc : FE X g c fc) (hm : lastMarks [op, op'] [b, c] = false) :
    FT X g (.Compare a [op, op'] [b, c] pos) (asB (fChain o o' fa fb fc)) := PT.imp (pt_chain ho ho' ha hb hc hm) (ttest_imp chain_imp)
/-! ### -a -/
def fNeg (fa : Rho → R W) : Rho → R W := fun ρ => (fa ρ).bind fun w ρ1 => match w with
  | .d (.int i) => .ok (.d (.int (-i))) ρ1
  | _ => .bad
theorem fe_neg {fa : Rho → R W} (ha : FE X g a fa) : FE X g (.UnaryOp .USub a pos) (fNeg fa) := by
  refine PE.imp (pe_un un_neg ha) ?_
  rintro σ H Q ⟨F, ρ, r, h⟩
  refine ⟨F, ρ, r, ?_⟩
  unfold fNeg at h
  cases e1 : fa ρ with
  | bad => rw [e1] at h; exact h
  | exc c ρ' => rw [e1] at h; exact h
  | ok w ρ1 =>
    rw [e1] at h
    simp only [R.bind_ok] at h
    intro v H1 F1 r1 s1 w1
    cases w with
    | own i => exact h.elim
    | d x =>
      cases x with
      | int b =>
        cases w1
        exact ⟨b, rfl, h _ H1 F1 r1 s1 (.int _)⟩
      | none => exact h.elim
      | bool _ => exact h.elim
      | str _ => exact h.elim
      | list _ => exact h.elim
      | tuple _ => exact h.elim
      | dict _ => exact h.elim
end
end FL

namespace FL
open PySem L2 PyProof.Rows

/-! ### equality of data -/
mutual
def deq : D → D → Bool
  | .none, .none => true
  | .bool a, .bool b => a == b
  | .int a, .int b => a == b
  | .str a, .str b => a == b
  | .list xs, .list ys => deqAll xs ys
  | .tuple xs, .tuple ys => deqAll xs ys
  | _, _ => false
def deqAll : List D → List D → Bool
  | [], [] => true
  | x :: xs, y :: ys => deq x y && deqAll xs ys
  | _, _ => false
end
mutual
theorem deq_eq : ∀ (x y : D), deq x y = true → x = y
  | .none, y, h => by cases y <;> simp [deq] at h <;> rfl
  | .bool a, y, h => by cases y <;> simp [deq] at h; rw [h]
  | .int a, y, h => by cases y <;> simp [deq] at h; rw [h]
  | .str a, y, h => by cases y <;> simp [deq] at h; rw [h]
  | .list xs, y, h => by
    cases y with
    | list ys => rw [deqAll_eq xs ys (by simpa [deq] using h)]
    | _ => simp [deq] at h
  | .tuple xs, y, h => by
    cases y with
    | tuple ys => rw [deqAll_eq xs ys (by simpa [deq] using h)]
    | _ => simp [deq] at h
  | .dict _, y, h => by cases y <;> simp [deq] at h
theorem deqAll_eq : ∀ (xs ys : List D), deqAll xs ys = true → xs = ys
  | [], [], _ => rfl
  | [], _ :: _, h => by simp [deqAll] at h
  | _ :: _, [], h => by simp [deqAll] at h
  | x :: xs, y :: ys, h => by
    rw [deqAll, Bool.and_eq_true] at h
    rw [deq_eq x y h.1, deqAll_eq xs ys h.2]
end

/-! ### slots changed -/
theorem get_set {α : Type} {l : List (Option α)} {i j : Nat} {o : Option α} {s : α} (h : (l.set i o)[j]? = some (some s)) : (j = i ∧ o = some s ∧ i < l.length) ∨ (j ≠ i ∧ l[j]? = some (some s)) := by
  by_cases e : j = i
  · subst e
    by_cases hl : j < l.length
    · rw [List.getElem?_set_self hl] at h
      exact .inl ⟨rfl, Option.some.inj h, hl⟩
    · rw [List.getElem?_eq_none (by simpa using hl)] at h
      cases h
  · rw [List.getElem?_set_ne (Ne.symm e)] at h
    exact .inr ⟨e, h⟩
section
variable {g : G} {F H : Hp} {ρ : Rho} {σ : L2.St}
theorem Rel.setD (r : Rel g F ρ σ H) {i : Nat} {x : D} {v : V} (hp : ∀ p ∈ g.P, p.1 ≠ i) (d : Dv F v x) : Rel g F (ρ.set i (some (.d x))) (σ.set i (some v)) H where
  sub := r.sub
  len := by simpa using r.len
  slot := fun j s e => by
    rcases get_set e with ⟨rfl, e', hl⟩ | ⟨ne, e'⟩
    · cases e'
      exact ⟨v, List.getElem?_set_self (by rw [← r.len]; exact hl), d⟩
    · obtain ⟨u, h1, h2⟩ := r.slot j s e'
      exact ⟨u, by rw [List.getElem?_set_ne (Ne.symm ne)]; exact h1, h2⟩
  sep := fun j k s t w u a ne e1 e2 e3 e4 h1 h2 => by
    rcases get_set e1 with ⟨rfl, e', hl⟩ | ⟨n1, e1'⟩
    · cases e'
      exact h1
    · rcases get_set e2 with ⟨rfl, e', hl⟩ | ⟨n2, e2'⟩
      · cases e'
        exact h2
      · rw [List.getElem?_set_ne (Ne.symm n1)] at e3
        rw [List.getElem?_set_ne (Ne.symm n2)] at e4
        exact r.sep j k s t w u a ne e1' e2' e3 e4 h1 h2
  pin := fun p hp' => by
    obtain ⟨s, h1, h2, h3⟩ := r.pin p hp'
    exact ⟨s, by rw [List.getElem?_set_ne (Ne.symm (hp p hp'))]; exact h1, h2, by rw [List.getElem?_set_ne (Ne.symm (hp p hp'))]; exact h3⟩
  new := fun j s w a e1 e2 h => by
    rcases get_set e1 with ⟨rfl, e', hl⟩ | ⟨n1, e1'⟩
    · cases e'
      exact h.elim
    · rw [List.getElem?_set_ne (Ne.symm n1)] at e2
      exact r.new j s w a e1' e2 h
  e1 := r.e1
  e2 := r.e2
  e3 := r.e3
  e4 := r.e4
/-- a slot is forgotten -/
theorem Rel.setN (r : Rel g F ρ σ H) {i : Nat} (hp : ∀ p ∈ g.P, p.1 ≠ i) : Rel g F (ρ.set i none) (σ.set i none) H where
  sub := r.sub
  len := by simpa using r.len
  slot := fun j s e => by
    rcases get_set e with ⟨rfl, e', hl⟩ | ⟨ne, e'⟩
    · cases e'
    · obtain ⟨u, h1, h2⟩ := r.slot j s e'
      exact ⟨u, by rw [List.getElem?_set_ne (Ne.symm ne)]; exact h1, h2⟩
  sep := fun j k s t w u a ne e1 e2 e3 e4 h1 h2 => by
    rcases get_set e1 with ⟨rfl, e', hl⟩ | ⟨n1, e1'⟩
    · cases e'
    · rcases get_set e2 with ⟨rfl, e', hl⟩ | ⟨n2, e2'⟩
      · cases e'
      · rw [List.getElem?_set_ne (Ne.symm n1)] at e3
        rw [List.getElem?_set_ne (Ne.symm n2)] at e4
        exact r.sep j k s t w u a ne e1' e2' e3 e4 h1 h2
  pin := fun p hp' => by
    obtain ⟨s, h1, h2, h3⟩ := r.pin p hp'
    exact ⟨s, by rw [List.getElem?_set_ne (Ne.symm (hp p hp'))]; exact h1, h2, by rw [List.getElem?_set_ne (Ne.symm (hp p hp'))]; exact h3⟩
  new := fun j s w a e1 e2 h => by
    rcases get_set e1 with ⟨rfl, e', hl⟩ | ⟨n1, e1'⟩
    · cases e'
    · rw [List.getElem?_set_ne (Ne.symm n1)] at e2
      exact r.new j s w a e1' e2 h
  e1 := r.e1
  e2 := r.e2
  e3 := r.e3
  e4 := r.e4
/-- a new own list -/
theorem Rel.setOwn (r : Rel g F ρ σ H) {i : Nat} {xs : List D} {vs : List V} {a : Addr} (hp : ∀ p ∈ g.P, p.1 ≠ i) (ha : H a = some (.lst vs)) (hf : F a = none) (d : DvAll F vs xs) (h0 : g.H0 a = none) (hn : ¬ Owned ρ σ H a) :
    Rel g F (ρ.set i (some (.l xs))) (σ.set i (some (.ref a))) H where
  sub := r.sub
  len := by simpa using r.len
  slot := fun j s e => by
    rcases get_set e with ⟨rfl, e', hl⟩ | ⟨ne, e'⟩
    · cases e'
      exact ⟨.ref a, List.getElem?_set_self (by rw [← r.len]; exact hl), a, vs, rfl, ha, hf, d⟩
    · obtain ⟨u, h1, h2⟩ := r.slot j s e'
      exact ⟨u, by rw [List.getElem?_set_ne (Ne.symm ne)]; exact h1, h2⟩
  sep := fun j k s t w u b ne e1 e2 e3 e4 h1 h2 => by
    rcases get_set e1 with ⟨rfl, e', hl⟩ | ⟨n1, e1'⟩
    · cases e'
      rw [List.getElem?_set_self (by rw [← r.len]; exact hl)] at e3
      cases e3
      have h1' : V.ref a = V.ref b := h1
      cases h1'
      rcases get_set e2 with ⟨z, _⟩ | ⟨n2, e2'⟩
      · exact ne z.symm
      · rw [List.getElem?_set_ne (Ne.symm n2)] at e4
        exact hn ⟨k, t, u, e2', e4, h2⟩
    · rw [List.getElem?_set_ne (Ne.symm n1)] at e3
      rcases get_set e2 with ⟨rfl, e', hl⟩ | ⟨n2, e2'⟩
      · cases e'
        rw [List.getElem?_set_self (by rw [← r.len]; exact hl)] at e4
        cases e4
        have h2' : V.ref a = V.ref b := h2
        cases h2'
        exact hn ⟨j, s, w, e1', e3, h1⟩
      · rw [List.getElem?_set_ne (Ne.symm n2)] at e4
        exact r.sep j k s t w u b ne e1' e2' e3 e4 h1 h2
  pin := fun p hp' => by
    obtain ⟨s, h1, h2, h3⟩ := r.pin p hp'
    exact ⟨s, by rw [List.getElem?_set_ne (Ne.symm (hp p hp'))]; exact h1, h2, by rw [List.getElem?_set_ne (Ne.symm (hp p hp'))]; exact h3⟩
  new := fun j s w b e1 e2 h => by
    rcases get_set e1 with ⟨rfl, e', hl⟩ | ⟨n1, e1'⟩
    · cases e'
      rw [List.getElem?_set_self (by rw [← r.len]; exact hl)] at e2
      cases e2
      have h' : V.ref a = V.ref b := h
      cases h'
      exact .inl h0
    · rw [List.getElem?_set_ne (Ne.symm n1)] at e2
      exact r.new j s w b e1' e2 h
  e1 := r.e1
  e2 := r.e2
  e3 := r.e3
  e4 := r.e4
/-- an own list becomes data -/
theorem Rel.freeze (r : Rel g F ρ σ H) {i : Nat} {xs : List D} (hp : ∀ p ∈ g.P, p.1 ≠ i) (e : ρ[i]? = some (some (.l xs))) :
    ∃ F' v, σ[i]? = some (some v) ∧ Rel g F' (ρ.set i (some (.d (.list xs)))) σ H ∧ Sub F F' ∧ Dv F' v (.list xs) := by
  obtain ⟨v, h1, a, vs, rfl, h2, h3, h4⟩ := r.slot i _ e
  have hs : Sub F (upd F a (.lst vs)) := sub_upd h3
  have dl : Dv (upd F a (.lst vs)) (.ref a) (.list xs) := .lst (.inl upd_same) (dvAll_mono hs h4)
  have ei : i < ρ.length := (List.getElem?_eq_some_iff.mp e).1
  have h0 : g.H0 a = none := by
    rcases r.new i _ _ a e h1 rfl with h | ⟨_, p, hp', hi⟩
    · exact h
    · exact absurd hi (hp p hp')
  refine ⟨_, _, h1, ⟨fun b o q => ?_, by simpa using r.len, fun j s q => ?_, fun j k s t w u b ne e1 e2 e3 e4 q1 q2 => ?_, fun p hp' => ?_, fun j s w b e1 e2 q => ?_, r.e1.trans hs, r.e2, fun b o q1 q2 => ?_, r.e4⟩, hs, dl⟩
  · by_cases hb : b = a
    · subst hb
      rw [upd_same] at q
      cases q
      exact h2
    · rw [upd_ne hb] at q
      exact r.sub b o q
  · rcases get_set q with ⟨rfl, e', _⟩ | ⟨ne, e'⟩
    · cases e'
      exact ⟨_, h1, dl⟩
    · obtain ⟨u, q1, q2⟩ := r.slot j s e'
      refine ⟨u, q1, ?_⟩
      cases s with
      | d y => exact dv_mono hs q2
      | l ys =>
        obtain ⟨b, us, rfl, k1, k2, k3⟩ := q2
        refine ⟨b, us, rfl, k1, ?_, dvAll_mono hs k3⟩
        rw [upd_ne]
        · exact k2
        · rintro rfl
          exact r.sep i j _ _ _ _ b (Ne.symm ne) e e' h1 q1 rfl rfl
      | m _ =>
        obtain ⟨b, us, rfl, k1, k2, k4, k3⟩ := q2
        refine ⟨b, us, rfl, k1, ?_, k4, k3.mono hs⟩
        rw [upd_ne]
        · exact k2
        · rintro rfl
          exact r.sep i j _ _ _ _ b (Ne.symm ne) e e' h1 q1 rfl rfl
      | t _ _ _ => exact q2
      | e _ => exact q2
      | z _ =>
        obtain ⟨b, e, k⟩ := q2
        exact ⟨b, e, hs.sqL k⟩
  · rcases get_set e1 with ⟨rfl, e', _⟩ | ⟨n1, e1'⟩
    · cases e'
      exact q1
    · rcases get_set e2 with ⟨rfl, e', _⟩ | ⟨n2, e2'⟩
      · cases e'
        exact q2
      · exact r.sep j k s t w u b ne e1' e2' e3 e4 q1 q2
  · obtain ⟨s, q1, q2, q3⟩ := r.pin p hp'
    exact ⟨s, by rw [List.getElem?_set_ne (Ne.symm (hp p hp'))]; exact q1, q2, q3⟩
  · rcases get_set e1 with ⟨rfl, e', _⟩ | ⟨n1, e1'⟩
    · cases e'
      exact q.elim
    · exact r.new j s w b e1' e2 q
  · have hb : b ≠ a := fun z => by rw [z, h0] at q1; cases q1
    rw [upd_ne hb]
    exact r.e3 b o q1 q2
/-- an own thing of one object -/
def S.solo : S → Bool
  | .l _ => true
  | .m _ => true
  | _ => false
theorem solo_own {s : S} (h : s.solo = true) : s.own = true := by cases s <;> first | rfl | cases h
theorem solo_addr {z : Z} {F H : Hp} {v : V} {s : S} (h : s.solo = true) (r : SRel z F H v s) : ∃ a, v = .ref a ∧ F a = none ∧ ∀ b, ownA H v s b ↔ b = a := by
  cases s with
  | l _ =>
    obtain ⟨a, _, rfl, _, f, _⟩ := r
    exact ⟨a, rfl, f, fun b => ⟨fun q => (V.ref.inj q).symm, fun q => by rw [q]; rfl⟩⟩
  | m _ =>
    obtain ⟨a, _, rfl, _, f, _⟩ := r
    exact ⟨a, rfl, f, fun b => ⟨fun q => (V.ref.inj q).symm, fun q => by rw [q]; rfl⟩⟩
  | _ => cases h
/-- an own thing of one object is changed -/
theorem Rel.mutG (r : Rel g F ρ σ H) {i : Nat} {s s' : S} {o : HO} {a : Addr} (e : ρ[i]? = some (some s)) (so : s.solo = true) (so' : s'.solo = true) (hs : σ[i]? = some (some (.ref a))) (d : SRel g.toZ F (upd H a o) (.ref a) s') :
    Rel g F (ρ.set i (some s')) σ (upd H a o) := by
  obtain ⟨v, h1, h2⟩ := r.slot i _ e
  rw [hs] at h1
  cases h1
  obtain ⟨a', ea, h3, ow⟩ := solo_addr so h2
  cases ea
  have ow' : ∀ b, ownA (upd H a o) (.ref a) s' b → b = a := fun b q => by
    obtain ⟨a2, e2, _, z⟩ := solo_addr so' d
    cases e2
    exact (z b).mp q
  have ei : i < ρ.length := (List.getElem?_eq_some_iff.mp e).1
  have oth : ∀ {j s u b}, j ≠ i → ρ[j]? = some (some s) → σ[j]? = some (some u) → ownA H u s b → b ≠ a := fun {j s u b} ne e1 e2 q z => by
    subst z
    exact r.sep i j _ _ _ _ b (Ne.symm ne) e e1 hs e2 ((ow b).mpr rfl) q
  have own_eq : ∀ {j s u b}, ρ[j]? = some (some s) → σ[j]? = some (some u) → ownA (upd H a o) u s b → ownA H u s b := fun {j s u b} e1 e2 q => by
    cases s with
    | d _ => exact q
    | e _ => exact q
    | z _ => exact q
    | l _ => exact q
    | m _ => exact q
    | t _ _ _ =>
      obtain ⟨_, _, z⟩ := r.slot j _ e1
      exact z.elim
  refine ⟨fun b o' q => ?_, by simpa using r.len, fun j s q => ?_, fun j k s t w u b ne e1 e2 e3 e4 q1 q2 => ?_, fun p hp' => ?_, fun j s w b e1 e2 q => ?_, r.e1, fun b o' q n => ?_, r.e3, fun b o' q => ?_⟩
  · rw [upd_ne (fun z => by subst z; rw [h3] at q; cases q)]
    exact r.sub b o' q
  · rcases get_set q with ⟨rfl, e', _⟩ | ⟨ne, e'⟩
    · cases e'
      exact ⟨_, hs, d⟩
    · obtain ⟨u, q1, q2⟩ := r.slot j s e'
      refine ⟨u, q1, ?_⟩
      cases s with
      | d y => exact q2
      | l zs =>
        obtain ⟨b, ws, rfl, k1, k2, k3⟩ := q2
        exact ⟨b, ws, rfl, by rw [upd_ne (oth ne e' q1 rfl)]; exact k1, k2, k3⟩
      | m _ =>
        obtain ⟨b, ws, rfl, k1, k2, k4, k3⟩ := q2
        exact ⟨b, ws, rfl, by rw [upd_ne (oth ne e' q1 rfl)]; exact k1, k2, k4, k3⟩
      | t _ _ _ => exact q2
      | e _ => exact q2
      | z _ => exact q2
  · have conv : ∀ {j s u b}, (ρ.set i (some s'))[j]? = some (some s) → σ[j]? = some (some u) → ownA (upd H a o) u s b → ∃ s', ρ[j]? = some (some s') ∧ ownA H u s' b := fun {j s u b} e1 e2 q => by
      rcases get_set e1 with ⟨rfl, e', _⟩ | ⟨n1, e1'⟩
      · cases e'
        rw [hs] at e2
        cases e2
        exact ⟨_, e, (ow b).mpr (ow' b q)⟩
      · exact ⟨_, e1', own_eq e1' e2 q⟩
    obtain ⟨s', m1, m2⟩ := conv e1 e3 q1
    obtain ⟨t', m3, m4⟩ := conv e2 e4 q2
    exact r.sep j k s' t' w u b ne m1 m3 e3 e4 m2 m4
  · obtain ⟨s, q1, q2, q3⟩ := r.pin p hp'
    by_cases hpi : p.1 = i
    · exact ⟨s', by rw [hpi]; exact List.getElem?_set_self ei, solo_own so', q3⟩
    · exact ⟨s, by rw [List.getElem?_set_ne (Ne.symm hpi)]; exact q1, q2, q3⟩
  · rcases get_set e1 with ⟨rfl, e', _⟩ | ⟨n1, e1'⟩
    · cases e'
      rw [hs] at e2
      cases e2
      exact r.new j _ _ b e hs ((ow b).mpr (ow' b q))
    · exact r.new j s w b e1' e2 (own_eq e1' e2 q)
  · by_cases hb : b = a
    · subst hb
      rcases r.new i _ _ b e hs ((ow b).mpr rfl) with z | ⟨z, _⟩
      · rw [z] at q; cases q
      · exact absurd ⟨i, z⟩ n
    · rw [upd_ne hb]
      exact r.e2 b o' q n
  · by_cases hb : b = a
    · subst hb
      exact ⟨_, upd_same⟩
    · rw [upd_ne hb]
      exact r.e4 b o' q
/-- an own list is changed -/
theorem Rel.mut (r : Rel g F ρ σ H) {i : Nat} {xs ys : List D} {us : List V} {a : Addr} (e : ρ[i]? = some (some (.l xs))) (hs : σ[i]? = some (some (.ref a))) (d : DvAll F us ys) :
    Rel g F (ρ.set i (some (.l ys))) σ (upd H a (.lst us)) := by
  obtain ⟨v, h1, a', vs, rfl, h2, h3, h4⟩ := r.slot i _ e
  rw [hs] at h1
  cases h1
  exact r.mutG e rfl rfl hs ⟨a, us, rfl, upd_same, h3, d⟩
end
/-! ### targets -/
inductive Tg where
  | n (i : Nat) | p (i j : Nat)
def pair? : D → Option (D × D)
  | .tuple [x, y] => some (x, y)
  | _ => none
theorem pair?_eq {x : D} {a b : D} (h : pair? x = some (a, b)) : x = .tuple [a, b] := by
  unfold pair? at h
  split at h
  · cases h; rfl
  · cases h
def Tg.set (P : List Nat) (t : Tg) (x : D) (ρ : Rho) : Option Rho := match t with
  | .n i => if P.contains i then none else some (ρ.set i (some (.d x)))
  | .p i j => match pair? x with
    | some (a, b) => if P.contains i || P.contains j then none else some ((ρ.set i (some (.d a))).set j (some (.d b)))
    | none => none
/-- the slots that a target sets -/
def Tg.has : Tg → Nat → Prop
  | .n a, i => i = a
  | .p a b, i => i = a ∨ i = b
def Tg.g (K : PySem.W.Frag) : Tg → TG
  | .n i => gName i
  | .p i j => gTup K 2 (gCons (gName i) (gCons (gName j) gNil))
def G.pins (g : G) : List Nat := g.P.map (·.1)
theorem not_pin {g : G} {i : Nat} (h : ¬ (g.pins.contains i = true)) : ∀ p ∈ g.P, p.1 ≠ i := fun p hp e => h (by
  rw [List.contains_iff_mem]
  exact List.mem_map.mpr ⟨p, hp, e⟩)
theorem tg_ok {g : G} {F H : Hp} {ρ ρ1 : Rho} {σ : L2.St} {tg : Tg} {v : V} {x : D} (r : Rel g F ρ σ H) (d : Dv F v x) (h : tg.set g.pins x ρ = some ρ1) {Q : L2.St → Hp → Prop}
    (k : ∀ σ1, Rel g F ρ1 σ1 H → (∀ i, ¬ tg.has i → σ1[i]? = σ[i]?) → σ1.length = σ.length → Q σ1 H) : tg.g g.K v σ H Q := by
  cases tg with
  | n i =>
    have h' : (if g.pins.contains i = true then none else some (ρ.set i (some (.d x)))) = some ρ1 := h
    split at h'
    · cases h'
    · rename_i hp
      cases h'
      exact k _ (r.setD (not_pin hp) d) (fun j hj => List.getElem?_set_ne (Ne.symm hj)) (by rw [List.length_set])
  | p i j =>
    cases ep : pair? x with
    | none =>
      have h' : (match pair? x with | some (a, b) => if (g.pins.contains i || g.pins.contains j) = true then none else some ((ρ.set i (some (.d a))).set j (some (.d b))) | none => none) = some ρ1 := h
      rw [ep] at h'
      cases h'
    | some ab =>
      obtain ⟨a, b⟩ := ab
      have h' : (match pair? x with | some (a, b) => if (g.pins.contains i || g.pins.contains j) = true then none else some ((ρ.set i (some (.d a))).set j (some (.d b))) | none => none) = some ρ1 := h
      rw [ep] at h'
      have ex := pair?_eq ep
      subst ex
      have h2 : (if (g.pins.contains i || g.pins.contains j) = true then none else some ((ρ.set i (some (S.d a))).set j (some (S.d b)))) = some ρ1 := h'
      split at h2
      · cases h2
      · rename_i hp
        cases h2
        rw [Bool.or_eq_true, not_or] at hp
        cases d with
        | tup hr ha =>
          cases ha with
          | cons a1 ha =>
            cases ha with
            | cons a2 ha =>
              cases ha
              refine ⟨_, _, rfl, .inl (r.sub.rd hr), rfl, _, _, rfl, _, _, rfl, rfl, ?_⟩
              refine k _ ((r.setD (not_pin hp.1) a1).setD (not_pin hp.2) a2) (fun l hl => ?_) (by rw [List.length_set, List.length_set])
              have h1 : l ≠ i := fun z => hl (.inl z)
              have h3 : l ≠ j := fun z => hl (.inr z)
              rw [List.getElem?_set_ne (Ne.symm h3), List.getElem?_set_ne (Ne.symm h1)]
end FL

/-! enumerate of a tuple -/
namespace PySem
open Sem (wp)
open AutoSeq1 (wpAny_loadPart')
theorem fl_enum_newT (l : Addr) (items : Array Value) (n : Nat) (dct : Option Addr) (sl : Array (Option Value)) :
    Meets (Builtin.«enumerate.__new__» ⟨[.type "enumerate", .ref l], []⟩) (fun _ R s => s.heap.get? l = some { cls := .type "tuple", dict := dct, data := .seq items n, slots := sl } ∧
      R (.ok (.ret (.ref (s.heap.push { cls := .type "tuple_iterator", data := .fields #[.ref l, .int 0 0] }).objs.size)))
        { s with heap := (s.heap.push { cls := .type "tuple_iterator", data := .fields #[.ref l, .int 0 0] }).push { cls := .type "enumerate", data := .fields #[.none, .bool false, .ref s.heap.objs.size, rawInt 0, .none, .none] } }) :=
  .of_wp fun prog w A R s h => by
    obtain ⟨hp, g, d, tk, os⟩ := s; obtain ⟨hl, h⟩ := h
    have hsub := sub_enumerate
    have hL : Heap.IsTuple (Shared.heap ⟨hp, g, d, tk, os⟩) l items := ⟨_, hl, rfl, n, rfl⟩
    wp_walk using wpAny_loadPart' hl
    refine wpAny_stack_any fun st => wpAny_pure ?_
    split
    · rename_i c _ _ _ _ _
      cases (c == Value.type "enumerate")
      · wp_walk using wpAny_loadPart' hl, wpAny_pyIter_tuple hL
        exact ⟨_, rfl, h⟩
      · wp_walk using wpAny_loadPart' hl, wpAny_pyIter_tuple hL
        exact ⟨_, rfl, h⟩
    · wp_walk using wpAny_loadPart' hl, wpAny_pyIter_tuple hL
      exact ⟨_, rfl, h⟩
section
variable {prog : Program} {w : World} {A : Around} {E : Value → Shared → Prop} {s : Shared}
theorem fl_enum_tuple {l : Addr} {items : Array Value} {Q : Value → Shared → Prop} (hL : s.heap.IsTuple l items)
    (h : ∀ h', IsEnum h' (s.heap.objs.size + 1) s.heap.objs.size 0 .none → h'.IsTupleIter s.heap.objs.size l 0 → h'.objs.size = s.heap.objs.size + 2 →
      (∀ b o, s.heap.get? b = some o → h'.get? b = some o) → Q (.ref (s.heap.objs.size + 1)) { s with heap := h' }) :
    wpAny (model prog w) A (call (.type "enumerate") [.ref l]) Q E s := by
  obtain ⟨⟨c, dct, dt, sl⟩, hl, hc, n, hd⟩ := hL
  replace hc : c = .type "tuple" := hc
  replace hd : dt = .seq items n := hd
  subst hc hd
  refine callType_new F.called_enumerate (by decide) (F.typeCall_enumerate_1 _) (F.newCall_enumerate_1 _) (fun obj => F.args_object_init_2 obj _) F.entry_enumerate_new
    (fl_enum_newT l items n dct sl) ⟨hl, ?_⟩
  have hz : (s.heap.push { cls := .type "tuple_iterator", data := .fields #[.ref l, .int 0 0] }).objs.size = s.heap.objs.size + 1 := Heap.size_push ..
  show _ ∧ _
  rw [hz]
  have he : IsEnum ((s.heap.push { cls := .type "tuple_iterator", data := .fields #[.ref l, .int 0 0] }).push
      { cls := .type "enumerate", data := .fields #[.none, .bool false, .ref s.heap.objs.size, rawInt 0, .none, .none] }) (s.heap.objs.size + 1) s.heap.objs.size 0 .none := by
    have := Heap.get?_push_size (s.heap.push { cls := .type "tuple_iterator", data := .fields #[.ref l, .int 0 0] })
      (o := { cls := .type "enumerate", data := .fields #[.none, .bool false, .ref s.heap.objs.size, rawInt 0, .none, .none] }) rfl
    rw [hz] at this; exact this
  refine ⟨⟨_, he, rfl⟩, h _ he ⟨_, Heap.get?_push_of_some _ (Heap.get?_push_size _ rfl), rfl, rfl⟩ (by rw [Heap.size_push, hz]) fun b o x => Heap.get?_push_of_some _ (Heap.get?_push_of_some _ x)⟩
end
end PySem
namespace FL
open PySem L2 PyProof.Rows
def IteT (K : PySem.W.Frag) (a : Addr) : It :=
  ⟨fun i H => ∃ (xs : List V) (x : V), SqT K H a xs ∧ xs[i]? = some x, fun i H v H' => ∃ T x, v = .ref T ∧ H T = none ∧ H' = upd H T (.tup [.int (i : Nat), x]) ∧ ∀ xs, SqT K H a xs → xs[i]? = some x, fun i H => ∃ xs : List V, SqT K H a xs ∧ xs.length ≤ i⟩
theorem turn_enumT {P : Program} {w : World} {K : PySem.W.Frag} {elts : List Expr} {kk : Nat} {tpos : Pos} (a e it : Addr) (hai : a ≠ it) (hae : a ≠ e) :
    Turn P w K (.Tuple elts kk tpos) (IteT K a) [e, it] e (fun i h => (∃ old, IsEnum h e it ((i : Nat) : Int) old) ∧ h.IsTupleIter it a i ∧ e ≠ it) where
  mem := by simp
  obj := fun i h st b hb => by
    obtain ⟨⟨old, he⟩, ⟨o, ho, hc, hd⟩, _⟩ := st
    have e' : b = e ∨ b = it := by simpa using hb
    rcases e' with z | z
    · rw [z]; exact ⟨_, he, fun v q => nomatch q⟩
    · rw [z]; exact ⟨o, ho, fun v q => by rw [hd] at q; cases q⟩
  keep := fun i h h' st k => let ⟨⟨old, he⟩, hi, hne⟩ := st; ⟨⟨old, k e (by simp) _ he⟩, hi.at fun o q => k it (by simp) o q, hne⟩
  item := by
    intro X hP hw hK hc i pins s σ H E I hf st hg
    subst hP hw hK
    obtain ⟨⟨old, he⟩, hit, hne⟩ := st
    obtain ⟨xs, x, hq, hx⟩ := hg
    obtain ⟨its, rv, p, hz⟩ := I.tuple hq
    obtain ⟨u, hu, ru⟩ := rv.get hx
    have hel : e < s.heap.objs.size := Heap.lt_size he
    have hil : it < s.heap.objs.size := by obtain ⟨_, q, _⟩ := hit; exact Heap.lt_size q
    have hlt : i < its.toArray.size := by
      have := (List.getElem?_eq_some_iff.mp hu).1
      simpa using this
    have Dr := Draws.tuple (prog := X.prog) (w := X.w) (A := X.A.in1) (show X.A.in1.handled = none from I.ok.hd hc) it a hai its.toArray
    refine wpAny_pyNext_enum_itemD Dr he ⟨hit, p⟩ hlt hne (by simp only [List.mem_cons, List.not_mem_nil, or_false, not_or]; exact ⟨hne, Ne.symm hae⟩) fun x' h' tk hP ho hst hT hsz hk => ?_
    have ex : x' = u := by
      have hP' : its.toArray[i]? = some x' := hP
      rw [show its.toArray[i]? = its[i]? from by simp, hu] at hP'
      exact (Option.some.inj hP').symm
    subst ex
    refine ⟨_, rfl, wpAny_letOwnedTupleGo_enum (s := { s with heap := h', toks := tk + 1 }) ho fun h'' he' sb => ?_⟩
    have hT2 : h''.get? s.heap.objs.size = some { cls := .type "tuple", data := .seq #[.int i tk, x'] } := (sb.2 _ (Nat.ne_of_gt hel)).trans hT
    have new : ObjOk X.prog X.w (upd H s.heap.objs.size (.tup [.int (i : Nat), x])) h'' s.heap.objs.size (.tup [.int (i : Nat), x]) :=
      ⟨by show 2 ≤ sizeLine; decide, [.int i tk, x'], .cons ⟨_, rfl⟩ (.cons ru .nil), ⟨_, hT2, rfl, _, rfl⟩⟩
    have I1 : Inv X pins σ (upd H s.heap.objs.size (.tup [.int (i : Nat), x])) { s with heap := h'', toks := tk + 1 } :=
      I.turnedNew (ch := [e, it]) (fun b ob hb q => (sb.2 b (fun z => hb (by simp [z]))).trans (hk b ob (fun z => hb (by simp [z])) (fun z => hb (by simp [z])) q)) hf (Nat.le_refl _) new
    refine ⟨.ref s.heap.objs.size, _, I1, rfl, ⟨_, x, rfl, I.hok.fresh (Nat.le_refl _), rfl, fun ys hy => by rw [I.tuple_inj hy hq]; exact hx⟩, ⟨⟨x', ?_⟩, hst.1.at fun o q => (sb.2 it (Ne.symm hne)).trans q, hne⟩, fun b hb => ?_⟩
    · have e1 : ((i + 1 : Nat) : Int) = (i : Int) + 1 := by omega
      rw [e1]; exact he'
    · have hb' : b < s.heap.objs.size := by
        have e' : b = e ∨ b = it := by simpa using hb
        rcases e' with z | z
        · rw [z]; exact hel
        · rw [z]; exact hil
      rw [upd_ne (Nat.ne_of_lt hb')]
      exact (hf b hb).1
  done := by
    intro X hP hw hK hc i pins s σ H E I hf st hg
    subst hP hw hK
    obtain ⟨⟨old, he⟩, hit, hne⟩ := st
    obtain ⟨xs, hq, hx⟩ := hg
    obtain ⟨its, rv, p, hz⟩ := I.tuple hq
    obtain ⟨f0, f1, f2, f3, f4, f5⟩ := hf it (by simp)
    have hl := rv.length
    have hT : s.TypeIs (.ref e) "enumerate" := ⟨_, he, rfl⟩
    unfold pyNext
    refine wpAny_bind (wpAny_attempt (wpAny_callSpecial?_slot (name := Str.ofString "__next__") hT F.slot_enumerate_next
      (wpAny_call_entry F.slot_enumerate_next hT F.entry_enumerate_next ?_ (F.args_enumerate_next_1 _))))
    show wpAny _ _ (field (.ref e) 2 >>= _) _ _ _
    refine wpAny_bind (wpAny_field he rfl (x := .ref it) rfl ?_)
    refine wpAny_bind (wpAny_nextOf_tuple_end (show X.A.in1.handled = none from I.ok.hd hc) hit (show s.heap.IsTuple a its.toArray from p) (by simp; omega) fun h' x he' hx' => ?_)
    obtain ⟨o, ho, hc⟩ := hx'
    refine wpAny_bind (wpAny_isInstance (T := "StopIteration") (b := true) ⟨o, ho, hc⟩ isSubtype_stop ?_)
    exact wpAny_pure ⟨rfl, I.turned (t' := s.toks) (fun b o hb q => he' b o hb q) f0 f1 f3 f4 f5⟩
  self := fun A i s Q E st h => let ⟨⟨_, he⟩, _⟩ := st; wpAny_pyIter_enum he h
/-! ### what is walked: a list, a tuple, a text; enumerate of a list, a tuple -/
section
variable {X : Cx}
def iAny (K : PySem.W.Frag) (tl : TE) : TI := fun σ H R => tl σ H fun x H1 =>
  (∃ a, x = .ref a ∧ (∃ xs, SqL K H1 a xs) ∧ R (Itl K a) H1) ∨ (∃ a, x = .ref a ∧ (∃ xs, SqT K H1 a xs) ∧ R (Itt K a) H1) ∨ (∃ z, x = .str z ∧ R (Its z) H1)
theorem pi_any {tg l : Expr} {tl : TE} (hl : PE X l tl) : PI X tg l (iAny X.K tl) := by
  refine ⟨fun pins s σ H R I h => ?_⟩
  refine thn (hl.run pins s σ H _ I h) fun v s1 ⟨x, H1, I1, r1, q1⟩ => ?_
  rcases q1 with ⟨a, e, ⟨xs, hq⟩, q⟩ | ⟨a, e, ⟨xs, hq⟩, q⟩ | ⟨z, e, q⟩
  · subst e
    cases r1
    obtain ⟨its, rv, p, hz⟩ := I1.list hq
    refine wpAny_pyIter_list p.isList ?_
    refine ⟨s1.heap.objs.size, [s1.heap.objs.size], _, _, H1, rfl, I1.kept (t' := s1.toks) fun b o e => Heap.get?_push_of_some _ e, turn_list a _, ⟨_, Heap.get?_push_size _ rfl, rfl, rfl⟩, fun b hb => ?_, q⟩
    have e : b = s1.heap.objs.size := by simpa using hb
    subst e
    exact I1.fpOk (Nat.le_refl _) (I1.hok.fresh (Nat.le_refl _))
  · subst e
    cases r1
    obtain ⟨its, rv, p, hz⟩ := I1.tuple hq
    refine wpAny_pyIter_tuple (show s1.heap.IsTuple a its.toArray from p) ?_
    refine ⟨s1.heap.objs.size, [s1.heap.objs.size], _, _, H1, rfl, I1.kept (t' := s1.toks) fun b o e => Heap.get?_push_of_some _ e, turn_tuple a _, ⟨_, Heap.get?_push_size _ rfl, rfl, rfl⟩, fun b hb => ?_, q⟩
    have e : b = s1.heap.objs.size := by simpa using hb
    subst e
    exact I1.fpOk (Nat.le_refl _) (I1.hok.fresh (Nat.le_refl _))
  · subst e
    obtain ⟨t, rfl⟩ := r1
    cases ha : z.cps.all (· < 128)
    · exact wpAny_pyIter_wide ha (pi_one (tk := s1.toks) I1 _ (turn_str _ z t "str_iterator" (.inr rfl)) ⟨_, Heap.get?_push_size _ rfl, rfl, rfl⟩ q)
    · exact wpAny_pyIter_ascii ha (pi_one (tk := s1.toks) I1 _ (turn_str _ z t "str_ascii_iterator" (.inl rfl)) ⟨_, Heap.get?_push_size _ rfl, rfl, rfl⟩ q)
def iEnumA (K : PySem.W.Frag) (ta : TA) : TI := fun σ H R => ta σ H fun vs H1 => (∃ a xs, vs = [.ref a] ∧ SqL K H1 a xs ∧ R (Ite K a) H1) ∨ ∃ a xs, vs = [.ref a] ∧ SqT K H1 a xs ∧ R (IteT K a) H1
theorem pi_enumA {e : Expr} {ta : TA} {p pos tpos : Pos} {elts : List Expr} {kk : Nat} (hg : Gl X "enumerate") (hm : X.mg "enumerate" = none) (ha : PA X [e] ta) (hs : starEach [e] X.env = [(false, eval e X.env)]) :
    PI X (.Tuple elts kk tpos) (.Call (.Name "enumerate" p) [e] [] pos) (iEnumA X.K ta) := by
  refine ⟨fun pins s σ H R I h => ?_⟩
  refine Call_ (ld_blt I hg hm boot_enumerate (PyProof.Rows.callWith_type1 (thn (ha.run pos pins s σ H _ I h) fun us s1 ⟨vs, H1, I1, r1, q1⟩ => ?_) hs rfl))
  rcases q1 with ⟨a, xs, ex, hq, q⟩ | ⟨a, xs, ex, hq, q⟩
  · subst ex
    cases r1 with
    | cons r rr =>
      cases rr
      cases r
      obtain ⟨its, rv, p', hz⟩ := I1.list hq
      refine call_enumerate_list p'.isList fun h' he hit hsz hk => wpAny_pyIter_enum he ?_
      have I2 : Inv X pins σ H1 { s1 with heap := h' } := I1.kept (t' := s1.toks) hk
      refine ⟨s1.heap.objs.size + 1, [s1.heap.objs.size + 1, s1.heap.objs.size], _, _, H1, rfl, I2, turn_enum a (s1.heap.objs.size + 1) s1.heap.objs.size, ⟨⟨.none, he⟩, hit, Nat.succ_ne_self _⟩, fun b hb => ?_, q⟩
      have e' : b = s1.heap.objs.size + 1 ∨ b = s1.heap.objs.size := by simpa using hb
      have hle : s1.heap.objs.size ≤ b := by
        rcases e' with z | z
        · rw [z]; exact Nat.le_add_right _ _
        · rw [z]; exact Nat.le_refl _
      exact I1.fpOk hle (I1.hok.fresh hle)
  · subst ex
    cases r1 with
    | cons r rr =>
      cases rr
      cases r
      obtain ⟨its, rv, p', hz⟩ := I1.tuple hq
      have hal : a < s1.heap.objs.size := p'.lt
      refine fl_enum_tuple (show s1.heap.IsTuple a its.toArray from p') fun h' he hit hsz hk => wpAny_pyIter_enum he ?_
      have I2 : Inv X pins σ H1 { s1 with heap := h' } := I1.kept (t' := s1.toks) hk
      refine ⟨s1.heap.objs.size + 1, [s1.heap.objs.size + 1, s1.heap.objs.size], _, _, H1, rfl, I2, turn_enumT a (s1.heap.objs.size + 1) s1.heap.objs.size (Nat.ne_of_lt hal) (Nat.ne_of_lt (Nat.lt_succ_of_lt hal)), ⟨⟨.none, he⟩, hit, Nat.succ_ne_self _⟩, fun b hb => ?_, q⟩
      have e' : b = s1.heap.objs.size + 1 ∨ b = s1.heap.objs.size := by simpa using hb
      have hle : s1.heap.objs.size ≤ b := by
        rcases e' with z | z
        · rw [z]; exact Nat.le_add_right _ _
        · rw [z]; exact Nat.le_refl _
      exact I1.fpOk hle (I1.hok.fresh hle)
end
end FL

namespace FL
open PySem L2 PyProof.Rows

/-! ### a walk over known items -/
structure JOk (J : It) (xs : List D) (Pv : Hp → Hp → Prop) : Prop where
  stop : ∀ F H (i : Nat), Sub F H → Pv F H → xs.length ≤ i → J.stop i H
  go : ∀ F H (i : Nat), Sub F H → Pv F H → i < xs.length → J.go i H
  yld : ∀ F H (i : Nat) x v H', Sub F H → Pv F H → xs[i]? = some x → J.yld i H v H' → ∃ F', Ext F H F' H' ∧ Dv F' v x
theorem JOk.weak {J : It} {xs : List D} {P P' : Hp → Hp → Prop} (j : JOk J xs P) (h : ∀ F H, Sub F H → P' F H → P F H) : JOk J xs P' :=
  ⟨fun F H i s p => j.stop F H i s (h F H s p), fun F H i s p => j.go F H i s (h F H s p), fun F H i x v H' s p => j.yld F H i x v H' s (h F H s p)⟩
/-- the own slot that a walk leans on, and its items -/
abbrev Dep := Option (Nat × List D)
def SrcOk (σ : L2.St) (F H : Hp) (Pv : Hp → Hp → Prop) : Dep → Prop
  | none => Pv F H ∧ ∀ F1 H1 F2 H2, Pv F1 H1 → Sub F1 F2 → Sub F2 H2 → Pv F2 H2
  | some (i, ys) => ∀ v F2 H2, σ[i]? = some (some v) → Sub F2 H2 → Dq F2 H2 v (.list ys) → Pv F2 H2
def chk (dep : Dep) (ρ : Rho) : Bool := match dep with
  | none => true
  | some (i, ys) => match look ρ (.own i) with
    | some (.list zs) => deqAll zs ys
    | _ => false
/-- the source's word at a later state -/
theorem SrcOk.at {g : G} {σ σ' : L2.St} {F H F2 H2 : Hp} {Pv : Hp → Hp → Prop} {dep : Dep} {ρ : Rho} (s : SrcOk σ F H Pv dep) (r : Rel g F2 ρ σ' H2) (f : Sub F F2) (c : chk dep ρ = true) (hσ : ∀ i ys, dep = some (i, ys) → σ'[i]? = σ[i]?) : Pv F2 H2 := by
  cases dep with
  | none => exact s.2 F H F2 H2 s.1 f r.sub
  | some iy =>
    obtain ⟨i, ys⟩ := iy
    unfold chk at c
    simp only at c
    cases e : look ρ (.own i) with
    | none => rw [e] at c; cases c
    | some d =>
      rw [e] at c
      cases d with
      | list zs =>
        have ez := deqAll_eq zs ys c
        subst ez
        have e' := e
        unfold look at e'
        simp only at e'
        split at e'
        · rename_i xs es
          obtain ⟨v, h1, _⟩ := r.slot i _ es
          have q : Dq F2 H2 v (.list zs) := r.look (w := .own i) h1 e
          exact s v F2 H2 (by rw [← hσ i zs rfl]; exact h1) r.sub q
        · cases e'
      | none => cases c
      | bool _ => cases c
      | int _ => cases c
      | str _ => cases c
      | tuple _ => cases c
      | dict _ => cases c
def tiOf (g : G) (f : Rho → R (List D × Dep)) : TI := fun σ H R => ∃ F ρ, Rel g F ρ σ H ∧ match f ρ with
  | .ok xd ρ' => ∀ J H' F' Pv, Rel g F' ρ' σ H' → Frm σ F H ρ F' H' ρ' → JOk J xd.1 Pv → SrcOk σ F' H' Pv xd.2 → R J H'
  | .exc c ρ' => ∀ H' F', Rel g F' ρ' σ H' → g.W (.ref (g.cls c)) none σ H'
  | .bad => False
theorem PI.imp {X : Cx} {tg e : Expr} {t t' : TI} (h : PI X tg e t) (k : ∀ σ H Q, t' σ H Q → t σ H Q) : PI X tg e t' :=
  ⟨fun pins s σ H Q I q => h.run pins s σ H Q I (k σ H Q q)⟩
abbrev FI (X : Cx) (g : G) (tg e : Expr) (f : Rho → R (List D × Dep)) : Prop := PI X tg e (tiOf g f)
/-! the walks -/
def LQ (a : Addr) (xs : List D) (F H : Hp) : Prop := ∃ vs, Rd H a (.lst vs) ∧ DvAll F vs xs
def TQ (a : Addr) (xs : List D) (F H : Hp) : Prop := ∃ vs, Rd H a (.tup vs) ∧ DvAll F vs xs
theorem Rd.det {H : Hp} {a : Addr} {vs us : List V} (h : Rd H a (.lst vs)) (k : Rd H a (.lst us)) : vs = us := by
  rcases h with h | ⟨o, h⟩ <;> rcases k with k | ⟨o', k⟩ <;> rw [h] at k <;> cases k <;> rfl
theorem jok_list (K : PySem.W.Frag) (a : Addr) (xs : List D) : JOk (Itl K a) xs (LQ a xs) where
  stop := fun F H i s ⟨vs, h, d⟩ hl => ⟨vs, .inl h, by rw [d.len]; exact hl⟩
  go := fun F H i s ⟨vs, h, d⟩ hl => by
    obtain ⟨v, h1, _⟩ := d.get (List.getElem?_eq_getElem hl)
    exact ⟨vs, v, .inl h, h1⟩
  yld := fun F H i x v H' s ⟨vs, h, d⟩ hx y => by
    obtain ⟨e, y⟩ := y
    subst e
    obtain ⟨v', h1, h2⟩ := d.get hx
    have e := y vs (.inl h)
    rw [h1] at e
    cases e
    exact ⟨F, .refl s, h2⟩
theorem jok_tup (K : PySem.W.Frag) (a : Addr) (xs : List D) : JOk (Itt K a) xs (TQ a xs) where
  stop := fun F H i s ⟨vs, h, d⟩ hl => ⟨vs, .inl h, by rw [d.len]; exact hl⟩
  go := fun F H i s ⟨vs, h, d⟩ hl => by
    obtain ⟨v, h1, _⟩ := d.get (List.getElem?_eq_getElem hl)
    exact ⟨vs, v, .inl h, h1⟩
  yld := fun F H i x v H' s ⟨vs, h, d⟩ hx y => by
    obtain ⟨e, y⟩ := y
    subst e
    obtain ⟨v', h1, h2⟩ := d.get hx
    have e := y vs (.inl h)
    rw [h1] at e
    cases e
    exact ⟨F, .refl s, h2⟩
/-- the items of range(n) from lo -/
def rangeD (lo : Int) (n : Nat) : List D := (List.range n).map fun (i : Nat) => .int (lo + i)
theorem rangeD_length (lo : Int) (n : Nat) : (rangeD lo n).length = n := by simp [rangeD]
theorem rangeD_get {lo : Int} {n i : Nat} {x : D} (h : (rangeD lo n)[i]? = some x) : x = .int (lo + i) := by
  unfold rangeD at h
  rw [List.getElem?_map] at h
  cases e : (List.range n)[i]? with
  | none => rw [e] at h; cases h
  | some j =>
    rw [e] at h
    have hj : j = i := by
      obtain ⟨h1, h2⟩ := List.getElem?_eq_some_iff.mp e
      rw [List.getElem_range] at h2
      exact h2.symm
    subst hj
    cases h
    rfl
theorem jok_range (lo : Int) (n : Nat) : JOk (Itr lo n) (rangeD lo n) (fun _ _ => True) where
  stop := fun F H i s _ hl => by rw [rangeD_length] at hl; exact hl
  go := fun F H i s _ hl => by rw [rangeD_length] at hl; exact hl
  yld := fun F H i x v H' s _ hx y => by
    obtain ⟨e, y⟩ := y
    subst e y
    rw [rangeD_get hx]
    exact ⟨F, .refl s, .int _⟩
/-- (i, x) of enumerate -/
def enumD : Nat → List D → List D
  | _, [] => []
  | k, x :: xs => .tuple [.int (k : Nat), x] :: enumD (k + 1) xs
theorem enumD_length : ∀ (k : Nat) (xs : List D), (enumD k xs).length = xs.length
  | _, [] => rfl
  | k, x :: xs => by rw [enumD, List.length_cons, List.length_cons, enumD_length (k + 1) xs]
theorem enumD_get : ∀ {k : Nat} {xs : List D} {i : Nat} {y : D}, (enumD k xs)[i]? = some y → ∃ x, xs[i]? = some x ∧ y = .tuple [.int ((k + i : Nat) : Int), x]
  | _, [], _, _, h => by simp [enumD] at h
  | k, x :: xs, 0, y, h => by
    simp [enumD] at h
    exact ⟨x, rfl, h.symm⟩
  | k, x :: xs, i + 1, y, h => by
    have h' : (enumD (k + 1) xs)[i]? = some y := by simpa [enumD] using h
    obtain ⟨z, h1, h2⟩ := enumD_get h'
    refine ⟨z, by simpa using h1, ?_⟩
    rw [h2, show k + 1 + i = k + (i + 1) by omega]
theorem new_pair {F H H' : Hp} {v : V} {T : Addr} {a b : V} {x y : D} (s : Sub F H) (e1 : v = .ref T) (hT : H T = none) (e2 : H' = upd H T (.tup [a, b])) (d1 : Dv F a x) (d2 : Dv F b y) : ∃ F', Ext F H F' H' ∧ Dv F' v (.tuple [x, y]) := by
  subst e1 e2
  exact ⟨_, .new s hT, mkT s hT (.cons d1 (.cons d2 .nil))⟩
theorem jok_enum (K : PySem.W.Frag) (a : Addr) (xs : List D) : JOk (Ite K a) (enumD 0 xs) (LQ a xs) where
  stop := fun F H i s ⟨vs, h, d⟩ hl => ⟨vs, .inl h, by rw [d.len]; rw [enumD_length] at hl; exact hl⟩
  go := fun F H i s ⟨vs, h, d⟩ hl => by
    rw [enumD_length] at hl
    obtain ⟨v, h1, _⟩ := d.get (List.getElem?_eq_getElem hl)
    exact ⟨vs, v, .inl h, h1⟩
  yld := fun F H i x v H' s ⟨vs, h, d⟩ hx y => by
    obtain ⟨z, hz, e⟩ := enumD_get hx
    subst e
    obtain ⟨T, u, e1, hT, e2, y⟩ := y
    obtain ⟨v', h1, h2⟩ := d.get hz
    have e := y vs (.inl h)
    rw [h1] at e
    cases e
    rw [Nat.zero_add]
    exact new_pair s e1 hT e2 (.int _) h2
theorem jok_enumT (K : PySem.W.Frag) (a : Addr) (xs : List D) : JOk (IteT K a) (enumD 0 xs) (TQ a xs) where
  stop := fun F H i s ⟨vs, h, d⟩ hl => ⟨vs, .inl h, by rw [d.len]; rw [enumD_length] at hl; exact hl⟩
  go := fun F H i s ⟨vs, h, d⟩ hl => by
    rw [enumD_length] at hl
    obtain ⟨v, h1, _⟩ := d.get (List.getElem?_eq_getElem hl)
    exact ⟨vs, v, .inl h, h1⟩
  yld := fun F H i x v H' s ⟨vs, h, d⟩ hx y => by
    obtain ⟨z, hz, e⟩ := enumD_get hx
    subst e
    obtain ⟨T, u, e1, hT, e2, y⟩ := y
    obtain ⟨v', h1, h2⟩ := d.get hz
    have e := y vs (.inl h)
    rw [h1] at e
    cases e
    rw [Nat.zero_add]
    exact new_pair s e1 hT e2 (.int _) h2
/-- (x, y) of zip -/
def zipD : List D → List D → List D
  | x :: xs, y :: ys => .tuple [x, y] :: zipD xs ys
  | _, _ => []
theorem zipD_length : ∀ (xs ys : List D), (zipD xs ys).length = min xs.length ys.length
  | [], _ => by simp [zipD]
  | _ :: _, [] => by simp [zipD]
  | x :: xs, y :: ys => by rw [zipD, List.length_cons, zipD_length xs ys, List.length_cons, List.length_cons]; omega
theorem zipD_get : ∀ {xs ys : List D} {i : Nat} {z : D}, (zipD xs ys)[i]? = some z → ∃ x y, xs[i]? = some x ∧ ys[i]? = some y ∧ z = .tuple [x, y]
  | [], _, _, _, h => by simp [zipD] at h
  | _ :: _, [], _, _, h => by simp [zipD] at h
  | x :: xs, y :: ys, 0, z, h => by
    simp [zipD] at h
    exact ⟨x, y, rfl, rfl, h.symm⟩
  | x :: xs, y :: ys, i + 1, z, h => by
    have h' : (zipD xs ys)[i]? = some z := by simpa [zipD] using h
    obtain ⟨a, b, h1, h2, h3⟩ := zipD_get h'
    exact ⟨a, b, by simpa using h1, by simpa using h2, h3⟩
theorem jok_zip (K : PySem.W.Frag) (a b : Addr) (xs ys : List D) : JOk (Itz K a b) (zipD xs ys) (fun F H => LQ a xs F H ∧ LQ b ys F H) where
  stop := fun F H i s ⟨⟨vs, h, d⟩, ⟨us, k, e⟩⟩ hl => ⟨vs, us, .inl h, .inl k, by rw [zipD_length] at hl; rw [d.len, e.len]; omega⟩
  go := fun F H i s ⟨⟨vs, h, d⟩, ⟨us, k, e⟩⟩ hl => by
    rw [zipD_length] at hl
    obtain ⟨v, h1, _⟩ := d.get (List.getElem?_eq_getElem (by omega : i < xs.length))
    obtain ⟨u, h2, _⟩ := e.get (List.getElem?_eq_getElem (by omega : i < ys.length))
    exact ⟨vs, us, v, u, .inl h, .inl k, h1, h2⟩
  yld := fun F H i x v H' s ⟨⟨vs, h, d⟩, ⟨us, k, e⟩⟩ hx y => by
    obtain ⟨z1, z2, hz1, hz2, ez⟩ := zipD_get hx
    subst ez
    obtain ⟨T, u1, u2, e1, hT, e2, y1, y2⟩ := y
    obtain ⟨v1, h1, h2⟩ := d.get hz1
    obtain ⟨v2, h3, h4⟩ := e.get hz2
    have q1 := y1 vs (.inl h)
    rw [h1] at q1
    cases q1
    have q2 := y2 us (.inl k)
    rw [h3] at q2
    cases q2
    exact new_pair s e1 hT e2 h2 h4
theorem jok_zipT (K : PySem.W.Frag) (a b : Addr) (xs ys : List D) : JOk (RZ.ItzT K a b) (zipD xs ys) (fun F H => TQ a xs F H ∧ TQ b ys F H) where
  stop := fun F H i s ⟨⟨vs, h, d⟩, ⟨us, k, e⟩⟩ hl => ⟨vs, us, .inl h, .inl k, by rw [zipD_length] at hl; rw [d.len, e.len]; omega⟩
  go := fun F H i s ⟨⟨vs, h, d⟩, ⟨us, k, e⟩⟩ hl => by
    rw [zipD_length] at hl
    obtain ⟨v, h1, _⟩ := d.get (List.getElem?_eq_getElem (by omega : i < xs.length))
    obtain ⟨u, h2, _⟩ := e.get (List.getElem?_eq_getElem (by omega : i < ys.length))
    exact ⟨vs, us, v, u, .inl h, .inl k, h1, h2⟩
  yld := fun F H i x v H' s ⟨⟨vs, h, d⟩, ⟨us, k, e⟩⟩ hx y => by
    obtain ⟨z1, z2, hz1, hz2, ez⟩ := zipD_get hx
    subst ez
    obtain ⟨T, u1, u2, e1, hT, e2, y1, y2⟩ := y
    obtain ⟨v1, h1, h2⟩ := d.get hz1
    obtain ⟨v2, h3, h4⟩ := e.get hz2
    have q1 := y1 vs (.inl h)
    rw [h1] at q1
    cases q1
    have q2 := y2 us (.inl k)
    rw [h3] at q2
    cases q2
    exact new_pair s e1 hT e2 h2 h4
/-- the signs of a text -/
def signsD (z : Str) : List D := z.cps.toList.map fun c => .str ⟨#[c]⟩
theorem jok_str (z : Str) : JOk (Its z) (signsD z) (fun _ _ => True) where
  stop := fun F H i s _ hl => by
    have hl' : z.cps.size ≤ i := by simpa [signsD] using hl
    exact hl'
  go := fun F H i s _ hl => by
    have hl' : i < z.cps.size := by simpa [signsD] using hl
    exact hl'
  yld := fun F H i x v H' s _ hx y => by
    obtain ⟨e, c, hc, y⟩ := y
    subst e y
    have hx' : x = .str ⟨#[c]⟩ := by
      unfold signsD at hx
      rw [List.getElem?_map, Array.getElem?_toList, hc] at hx
      cases hx
      rfl
    rw [hx']
    exact ⟨F, .refl s, .str _⟩
/-! the sources -/
/-- what is walked, of a value -/
def srcOf (ρ : Rho) : W → Option (List D × Dep)
  | .d (.list xs) => some (xs, none)
  | .d (.tuple xs) => some (xs, none)
  | .d (.str z) => some (signsD z, none)
  | .d _ => none
  | .own i => match ρ[i]? with
    | some (some (.l xs)) => some (xs, some (i, xs))
    | _ => none
def enumOf (ρ : Rho) : List W → Option (List D × Dep)
  | [.d (.list xs)] => some (enumD 0 xs, none)
  | [.d (.tuple xs)] => some (enumD 0 xs, none)
  | [.own i] => match ρ[i]? with
    | some (some (.l xs)) => some (enumD 0 xs, some (i, xs))
    | _ => none
  | _ => none
def zipOf : List W → Option (List D × Dep)
  | [.d (.list xs), .d (.list ys)] => some (zipD xs ys, none)
  | [.d (.tuple xs), .d (.tuple ys)] => some (zipD xs ys, none)
  | _ => none
def rangeOf : List W → Option (List D × Dep)
  | [.d (.int n)] => if -1000000 ≤ n ∧ n ≤ 1000000 then some (rangeD 0 n.toNat, none) else none
  | _ => none
def fSrc (f : Rho → R W) : Rho → R (List D × Dep) := fun ρ => (f ρ).bind fun w ρ1 => match srcOf ρ1 w with
  | some xd => .ok xd ρ1
  | none => .bad
def fSrcs (k : Rho → List W → Option (List D × Dep)) (f : Rho → R (List W)) : Rho → R (List D × Dep) := fun ρ => (f ρ).bind fun w ρ1 => match k ρ1 w with
  | some xd => .ok xd ρ1
  | none => .bad
theorem mono_l {a : Addr} {xs : List D} (F1 H1 F2 H2 : Hp) (h : Dv F1 (.ref a) (.list xs)) (f : Sub F1 F2) (s : Sub F2 H2) : Dv F2 (.ref a) (.list xs) := dv_mono f h
theorem dv_lq {F H : Hp} {a : Addr} {xs : List D} (s : Sub F H) (h : Dv F (.ref a) (.list xs)) : LQ a xs F H := by
  cases h with
  | lst h d => exact ⟨_, s.rd h, d⟩
theorem dv_tq {F H : Hp} {a : Addr} {xs : List D} (s : Sub F H) (h : Dv F (.ref a) (.tuple xs)) : TQ a xs F H := by
  cases h with
  | tup h d => exact ⟨_, s.rd h, d⟩
theorem dq_lq {F H : Hp} {a : Addr} {xs : List D} (s : Sub F H) (h : Dq F H (.ref a) (.list xs)) : LQ a xs F H := by
  obtain ⟨b, vs, e, h1, h2⟩ := h.lst s
  cases e
  exact ⟨vs, h1, h2⟩
section
variable {X : Cx} {g : G}
theorem fi_any {tg e : Expr} {f : Rho → R W} (h : FE X g e f) : FI X g tg e (fSrc f) := by
  refine PI.imp (pi_any h) ?_
  rintro σ H Q ⟨F, ρ, r, h⟩
  refine ⟨F, ρ, r, ?_⟩
  unfold fSrc at h
  cases e1 : f ρ with
  | bad => rw [e1] at h; exact h
  | exc c ρ' => rw [e1] at h; exact h
  | ok w ρ1 =>
    rw [e1] at h
    simp only [R.bind_ok] at h
    intro v H1 F1 r1 s1 w1
    cases w with
    | own i =>
      cases es : ρ1[i]? with
      | none => simp only [srcOf, es] at h
      | some o =>
        cases o with
        | none => simp only [srcOf, es] at h
        | some s =>
          cases s with
          | l xs =>
            simp only [srcOf, es] at h
            obtain ⟨v', q1, a, vs, rfl, q2, q3, q4⟩ := r1.slot i _ es
            have w1' : σ[i]? = some (some v) := w1
            rw [q1] at w1'
            cases w1'
            refine .inl ⟨a, rfl, ⟨vs, SqL.of q2⟩, h _ H1 F1 (LQ a xs) r1 s1 (jok_list _ a xs) ?_⟩
            intro v2 F2 H2 hv s2 d2
            rw [q1] at hv
            cases hv
            exact dq_lq s2 d2
          | d _ => simp only [srcOf, es] at h
          | m _ => simp only [srcOf, es] at h
          | t _ _ _ => simp only [srcOf, es] at h
          | e _ => simp only [srcOf, es] at h
          | z _ => simp only [srcOf, es] at h
    | d x =>
      cases x with
      | list xs =>
        simp only [srcOf] at h
        have w1' : Dv F1 v (.list xs) := w1
        cases w1 with
        | lst hr ha =>
          exact .inl ⟨_, rfl, ⟨_, .inl (r1.sub.rd hr)⟩, h _ H1 F1 (fun F H => Dv F (.ref _) (.list xs)) r1 s1 ((jok_list _ _ xs).weak fun F H s d => dv_lq s d) ⟨w1', fun F1 H1 F2 H2 d f _ => dv_mono f d⟩⟩
      | tuple xs =>
        simp only [srcOf] at h
        have w1' : Dv F1 v (.tuple xs) := w1
        cases w1 with
        | tup hr ha =>
          exact .inr (.inl ⟨_, rfl, ⟨_, .inl (r1.sub.rd hr)⟩, h _ H1 F1 (fun F H => Dv F (.ref _) (.tuple xs)) r1 s1 ((jok_tup _ _ xs).weak fun F H s d => dv_tq s d) ⟨w1', fun F1 H1 F2 H2 d f _ => dv_mono f d⟩⟩)
      | str z =>
        simp only [srcOf] at h
        cases w1
        exact .inr (.inr ⟨z, rfl, h _ H1 F1 _ r1 s1 (jok_str z) ⟨trivial, fun _ _ _ _ _ _ _ => trivial⟩⟩)
      | none => simp only [srcOf] at h
      | bool _ => simp only [srcOf] at h
      | int _ => simp only [srcOf] at h
      | dict _ => simp only [srcOf] at h
theorem fi_range {tg a : Expr} {p pos : Pos} {f : Rho → R (List W)} (hg : Gl X "range") (hm : X.mg "range" = none) (ha : FA X g [a] f) (hs : starEach [a] X.env = [(false, eval a X.env)]) :
    FI X g tg (.Call (.Name "range" p) [a] [] pos) (fSrcs (fun _ => rangeOf) f) := by
  refine PI.imp (pi_range1 hg hm ha hs) ?_
  rintro σ H Q ⟨F, ρ, r, h⟩
  refine ⟨F, ρ, r, ?_⟩
  unfold fSrcs at h
  cases e1 : f ρ with
  | bad => rw [e1] at h; exact h
  | exc c ρ' => rw [e1] at h; exact h
  | ok ws ρ1 =>
    rw [e1] at h
    simp only [R.bind_ok] at h
    intro vs H1 F1 r1 s1 w1
    cases e2 : rangeOf ws with
    | none => rw [e2] at h; exact h.elim
    | some xd =>
      rw [e2] at h
      simp only at h
      unfold rangeOf at e2
      split at e2
      · rename_i n
        split at e2
        · rename_i hn
          cases e2
          cases w1 with
          | cons a b =>
            cases b
            cases a
            exact ⟨n, rfl, by omega, by omega, h _ H1 F1 _ r1 s1 (jok_range 0 n.toNat) ⟨trivial, fun _ _ _ _ _ _ _ => trivial⟩⟩
        · cases e2
      · cases e2
theorem fi_enum {elts : List Expr} {kk : Nat} {tpos : Pos} {a : Expr} {p pos : Pos} {f : Rho → R (List W)} (hg : Gl X "enumerate") (hm : X.mg "enumerate" = none) (ha : FA X g [a] f) (hs : starEach [a] X.env = [(false, eval a X.env)]) :
    FI X g (.Tuple elts kk tpos) (.Call (.Name "enumerate" p) [a] [] pos) (fSrcs enumOf f) := by
  refine PI.imp (pi_enumA hg hm ha hs) ?_
  rintro σ H Q ⟨F, ρ, r, h⟩
  refine ⟨F, ρ, r, ?_⟩
  unfold fSrcs at h
  cases e1 : f ρ with
  | bad => rw [e1] at h; exact h
  | exc c ρ' => rw [e1] at h; exact h
  | ok ws ρ1 =>
    rw [e1] at h
    simp only [R.bind_ok] at h
    intro vs H1 F1 r1 s1 w1
    cases e2 : enumOf ρ1 ws with
    | none => rw [e2] at h; exact h.elim
    | some xd =>
      rw [e2] at h
      simp only at h
      unfold enumOf at e2
      split at e2
      · rename_i xs
        cases e2
        cases w1 with
        | cons w b =>
          cases b
          have w' : Dv F1 _ (.list xs) := w
          cases w with
          | lst hr ha =>
            exact .inl ⟨_, _, rfl, .inl (r1.sub.rd hr), h _ H1 F1 (fun F H => Dv F (.ref _) (.list xs)) r1 s1 ((jok_enum _ _ xs).weak fun F H s d => dv_lq s d) ⟨w', fun F1 H1 F2 H2 d f _ => dv_mono f d⟩⟩
      · rename_i xs
        cases e2
        cases w1 with
        | cons w b =>
          cases b
          have w' : Dv F1 _ (.tuple xs) := w
          cases w with
          | tup hr ha =>
            exact .inr ⟨_, _, rfl, .inl (r1.sub.rd hr), h _ H1 F1 (fun F H => Dv F (.ref _) (.tuple xs)) r1 s1 ((jok_enumT _ _ xs).weak fun F H s d => dv_tq s d) ⟨w', fun F1 H1 F2 H2 d f _ => dv_mono f d⟩⟩
      · rename_i i
        split at e2
        · rename_i xs es
          cases e2
          cases w1 with
          | cons w b =>
            cases b
            obtain ⟨v', q1, a, vs, rfl, q2, q3, q4⟩ := r1.slot i _ es
            have w1' : σ[i]? = some (some _) := w
            rw [q1] at w1'
            cases w1'
            refine .inl ⟨a, vs, rfl, SqL.of q2, h _ H1 F1 (LQ a xs) r1 s1 (jok_enum _ a xs) ?_⟩
            intro v2 F2 H2 hv s2 d2
            rw [q1] at hv
            cases hv
            exact dq_lq s2 d2
        · cases e2
      · cases e2
theorem fi_zip {elts : List Expr} {kk : Nat} {tpos : Pos} {a b : Expr} {p pos : Pos} {f : Rho → R (List W)} (hg : Gl X "zip") (hm : X.mg "zip" = none) (ha : FA X g [a, b] f) (hs : starEach [a, b] X.env = (false, eval a X.env) :: starEach [b] X.env) (hpl : (backTo pos (starEach [b] X.env)).any (·.1) = false) :
    FI X g (.Tuple elts kk tpos) (.Call (.Name "zip" p) [a, b] [] pos) (fSrcs (fun _ => zipOf) f) := by
  refine PI.imp (RZ.pi_zipA hg hm ha hs hpl) ?_
  rintro σ H Q ⟨F, ρ, r, h⟩
  refine ⟨F, ρ, r, ?_⟩
  unfold fSrcs at h
  cases e1 : f ρ with
  | bad => rw [e1] at h; exact h
  | exc c ρ' => rw [e1] at h; exact h
  | ok ws ρ1 =>
    rw [e1] at h
    simp only [R.bind_ok] at h
    intro vs H1 F1 r1 s1 w1
    cases e2 : zipOf ws with
    | none => rw [e2] at h; exact h.elim
    | some xd =>
      rw [e2] at h
      simp only at h
      unfold zipOf at e2
      split at e2
      · rename_i xs ys
        cases e2
        cases w1 with
        | cons w b =>
          cases b with
          | cons w2 b =>
            cases b
            have w' : Dv F1 _ (.list xs) := w
            have w2' : Dv F1 _ (.list ys) := w2
            cases w with
            | lst hr ha =>
              cases w2 with
              | lst hr2 ha2 =>
                exact ⟨_, _, _, _, rfl, .inl ⟨.inl (r1.sub.rd hr), .inl (r1.sub.rd hr2), h _ H1 F1 (fun F H => Dv F (.ref _) (.list xs) ∧ Dv F (.ref _) (.list ys)) r1 s1 ((jok_zip _ _ _ xs ys).weak fun F H s d => ⟨dv_lq s d.1, dv_lq s d.2⟩)
                  ⟨⟨w', w2'⟩, fun F1 H1 F2 H2 d f _ => ⟨dv_mono f d.1, dv_mono f d.2⟩⟩⟩⟩
      · rename_i xs ys
        cases e2
        cases w1 with
        | cons w b =>
          cases b with
          | cons w2 b =>
            cases b
            have w' : Dv F1 _ (.tuple xs) := w
            have w2' : Dv F1 _ (.tuple ys) := w2
            cases w with
            | tup hr ha =>
              cases w2 with
              | tup hr2 ha2 =>
                exact ⟨_, _, _, _, rfl, .inr ⟨.inl (r1.sub.rd hr), .inl (r1.sub.rd hr2), h _ H1 F1 (fun F H => Dv F (.ref _) (.tuple xs) ∧ Dv F (.ref _) (.tuple ys)) r1 s1 ((jok_zipT _ _ _ xs ys).weak fun F H s d => ⟨dv_tq s d.1, dv_tq s d.2⟩)
                  ⟨⟨w', w2'⟩, fun F1 H1 F2 H2 d f _ => ⟨dv_mono f d.1, dv_mono f d.2⟩⟩⟩⟩
      · cases e2
end
end FL

namespace FL
open PySem L2 PyProof.Rows

theorem ownA_own {H : Hp} {v : V} {s : S} {a : Addr} (h : ownA H v s a) : s.own = true := by
  cases s <;> first | rfl | exact h.elim
theorem Frm.conv {σ σ0 : L2.St} {F H F' H' : Hp} {ρ ρ' ρ0 ρ0' : Rho} (f : Frm σ F H ρ F' H' ρ') (hs : ∀ a, Owned ρ σ H a → Owned ρ0 σ0 H a) (he : ∀ a, Owned ρ0' σ0 H' a → Owned ρ' σ H' a) : Frm σ0 F H ρ0 F' H' ρ0' where
  f := f.f
  keep := fun a o h n => f.keep a o h fun q => n (hs a q)
  old := fun a o q h => hs a (f.old a o (he a q) h)
  cold := f.cold
  there := f.there
/-- a slot that holds no own thing -/
def nonOwn : Option (Option S) → Bool
  | some (some s) => !s.own
  | _ => true
def noexc {α : Type} : R α → R α
  | .exc _ _ => .bad
  | r => r
def wipeR (ρ : Rho) : List Nat → Rho
  | [] => ρ
  | v :: vs => (wipeR ρ vs).set v none
/-- ρ's slots vs put back -/
def restR (ρ : Rho) : List Nat → Rho → Rho
  | [], ρn => ρn
  | v :: vs, ρn => (restR ρ vs ρn).set v (ρ.getD v none)
theorem wipeR_length (ρ : Rho) : ∀ vs : List Nat, (wipeR ρ vs).length = ρ.length
  | [] => rfl
  | v :: vs => by rw [wipeR, List.length_set, wipeR_length ρ vs]
theorem wipeR_some {ρ : Rho} {i : Nat} {x : S} : ∀ {vs : List Nat}, (wipeR ρ vs)[i]? = some (some x) → ρ[i]? = some (some x) ∧ i ∉ vs
  | [], h => ⟨h, by simp⟩
  | v :: vs, h => by
    rcases get_set h with ⟨_, e, _⟩ | ⟨ne, e⟩
    · cases e
    · obtain ⟨h1, h2⟩ := wipeR_some e
      exact ⟨h1, by simp only [List.mem_cons, not_or]; exact ⟨ne, h2⟩⟩
theorem wipe_ne {σ : L2.St} {i : Nat} : ∀ {vs : List Nat}, i ∉ vs → (wipe σ vs)[i]? = σ[i]?
  | [], _ => rfl
  | v :: vs, h => by
    simp only [List.mem_cons, not_or] at h
    rw [wipe, List.getElem?_set_ne (Ne.symm h.1), wipe_ne h.2]
theorem restR_length (ρ : Rho) (ρn : Rho) : ∀ vs : List Nat, (restR ρ vs ρn).length = ρn.length
  | [] => rfl
  | v :: vs => by rw [restR, List.length_set, restR_length ρ ρn vs]
theorem restR_some {ρ ρn : Rho} {i : Nat} {x : S} : ∀ {vs : List Nat}, (restR ρ vs ρn)[i]? = some (some x) → (i ∈ vs ∧ ρ[i]? = some (some x)) ∨ (i ∉ vs ∧ ρn[i]? = some (some x))
  | [], h => .inr ⟨by simp, h⟩
  | v :: vs, h => by
    rcases get_set h with ⟨e1, e, _⟩ | ⟨ne, e⟩
    · subst e1
      refine .inl ⟨by simp, ?_⟩
      rw [List.getD_eq_getElem?_getD] at e
      cases eo : ρ[i]? with
      | none => rw [eo] at e; cases e
      | some o => rw [eo] at e; rw [show o = some x from e]
    · rcases restR_some e with ⟨h1, h2⟩ | ⟨h1, h2⟩
      · exact .inl ⟨by simp [h1], h2⟩
      · exact .inr ⟨by simp only [List.mem_cons, not_or]; exact ⟨ne, h1⟩, h2⟩
theorem SRel.data {z : Z} {F H F' H' : Hp} {v : V} {s : S} (r : SRel z F H v s) (hs : s.own = false) (f : Sub F F') : SRel z F' H' v s := by
  cases s with
  | d x => exact dv_mono f r
  | e _ => exact r
  | z _ =>
    obtain ⟨a, e, h⟩ := r
    exact ⟨a, e, f.sqL h⟩
  | l _ => cases hs
  | m _ => cases hs
  | t _ _ _ => cases hs
section
variable {g : G} {F H : Hp} {ρ : Rho} {σ : L2.St}
theorem non_pin (r : Rel g F ρ σ H) {i : Nat} (h : nonOwn ρ[i]? = true) : ∀ p ∈ g.P, p.1 ≠ i := fun p hp e => by
  obtain ⟨s, h1, h2, _⟩ := r.pin p hp
  rw [e] at h1
  rw [h1] at h
  simp [nonOwn, h2] at h
theorem Rel.wipe : ∀ {vs : List Nat}, Rel g F ρ σ H → (∀ i ∈ vs, ∀ p ∈ g.P, p.1 ≠ i) → Rel g F (wipeR ρ vs) (L2.wipe σ vs) H
  | [], r, _ => r
  | v :: vs, r, h => (r.wipe fun i hi => h i (List.mem_cons_of_mem _ hi)).setN (h v List.mem_cons_self)
/-- an object that no slot owns becomes data -/
theorem Rel.cool (r : Rel g F ρ σ H) {a : Addr} {vs : List V} (ha : H a = some (.lst vs)) (hf : F a = none) (hn : ¬ Owned ρ σ H a) (h0 : g.H0 a = none) : Rel g (upd F a (.lst vs)) ρ σ H := by
  have hs : Sub F (upd F a (.lst vs)) := sub_upd hf
  refine ⟨fun b o q => ?_, r.len, fun j s q => ?_, r.sep, r.pin, r.new, r.e1.trans hs, r.e2, fun b o q1 q2 => ?_, r.e4⟩
  · by_cases hb : b = a
    · subst hb
      rw [upd_same] at q
      cases q
      exact ha
    · rw [upd_ne hb] at q
      exact r.sub b o q
  · obtain ⟨u, q1, q2⟩ := r.slot j s q
    refine ⟨u, q1, ?_⟩
    cases s with
    | d y => exact dv_mono hs q2
    | l zs =>
      obtain ⟨b, ws, rfl, k1, k2, k3⟩ := q2
      exact ⟨b, ws, rfl, k1, by rw [upd_ne (fun z => by subst z; exact hn ⟨j, _, _, q, q1, rfl⟩)]; exact k2, dvAll_mono hs k3⟩
    | m _ =>
      obtain ⟨b, ws, rfl, k1, k2, k4, k3⟩ := q2
      exact ⟨b, ws, rfl, k1, by rw [upd_ne (fun z => by subst z; exact hn ⟨j, _, _, q, q1, rfl⟩)]; exact k2, k4, k3.mono hs⟩
    | t _ _ _ => exact q2
    | e _ => exact q2
    | z _ =>
      obtain ⟨b, e, k⟩ := q2
      exact ⟨b, e, hs.sqL k⟩
  · rw [upd_ne (fun z => by subst z; rw [h0] at q1; cases q1)]
    exact r.e3 b o q1 q2
theorem Rel.owned_some (r : Rel g F ρ σ H) {a : Addr} (h : Owned ρ σ H a) : F a = none ∧ ∃ o, H a = some o := by
  obtain ⟨i, s, v, e1, e2, q⟩ := h
  obtain ⟨v', q1, q2⟩ := r.slot i s e1
  rw [e2] at q1
  cases q1
  exact q2.owned q
/-- an object that no slot owns is changed -/
theorem Rel.otherG (r : Rel g F ρ σ H) {a : Addr} {o2 : HO} (hf : F a = none) (hn : ¬ Owned ρ σ H a) (h0 : g.H0 a = none) : Rel g F ρ σ (upd H a o2) := by
  have own_eq : ∀ {j s u b}, ρ[j]? = some (some s) → σ[j]? = some (some u) → ownA (upd H a o2) u s b → ownA H u s b := fun {j s u b} e1 e2 q => by
    cases s with
    | d _ => exact q
    | e _ => exact q
    | z _ => exact q
    | l _ => exact q
    | m _ => exact q
    | t _ _ _ =>
      obtain ⟨_, _, z⟩ := r.slot j _ e1
      exact z.elim
  refine ⟨fun b o q => ?_, r.len, fun j s q => ?_, fun j k s t w u b ne e1 e2 e3 e4 q1 q2 => r.sep j k s t w u b ne e1 e2 e3 e4 (own_eq e1 e3 q1) (own_eq e2 e4 q2), r.pin, fun j s w b e1 e2 q => r.new j s w b e1 e2 (own_eq e1 e2 q), r.e1, fun b o q n => ?_, r.e3, fun b o q => ?_⟩
  · rw [upd_ne (fun z => by subst z; rw [hf] at q; cases q)]
    exact r.sub b o q
  · obtain ⟨u, q1, q2⟩ := r.slot j s q
    refine ⟨u, q1, ?_⟩
    cases s with
    | d y => exact q2
    | l zs =>
      obtain ⟨b, ws, rfl, k1, k2, k3⟩ := q2
      exact ⟨b, ws, rfl, by rw [upd_ne (fun z => by subst z; exact hn ⟨j, _, _, q, q1, rfl⟩)]; exact k1, k2, k3⟩
    | m _ =>
      obtain ⟨b, ws, rfl, k1, k2, k4, k3⟩ := q2
      exact ⟨b, ws, rfl, by rw [upd_ne (fun z => by subst z; exact hn ⟨j, _, _, q, q1, rfl⟩)]; exact k1, k2, k4, k3⟩
    | t _ _ _ => exact q2
    | e _ => exact q2
    | z _ => exact q2
  · rw [upd_ne (fun z => by subst z; rw [h0] at q; cases q)]
    exact r.e2 b o q n
  · rw [upd_ne (fun z => by subst z; rw [h0] at q; cases q)]
    exact r.e4 b o q
theorem Rel.other (r : Rel g F ρ σ H) {a : Addr} {vs : List V} (hf : F a = none) (hn : ¬ Owned ρ σ H a) (h0 : g.H0 a = none) : Rel g F ρ σ (upd H a (.lst vs)) := r.otherG hf hn h0
theorem Rel.owned_upd (r : Rel g F ρ σ H) {a b : Addr} {o2 : HO} (h : Owned ρ σ (upd H a o2) b) : Owned ρ σ H b := by
  obtain ⟨i, s, v, e1, e2, q⟩ := h
  refine ⟨i, s, v, e1, e2, ?_⟩
  cases s with
  | d _ => exact q
  | e _ => exact q
  | z _ => exact q
  | l _ => exact q
  | m _ => exact q
  | t _ _ _ =>
    obtain ⟨_, _, z⟩ := r.slot i _ e1
    exact z.elim
/-- back from the block -/
theorem Rel.rest {F1 H1 : Hp} {ρ1 ρn : Rho} {vs : List Nat} (r1 : Rel g F1 ρ1 σ H1) (r : Rel g F ρn (L2.wipe σ vs) H) (f : Sub F1 F) (hv : (vs.all fun i => nonOwn ρ1[i]?) = true) : Rel g F (restR ρ1 vs ρn) σ H := by
  have hvs : ∀ i ∈ vs, nonOwn ρ1[i]? = true := fun i hi => List.all_eq_true.mp hv i hi
  have own : ∀ {i s}, (restR ρ1 vs ρn)[i]? = some (some s) → s.own = true → i ∉ vs ∧ ρn[i]? = some (some s) := fun {i s} e ho => by
    rcases restR_some e with ⟨h1, h2⟩ | h
    · have := hvs i h1
      rw [h2] at this
      simp [nonOwn, ho] at this
    · exact h
  refine ⟨r.sub, by rw [restR_length, r.len, wipe_length], fun i s e => ?_, fun i j s t v u a ne e1 e2 e3 e4 q1 q2 => ?_, fun p hp => ?_, fun i s v a e1 e2 q => ?_, r.e1, r.e2, r.e3, r.e4⟩
  · rcases restR_some e with ⟨h1, h2⟩ | ⟨h1, h2⟩
    · obtain ⟨v, q1, q2⟩ := r1.slot i s h2
      have := hvs i h1
      rw [h2] at this
      exact ⟨v, q1, q2.data (by simpa [nonOwn] using this) f⟩
    · obtain ⟨v, q1, q2⟩ := r.slot i s h2
      rw [wipe_ne h1] at q1
      exact ⟨v, q1, q2⟩
  · obtain ⟨n1, m1⟩ := own e1 (ownA_own q1)
    obtain ⟨n2, m2⟩ := own e2 (ownA_own q2)
    exact r.sep i j s t v u a ne m1 m2 (by rw [wipe_ne n1]; exact e3) (by rw [wipe_ne n2]; exact e4) q1 q2
  · obtain ⟨s, q1, q2, q3⟩ := r.pin p hp
    obtain ⟨s', k1, k2, k3⟩ := r1.pin p hp
    have hn : p.1 ∉ vs := fun hm => by
      have := hvs _ hm
      rw [k1] at this
      simp [nonOwn, k2] at this
    rw [wipe_ne hn] at q3
    refine ⟨s, ?_, q2, q3⟩
    have key : ∀ {us : List Nat}, p.1 ∉ us → (restR ρ1 us ρn)[p.1]? = ρn[p.1]? := by
      intro us
      induction us with
      | nil => intro _; rfl
      | cons a us ih =>
        intro h
        simp only [List.mem_cons, not_or] at h
        rw [restR, List.getElem?_set_ne (Ne.symm h.1), ih h.2]
    rw [key hn]
    exact q1
  · obtain ⟨n1, m1⟩ := own e1 (ownA_own q)
    exact r.new i s v a m1 (by rw [wipe_ne n1]; exact e2) q
end
/-! ### the loop of a comprehension, as a function -/
def Tg.inn (vs : List Nat) : Tg → Bool
  | .n a => vs.contains a
  | .p a b => vs.contains a && vs.contains b
def lcF (dep : Dep) (tg : Tg) (vs : List Nat) (cond : Rho → R Bool) (elt : Rho → R W) : List D → Rho → R (List D)
  | [], ρ => if chk dep ρ = true then .ok [] ρ else .bad
  | x :: xs, ρ => if chk dep ρ = true then (match tg.set [] x ρ with
      | none => .bad
      | some ρ1 => (noexc (cond ρ1)).bind fun b ρ2 => match b with
        | true => (noexc (elt ρ2)).bind fun w ρ3 => (match w with
          | .d y => (lcF dep tg vs cond elt xs (wipeR ρ3 vs)).bind fun ys ρ4 => .ok (y :: ys) ρ4
          | .own _ => .bad)
        | false => lcF dep tg vs cond elt xs (wipeR ρ2 vs))
    else .bad
def fLc (fsrc : Rho → R (List D × Dep)) (tg : Tg) (vs : List Nat) (cond : Rho → R Bool) (elt : Rho → R W) : Rho → R W := fun ρ => (fsrc ρ).bind fun xd ρ1 =>
  if xd.1.length ≤ 1000000 ∧ (vs.all fun i => nonOwn ρ1[i]?) = true ∧ tg.inn vs = true then
    (lcF xd.2 tg vs cond elt xd.1 (wipeR ρ1 vs)).bind fun ys ρ2 => .ok (.d (.list ys)) (restR ρ1 vs ρ2)
  else .bad
/-- the context of a block: nothing is raised out of it -/
abbrev G.blk (g : G) : G := { g with W := fun _ _ _ _ => False }
theorem Rel.blk {g : G} {F H : Hp} {ρ : Rho} {σ : L2.St} (r : Rel g F ρ σ H) : Rel g.blk F ρ σ H := ⟨r.sub, r.len, r.slot, r.sep, r.pin, r.new, r.e1, r.e2, r.e3, r.e4⟩
theorem Rel.unblk {g : G} {F H : Hp} {ρ : Rho} {σ : L2.St} (r : Rel g.blk F ρ σ H) : Rel g F ρ σ H := ⟨r.sub, r.len, r.slot, r.sep, r.pin, r.new, r.e1, r.e2, r.e3, r.e4⟩
theorem set_tg {g : G} {F H : Hp} {ρ ρ1 : Rho} {σ : L2.St} {tg : Tg} {vs : List Nat} {x : D} (r : Rel g F ρ σ H) (hin : tg.inn vs = true) (hw : ∀ i ∈ vs, nonOwn ρ[i]? = true) (h : tg.set [] x ρ = some ρ1) : tg.set g.pins x ρ = some ρ1 := by
  have np : ∀ i ∈ vs, ¬ g.pins.contains i = true := fun i hi hc => by
    rw [List.contains_iff_mem] at hc
    obtain ⟨p, hp, e⟩ := List.mem_map.mp hc
    exact non_pin r (hw i hi) p hp e
  cases tg with
  | n a =>
    have ha : a ∈ vs := by simpa [Tg.inn] using hin
    simp only [Tg.set] at h ⊢
    rw [if_neg (np a ha)]
    simpa using h
  | p a b =>
    have ha : a ∈ vs ∧ b ∈ vs := by simpa [Tg.inn] using hin
    simp only [Tg.set] at h ⊢
    cases ep : pair? x with
    | none => rw [ep] at h; cases h
    | some ab =>
      rw [ep] at h
      simp only at h ⊢
      rw [if_neg (by rw [Bool.or_eq_true, not_or]; exact ⟨np a ha.1, np b ha.2⟩)]
      simpa using h
theorem tg_has {tg : Tg} {vs : List Nat} {i : Nat} (hin : tg.inn vs = true) (h : tg.has i) : i ∈ vs := by
  cases tg with
  | n a =>
    have e : i = a := h
    subst e
    simpa [Tg.inn] using hin
  | p a b =>
    have ha : a ∈ vs ∧ b ∈ vs := by simpa [Tg.inn] using hin
    rcases h with h | h
    · rw [h]; exact ha.1
    · rw [h]; exact ha.2
theorem wipe_same {σ σ' : L2.St} {vs : List Nat} (hl : σ'.length = σ.length) (h : ∀ i, i ∉ vs → σ'[i]? = σ[i]?) : wipe σ' vs = wipe σ vs := by
  have none_at : ∀ (τ : L2.St) (us : List Nat) (i : Nat), i ∈ us → i < τ.length → (wipe τ us)[i]? = some none := by
    intro τ us
    induction us with
    | nil => intro i hi; cases hi
    | cons u us ih =>
      intro i hi hlt
      rw [wipe]
      by_cases e : u = i
      · subst e
        exact List.getElem?_set_self (by rw [wipe_length]; exact hlt)
      · rw [List.getElem?_set_ne e]
        rcases List.mem_cons.mp hi with z | z
        · exact absurd z.symm e
        · exact ih i z hlt
  refine List.ext_getElem? fun i => ?_
  by_cases hi : i ∈ vs
  · by_cases hlt : i < σ.length
    · rw [none_at σ' vs i hi (by rw [hl]; exact hlt), none_at σ vs i hi hlt]
    · rw [List.getElem?_eq_none (by rw [wipe_length, hl]; omega), List.getElem?_eq_none (by rw [wipe_length]; omega)]
  · rw [wipe_ne hi, wipe_ne hi, h i hi]
/-- the state of a comprehension between two turns -/
structure LcSt (g : G) (F1 H1 : Hp) (ρ1 : Rho) (σ : L2.St) (vs : List Nat) (Dl : Addr) (acc : List D) (F H : Hp) (ρ : Rho) : Prop where
  rel : Rel g F ρ (wipe σ vs) H
  frm : Frm (wipe σ vs) F1 H1 (wipeR ρ1 vs) F H ρ
  lst : ∃ us, H Dl = some (.lst us) ∧ DvAll F us acc
  cold : F Dl = none
  free : ¬ Owned ρ (wipe σ vs) H Dl
  non : ∀ i ∈ vs, nonOwn ρ[i]? = true
theorem Frm.cool {σ : L2.St} {F H F' H' : Hp} {ρ ρ' : Rho} {a : Addr} {o : HO} (f : Frm σ F H ρ F' H' ρ') (hf : F' a = none) (h : H a = none) : Frm σ F H ρ (upd F' a o) H' ρ' where
  f := f.f.trans (sub_upd hf)
  keep := f.keep
  old := f.old
  cold := fun b u q n => by
    rw [upd_ne (fun z => by subst z; rw [h] at q; cases q)]
    exact f.cold b u q n
  there := f.there
theorem Frm.none_back {σ : L2.St} {F H F' H' : Hp} {ρ ρ' : Rho} {a : Addr} (f : Frm σ F H ρ F' H' ρ') (h : H' a = none) : H a = none := by
  cases e : H a with
  | none => rfl
  | some o =>
    obtain ⟨u, hu⟩ := f.there a o e
    rw [h] at hu
    cases hu
/-- an object that was not there is changed -/
theorem Frm.upd {g : G} {σ : L2.St} {F H F' H' : Hp} {ρ ρ' : Rho} {a : Addr} {vs : List V} (f : Frm σ F H ρ F' H' ρ') (r : Rel g F' ρ' σ H') (h : H a = none) : Frm σ F H ρ F' (L2.upd H' a (.lst vs)) ρ' where
  f := f.f
  keep := fun b o q n => by
    rw [upd_ne (fun z => by subst z; rw [h] at q; cases q)]
    exact f.keep b o q n
  old := fun b o q k => f.old b o (r.owned_upd q) k
  cold := f.cold
  there := fun b o q => by
    rw [upd_ne (fun z => by subst z; rw [h] at q; cases q)]
    exact f.there b o q
theorem wipeR_non {ρ : Rho} {vs : List Nat} : ∀ i ∈ vs, nonOwn (wipeR ρ vs)[i]? = true := fun i hi => by
  cases e : (wipeR ρ vs)[i]? with
  | none => rfl
  | some o =>
    cases o with
    | none => rfl
    | some s => exact absurd hi (wipeR_some e).2
theorem lcF_noexc {dep : Dep} {tg : Tg} {vs : List Nat} {cond : Rho → R Bool} {elt : Rho → R W} : ∀ (xs : List D) (ρ : Rho) (c : Nat) (ρ' : Rho), lcF dep tg vs cond elt xs ρ ≠ .exc c ρ'
  | [], ρ, c, ρ', h => by
    unfold lcF at h
    split at h <;> cases h
  | x :: xs, ρ, c, ρ', h => by
    unfold lcF at h
    split at h
    · split at h
      · cases h
      · rename_i ρ1 _
        cases e1 : noexc (cond ρ1) with
        | bad => rw [e1] at h; cases h
        | exc c' ρ2 =>
          cases e2 : cond ρ1 <;> rw [e2] at e1 <;> cases e1
        | ok b ρ2 =>
          rw [e1] at h
          simp only [R.bind_ok] at h
          cases b with
          | false => exact lcF_noexc xs _ c ρ' h
          | true =>
            simp only at h
            cases e3 : noexc (elt ρ2) with
            | bad => rw [e3] at h; cases h
            | exc c' ρ3 => cases e2 : elt ρ2 <;> rw [e2] at e3 <;> cases e3
            | ok w ρ3 =>
              rw [e3] at h
              simp only [R.bind_ok] at h
              cases w with
              | own _ => cases h
              | d y =>
                simp only at h
                cases e4 : lcF dep tg vs cond elt xs (wipeR ρ3 vs) with
                | bad => rw [e4] at h; cases h
                | exc c' ρ4 => exact lcF_noexc xs _ _ _ e4
                | ok ys ρ4 => rw [e4] at h; cases h
    · cases h
theorem lcF_cons {dep : Dep} {tg : Tg} {vs : List Nat} {cond : Rho → R Bool} {elt : Rho → R W} {x : D} {xs rest : List D} {ρ ρn : Rho} (h : lcF dep tg vs cond elt (x :: xs) ρ = .ok rest ρn) :
    chk dep ρ = true ∧ ∃ ρ1 b ρ2, tg.set [] x ρ = some ρ1 ∧ cond ρ1 = .ok b ρ2 ∧ ((b = false ∧ lcF dep tg vs cond elt xs (wipeR ρ2 vs) = .ok rest ρn) ∨
      (b = true ∧ ∃ y ρ3 ys, elt ρ2 = .ok (.d y) ρ3 ∧ lcF dep tg vs cond elt xs (wipeR ρ3 vs) = .ok ys ρn ∧ rest = y :: ys)) := by
  unfold lcF at h
  split at h
  · rename_i hc
    refine ⟨hc, ?_⟩
    split at h
    · cases h
    · rename_i ρ1 e0
      cases e1 : cond ρ1 with
      | bad => rw [e1] at h; cases h
      | exc c' ρ2 => rw [e1] at h; cases h
      | ok b ρ2 =>
        rw [e1] at h
        simp only [noexc, R.bind_ok] at h
        refine ⟨ρ1, b, ρ2, e0, e1, ?_⟩
        cases b with
        | false => exact .inl ⟨rfl, h⟩
        | true =>
          simp only at h
          cases e3 : elt ρ2 with
          | bad => rw [e3] at h; cases h
          | exc c' ρ3 => rw [e3] at h; cases h
          | ok w ρ3 =>
            rw [e3] at h
            simp only [noexc, R.bind_ok] at h
            cases w with
            | own _ => cases h
            | d y =>
              simp only at h
              cases e4 : lcF dep tg vs cond elt xs (wipeR ρ3 vs) with
              | bad => rw [e4] at h; cases h
              | exc c' ρ4 => rw [e4] at h; cases h
              | ok ys ρ4 =>
                rw [e4] at h
                simp only [R.bind_ok] at h
                cases h
                exact .inr ⟨rfl, y, ρ3, ys, rfl, e4, rfl⟩
  · cases h
/-- one turn's end -/
theorem LcSt.next {g : G} {F1 H1 F2 H2 F3 H3 F4 H4 : Hp} {ρ1 ρ2 ρ3 ρ4 : Rho} {σ σ1 : L2.St} {vs : List Nat} {Dl : Addr} {acc : List D} (st : LcSt g F1 H1 ρ1 σ vs Dl acc F2 H2 ρ2) (xt : Ext F2 H2 F3 H3)
    (hσ : ∀ i, i ∉ vs → σ1[i]? = (wipe σ vs)[i]?) (hw : wipe σ1 vs = wipe σ vs) (hρ : ∀ i s, ρ3[i]? = some (some s) → s.own = true → ρ2[i]? = some (some s) ∧ i ∉ vs)
    (fr : Frm σ1 F3 H3 ρ3 F4 H4 ρ4) (r4 : Rel g F4 ρ4 σ1 H4) : LcSt g F1 H1 ρ1 σ vs Dl acc F4 H4 (wipeR ρ4 vs) := by
  have hs : ∀ a, Owned ρ3 σ1 H3 a → Owned ρ2 (wipe σ vs) H3 a := fun a ⟨i, s, v, e1, e2, q⟩ => by
    obtain ⟨h1, h2⟩ := hρ i s e1 (ownA_own q)
    exact ⟨i, s, v, h1, by rw [← hσ i h2]; exact e2, q⟩
  have he : ∀ a, Owned (wipeR ρ4 vs) (wipe σ vs) H4 a → Owned ρ4 σ1 H4 a := fun a ⟨i, s, v, e1, e2, q⟩ => by
    obtain ⟨h1, h2⟩ := wipeR_some e1
    exact ⟨i, s, v, h1, by rw [hσ i h2]; exact e2, q⟩
  have f2 : Frm (wipe σ vs) F3 H3 ρ2 F4 H4 (wipeR ρ4 vs) := fr.conv hs he
  have f1 : Frm (wipe σ vs) F2 H2 ρ2 F3 H3 ρ2 := st.rel.frm xt
  have hp : ∀ i ∈ vs, ∀ p ∈ g.P, p.1 ≠ i := fun i hi => non_pin st.rel (st.non i hi)
  obtain ⟨us, hD, hd⟩ := st.lst
  have fD : ¬ Owned ρ2 (wipe σ vs) H2 Dl := st.free
  have f12 := f1.trans f2
  have rw4 := r4.wipe hp
  rw [hw] at rw4
  exact ⟨rw4, st.frm.trans f12, ⟨us, f12.keep _ _ hD fD, dvAll_mono f12.f hd⟩, f12.cold _ _ hD st.cold, fun q => fD (f12.old _ _ q hD), wipeR_non⟩
theorem LcSt.app {g : G} {F1 H1 F2 H2 : Hp} {ρ1 ρ2 : Rho} {σ : L2.St} {vs : List Nat} {Dl : Addr} {acc : List D} {us : List V} {v : V} {y : D} (st : LcSt g F1 H1 ρ1 σ vs Dl acc F2 H2 ρ2) (hD1 : H1 Dl = none) (h0 : g.H0 Dl = none) (hl : H2 Dl = some (.lst us)) (d : Dv F2 v y) :
    LcSt g F1 H1 ρ1 σ vs Dl (acc ++ [y]) F2 (upd H2 Dl (.lst (us ++ [v]))) ρ2 := by
  obtain ⟨us', h1, h2⟩ := st.lst
  rw [hl] at h1
  cases h1
  exact ⟨st.rel.other st.cold st.free h0, st.frm.upd st.rel hD1, ⟨_, upd_same, h2.app (.one d)⟩, st.cold, fun q => st.free (st.rel.owned_upd q), st.non⟩
theorem lc_imp {g : G} {fsrc : Rho → R (List D × Dep)} {tg : Tg} {vs : List Nat} {cond : Rho → R Bool} {elt : Rho → R W} (σ : L2.St) (H : Hp) (Q : VK) (h : tOf g (fLc fsrc tg vs cond elt) σ H Q) :
    tLc (tiOf g fsrc) (tg.g g.K) (ttOf g.blk cond) (tOf g.blk elt) vs σ H Q := by
  obtain ⟨F, ρ, r, h⟩ := h
  refine ⟨F, ρ, r, ?_⟩
  unfold fLc at h
  cases es : fsrc ρ with
  | bad => rw [es] at h; exact h
  | exc c ρ' => rw [es] at h; exact h
  | ok xd ρ1 =>
    rw [es] at h
    simp only [R.bind_ok] at h
    intro J H1 F1 Pv r1 s1 jok src Dl hD
    by_cases hc : xd.1.length ≤ 1000000 ∧ (vs.all fun i => nonOwn ρ1[i]?) = true ∧ tg.inn vs = true
    · rw [if_pos hc] at h
      obtain ⟨hlen, hv, hin⟩ := hc
      have hvs : ∀ i ∈ vs, nonOwn ρ1[i]? = true := fun i hi => List.all_eq_true.mp hv i hi
      cases eL : lcF xd.2 tg vs cond elt xd.1 (wipeR ρ1 vs) with
      | bad => rw [eL] at h; exact h.elim
      | exc c ρ' => exact absurd eL (lcF_noexc _ _ _ _)
      | ok ys ρn =>
        rw [eL] at h
        simp only [R.bind_ok] at h
        have h0 : g.H0 Dl = none := by
          cases e : g.H0 Dl with
          | none => rfl
          | some o =>
            obtain ⟨u, hu⟩ := r1.e4 _ _ e
            rw [hD] at hu
            cases hu
        have hDH : H Dl = none := s1.none_back hD
        have rw1 := r1.wipe fun i hi => non_pin r1 (hvs i hi)
        have st0 : LcSt g F1 H1 ρ1 σ vs Dl [] F1 (upd H1 Dl (.lst [])) (wipeR ρ1 vs) :=
          ⟨rw1.ext (.raw r1.sub hD), rw1.frm (.raw r1.sub hD), ⟨[], upd_same, .nil⟩, r1.sub.none hD, (fun q => by
            obtain ⟨_, o, ho⟩ := rw1.owned_some (rw1.owned_upd q)
            rw [hD] at ho
            cases ho), wipeR_non⟩
        refine ⟨fun i m H2 => m = xd.1.length - i ∧ i ≤ xd.1.length ∧ ∃ F2 ρ2 acc rest, LcSt g F1 H1 ρ1 σ vs Dl acc F2 H2 ρ2 ∧ lcF xd.2 tg vs cond elt (xd.1.drop i) ρ2 = .ok rest ρn ∧ ys = acc ++ rest ∧ acc.length ≤ i,
          ⟨_, rfl, Nat.zero_le _, F1, _, [], ys, st0, by rw [List.drop_zero]; exact eL, rfl, Nat.le_refl _⟩, ?_⟩
        rintro i m H2 ⟨rfl, hi, F2, ρ2, acc, rest, st, el, ey, ha⟩
        have agree : chk xd.2 ρ2 = true → Pv F2 H2 := fun c => src.at st.rel st.frm.f c fun j zs ed => by
          refine wipe_ne fun hj => ?_
          have hn := st.non j hj
          rw [ed] at c
          unfold chk look at c
          simp only at c
          cases e : ρ2[j]? with
          | none => rw [e] at c; cases c
          | some o =>
            cases o with
            | none => rw [e] at c; cases c
            | some s =>
              cases s with
              | l _ => rw [e] at hn; cases hn
              | d _ => rw [e] at c; cases c
              | m _ => rw [e] at c; cases c
              | t _ _ _ => rw [e] at c; cases c
              | e _ => rw [e] at c; cases c
              | z _ => rw [e] at c; cases c
        by_cases hlt : i < xd.1.length
        · have ed : xd.1.drop i = xd.1[i] :: xd.1.drop (i + 1) := List.drop_eq_getElem_cons hlt
          rw [ed] at el
          obtain ⟨hc, ρ3, b, ρ4, e1, e2, hb⟩ := lcF_cons el
          have pv := agree hc
          refine .inr ⟨jok.go F2 H2 i st.rel.sub pv hlt, fun H' => xd.1.length - (i + 1) = xd.1.length - (i + 1) ∧ i + 1 ≤ xd.1.length ∧ ∃ F2 ρ2 acc rest, LcSt g F1 H1 ρ1 σ vs Dl acc F2 H' ρ2 ∧ lcF xd.2 tg vs cond elt (xd.1.drop (i + 1)) ρ2 = .ok rest ρn ∧ ys = acc ++ rest ∧ acc.length ≤ i + 1,
            fun H' p => ⟨_, by omega, p⟩, fun v H3 hy => ?_⟩
          obtain ⟨F3, xt, dv⟩ := jok.yld F2 H2 i _ v H3 st.rel.sub pv (List.getElem?_eq_getElem hlt) hy
          have r3 := st.rel.ext xt
          refine tg_ok r3 dv (set_tg r3 hin st.non e1) fun σ1 r4 hσ hl => ?_
          have hσ' : ∀ j, j ∉ vs → σ1[j]? = (wipe σ vs)[j]? := fun j hj => hσ j fun q => hj (tg_has hin q)
          have hw : wipe σ1 vs = wipe σ vs := wipe_same (by rw [hl, wipe_length]) fun j hj => by rw [hσ' j hj, wipe_ne hj]
          have hρ : ∀ j s, ρ3[j]? = some (some s) → s.own = true → ρ2[j]? = some (some s) ∧ j ∉ vs := fun j s q ho => by
            have key : ∀ {ρa ρb : Rho} {k : Nat} {x : D}, ρb = ρa.set k (some (.d x)) → ρb[j]? = some (some s) → ρa[j]? = some (some s) := fun {ρa ρb k x} e q => by
              subst e
              rcases get_set q with ⟨_, z, _⟩ | ⟨_, z⟩
              · cases z
                cases ho
              · exact z
            have q2 : ρ2[j]? = some (some s) := by
              cases tg with
              | n a =>
                simp only [Tg.set, List.contains_nil, Bool.false_eq_true, if_false] at e1
                cases e1
                exact key rfl q
              | p a b' =>
                simp only [Tg.set, List.contains_nil, Bool.or_self, Bool.false_eq_true, if_false] at e1
                split at e1
                · cases e1
                  exact key rfl (key rfl q)
                · cases e1
            refine ⟨q2, fun hj => ?_⟩
            have := st.non j hj
            rw [q2] at this
            simp [nonOwn, ho] at this
          refine ⟨hw, F3, ρ3, r4.blk, ?_⟩
          rw [e2]
          intro H4 F4 r5 f5
          rcases hb with ⟨rfl, el2⟩ | ⟨rfl, y, ρ5, zs, e3, el2, er⟩
          · rw [if_neg Bool.false_ne_true]
            exact ⟨rfl, hlt, F4, _, acc, rest, st.next xt hσ' hw hρ f5 r5.unblk, el2, ey, Nat.le_succ_of_le ha⟩
          · rw [if_pos rfl]
            refine ⟨F4, ρ4, r5, ?_⟩
            rw [e3]
            intro v5 H5 F5 r6 f6 d6
            have stn := st.next xt hσ' hw hρ (f5.trans f6) r6.unblk
            obtain ⟨us, hu1, hu2⟩ := stn.lst
            refine ⟨us, hu1, ?_, rfl, hlt, F5, _, acc ++ [y], zs, stn.app hD h0 hu1 d6, el2, ?_, ?_⟩
            · rw [hu2.len]
              exact lim_lt (by omega)
            · rw [ey, er, List.append_assoc]
              rfl
            · rw [List.length_append, List.length_singleton]
              omega
        · have ei : i = xd.1.length := by omega
          subst ei
          rw [List.drop_length] at el
          unfold lcF at el
          split at el
          · rename_i hc
            cases el
            have pv := agree hc
            refine .inl ⟨jok.stop F2 H2 _ st.rel.sub pv (Nat.le_refl _), ?_⟩
            rw [List.append_nil] at ey
            subst ey
            obtain ⟨us, hu1, hu2⟩ := st.lst
            have rr := r1.rest st.rel st.frm.f hv
            have hs : ∀ a, Owned (wipeR ρ1 vs) (wipe σ vs) H1 a → Owned ρ1 σ H1 a := fun a ⟨j, s, v, q1, q2, q⟩ => by
              obtain ⟨n1, n2⟩ := wipeR_some q1
              exact ⟨j, s, v, n1, by rw [← wipe_ne n2]; exact q2, q⟩
            have he : ∀ a, Owned (restR ρ1 vs ρn) σ H2 a → Owned ρn (wipe σ vs) H2 a := fun a ⟨j, s, v, q1, q2, q⟩ => by
              rcases restR_some q1 with ⟨n1, n2⟩ | ⟨n1, n2⟩
              · have := hvs j n1
                rw [n2] at this
                simp [nonOwn, ownA_own q] at this
              · exact ⟨j, s, v, n2, by rw [wipe_ne n1]; exact q2, q⟩
            have fr := (st.frm.conv hs he)
            have nf : ¬ Owned (restR ρ1 vs ρn) σ H2 Dl := fun q => st.free (he _ q)
            exact h _ H2 (upd F2 Dl (.lst us)) (rr.cool hu1 st.cold nf h0) ((s1.trans fr).cool st.cold hDH) (.lst (.inl upd_same) (dvAll_mono (sub_upd st.cold) hu2))
          · cases el
    · rw [if_neg hc] at h
      exact h.elim
end FL

namespace FL
open PySem L2 PyProof.Rows

/-! ### statements -/
inductive Fl where
  | nx | rt (r : S) | bk | ct
/-- what a def hands back -/
def RRel (g : G) (F H : Hp) (ρ : Rho) (σ : L2.St) (v : V) : S → Prop
  | .d x => Dv F v x
  | s => SRel g.toZ F H v s ∧ ∀ a, ownA H v s a → g.H0 a = none ∧ ¬ Owned ρ σ H a
def tsOf (g : G) (f : Rho → R Fl) : TS := fun D σ H => ∃ F ρ, Rel g F ρ σ H ∧ match f ρ with
  | .ok .nx ρ' => ∀ σ' H' F', Rel g F' ρ' σ' H' → Sub F F' → D.nx σ' H'
  | .ok .bk ρ' => ∀ σ' H' F', Rel g F' ρ' σ' H' → Sub F F' → D.bk σ' H'
  | .ok .ct ρ' => ∀ σ' H' F', Rel g F' ρ' σ' H' → Sub F F' → D.ct σ' H'
  | .ok (.rt r) ρ' => ∀ v σ' H' F', Rel g F' ρ' σ' H' → RRel g F' H' ρ' σ' v r → D.rt v H'
  | .exc c ρ' => ∀ σ' H' F', Rel g F' ρ' σ' H' → g.W (.ref (g.cls c)) none σ' H'
  | .bad => False
theorem PS.imp {X : Cx} {st : Stmt} {t t' : TS} (h : PS X st t) (k : ∀ D σ H, t' D σ H → t D σ H) : PS X st t' :=
  ⟨fun pins s σ H D I q => h.run pins s σ H D I (k D σ H q)⟩
theorem PSs.imp {X : Cx} {st : List Stmt} {t t' : TS} (h : PSs X st t) (k : ∀ D σ H, t' D σ H → t D σ H) : PSs X st t' :=
  ⟨fun pins s σ H D I q => h.run pins s σ H D I (k D σ H q)⟩
theorem PSs.ex {X : Cx} {st : List Stmt} {α : Type} {t : α → TS} (h : ∀ a, PSs X st (t a)) : PSs X st (fun D σ H => ∃ a, t a D σ H) :=
  ⟨fun pins s σ H D I ⟨a, q⟩ => (h a).run pins s σ H D I q⟩
abbrev FS (X : Cx) (g : G) (st : Stmt) (f : Rho → R Fl) : Prop := PS X st (tsOf g f)
abbrev FSs (X : Cx) (g : G) (st : List Stmt) (f : Rho → R Fl) : Prop := PSs X st (tsOf g f)
/-- what is asked of a result, whatever it is -/
def After (g : G) (D : Ends) (F : Hp) : R Fl → Prop
  | .ok .nx ρ' => ∀ σ' H' F', Rel g F' ρ' σ' H' → Sub F F' → D.nx σ' H'
  | .ok .bk ρ' => ∀ σ' H' F', Rel g F' ρ' σ' H' → Sub F F' → D.bk σ' H'
  | .ok .ct ρ' => ∀ σ' H' F', Rel g F' ρ' σ' H' → Sub F F' → D.ct σ' H'
  | .ok (.rt r) ρ' => ∀ v σ' H' F', Rel g F' ρ' σ' H' → RRel g F' H' ρ' σ' v r → D.rt v H'
  | .exc c ρ' => ∀ σ' H' F', Rel g F' ρ' σ' H' → g.W (.ref (g.cls c)) none σ' H'
  | .bad => False
theorem tsOf_iff {g : G} {f : Rho → R Fl} {D : Ends} {σ : L2.St} {H : Hp} : tsOf g f D σ H ↔ ∃ F ρ, Rel g F ρ σ H ∧ After g D F (f ρ) := by
  unfold tsOf
  constructor
  · rintro ⟨F, ρ, r, h⟩
    refine ⟨F, ρ, r, ?_⟩
    cases e : f ρ with
    | bad => rw [e] at h; exact h
    | exc c ρ' => rw [e] at h; exact h
    | ok fl ρ' => rw [e] at h; cases fl <;> exact h
  · rintro ⟨F, ρ, r, h⟩
    refine ⟨F, ρ, r, ?_⟩
    cases e : f ρ with
    | bad => rw [e] at h; exact h
    | exc c ρ' => rw [e] at h; exact h
    | ok fl ρ' => rw [e] at h; cases fl <;> exact h
theorem After.mono {g : G} {D : Ends} {F F' : Hp} {r : R Fl} (f : Sub F F') (h : After g D F r) : After g D F' r := by
  cases r with
  | bad => exact h
  | exc c ρ => exact h
  | ok fl ρ =>
    cases fl with
    | nx => exact fun σ' H' F'' r s => h σ' H' F'' r (f.trans s)
    | bk => exact fun σ' H' F'' r s => h σ' H' F'' r (f.trans s)
    | ct => exact fun σ' H' F'' r s => h σ' H' F'' r (f.trans s)
    | rt x => exact h
def fSeq (f1 f2 : Rho → R Fl) : Rho → R Fl := fun ρ => (f1 ρ).bind fun fl ρ1 => match fl with
  | .nx => f2 ρ1
  | fl => .ok fl ρ1
def fNext : Rho → R Fl := fun ρ => .ok .nx ρ
section
variable {X : Cx} {g : G}
theorem fss_nil : FSs X g [] fNext := PSs.imp pss_nil fun D σ H ⟨F, ρ, r, h⟩ => h σ H F r (.refl _)
theorem fss_cons {st : Stmt} {rest : List Stmt} {f1 f2 : Rho → R Fl} (h1 : FS X g st f1) (h2 : FSs X g rest f2) : FSs X g (st :: rest) (fSeq f1 f2) := by
  refine PSs.imp (pss_cons h1 h2) fun D σ H h => ?_
  obtain ⟨F, ρ, r, h⟩ := tsOf_iff.mp h
  refine tsOf_iff.mpr ⟨F, ρ, r, ?_⟩
  unfold fSeq at h
  cases e : f1 ρ with
  | bad => rw [e] at h; exact h
  | exc c ρ' => rw [e] at h; exact h
  | ok fl ρ1 =>
    rw [e] at h
    cases fl with
    | nx => exact fun σ1 H1 F1 r1 s1 => tsOf_iff.mpr ⟨F1, ρ1, r1, After.mono s1 h⟩
    | bk => exact h
    | ct => exact h
    | rt x => exact h
def fDrop (f : Rho → R W) : Rho → R Fl := fun ρ => (f ρ).bind fun _ ρ1 => .ok .nx ρ1
theorem fs_expr {e : Expr} {pos : Pos} {f : Rho → R W} (h : FE X g e f) (hs : swapsWith e none pos.line X.env = pure false) : FS X g (.Expr e pos) (fDrop f) := by
  refine PS.imp (ps_expr h hs) fun D σ H h => ?_
  obtain ⟨F, ρ, r, h⟩ := h
  refine ⟨F, ρ, r, ?_⟩
  unfold fDrop at h
  cases e1 : f ρ with
  | bad => rw [e1] at h; exact h
  | exc c ρ' => rw [e1] at h; exact fun H' F' r' => h _ H' F' r'
  | ok w ρ1 => rw [e1] at h; exact fun v H1 F1 r1 s1 _ => h σ H1 F1 r1 s1.f
theorem fs_pass {pos : Pos} : FS X g (.Pass pos) fNext := PS.imp ps_pass fun D σ H ⟨F, ρ, r, h⟩ => h σ H F r (.refl _)
def fBreak : Rho → R Fl := fun ρ => .ok .bk ρ
def fCont : Rho → R Fl := fun ρ => .ok .ct ρ
/-- x = e -/
def fAsg (P : List Nat) (i : Nat) (f : Rho → R W) : Rho → R Fl := fun ρ => if P.contains i = true then .bad else (f ρ).bind fun w ρ1 => match w with
  | .d x => .ok .nx (ρ1.set i (some (.d x)))
  | .own j => if P.contains j = true then .bad else (match ρ1[j]? with
    | some (some (.l xs)) => .ok .nx ((ρ1.set j (some (.d (.list xs)))).set i (some (.d (.list xs))))
    | _ => .bad)
theorem asg_imp {i : Nat} {f : Rho → R W} (D : Ends) (σ : L2.St) (H : Hp) (h : tsOf g (fAsg g.pins i f) D σ H) : tAsg (tOf g f) (gName i) D σ H := by
  obtain ⟨F, ρ, r, h⟩ := h
  refine ⟨F, ρ, r, ?_⟩
  unfold fAsg at h
  by_cases hp : g.pins.contains i = true
  · rw [if_pos hp] at h; exact h.elim
  · rw [if_neg hp] at h
    cases e1 : f ρ with
    | bad => rw [e1] at h; exact h
    | exc c ρ' => rw [e1] at h; exact fun H' F' r' => h _ H' F' r'
    | ok w ρ1 =>
      rw [e1] at h
      simp only [R.bind_ok] at h
      intro v H1 F1 r1 s1 w1
      cases w with
      | d x => exact h _ H1 F1 (r1.setD (not_pin hp) w1) s1.f
      | own j =>
        simp only at h
        by_cases hj : g.pins.contains j = true
        · rw [if_pos hj] at h; exact h.elim
        · rw [if_neg hj] at h
          cases es : ρ1[j]? with
          | none => rw [es] at h; exact h.elim
          | some o =>
            cases o with
            | none => rw [es] at h; exact h.elim
            | some s =>
              cases s with
              | l xs =>
                rw [es] at h
                obtain ⟨F2, v', q1, r2, f2, d2⟩ := r1.freeze (not_pin hj) es
                have w1' : σ[j]? = some (some v) := w1
                rw [q1] at w1'
                cases w1'
                exact h _ H1 F2 (r2.setD (not_pin hp) d2) (s1.f.trans f2)
              | d _ => rw [es] at h; exact h.elim
              | m _ => rw [es] at h; exact h.elim
              | t _ _ _ => rw [es] at h; exact h.elim
              | e _ => rw [es] at h; exact h.elim
              | z _ => rw [es] at h; exact h.elim
theorem fs_asg {i : Nat} {x : Str} {e : Expr} {pos pos' : Pos} {f : Rho → R W} (hN : X.N.Nodup) (hi : X.N[i]? = some x) (hx : Loc X.env.scope x) (he : FE X g e f) (hs : swapsWith e (some (.Name x pos')) pos.line X.env = pure false)
    (hf : X.fn x = true ∨ X.env.scope.names.lookup x = some .local) : FS X g (.Assign [.Name x pos'] e pos) (fAsg g.pins i f) := PS.imp (ps_set hN hi hx he hs hf) asg_imp
/-- return e -/
def fRet (P : List Nat) (f : Rho → R W) : Rho → R Fl := fun ρ => (f ρ).bind fun w ρ1 => match w with
  | .d x => .ok (.rt (.d x)) ρ1
  | .own j => if P.contains j = true then .bad else (match ρ1[j]? with
    | some (some (.l xs)) => .ok (.rt (.d (.list xs))) (ρ1.set j (some (.d (.list xs))))
    | _ => .bad)
theorem fs_ret {e : Expr} {pos : Pos} {f : Rho → R W} (he : FE X g e f) : FS X g (.Return (some e) pos) (fRet g.pins f) := by
  refine PS.imp (ps_ret he) fun D σ H h => ?_
  obtain ⟨F, ρ, r, h⟩ := h
  refine ⟨F, ρ, r, ?_⟩
  unfold fRet at h
  cases e1 : f ρ with
  | bad => rw [e1] at h; exact h
  | exc c ρ' => rw [e1] at h; exact fun H' F' r' => h _ H' F' r'
  | ok w ρ1 =>
    rw [e1] at h
    simp only [R.bind_ok] at h
    intro v H1 F1 r1 s1 w1
    cases w with
    | d x => exact h v σ H1 F1 r1 w1
    | own j =>
      simp only at h
      by_cases hj : g.pins.contains j = true
      · rw [if_pos hj] at h; exact h.elim
      · rw [if_neg hj] at h
        cases es : ρ1[j]? with
        | none => rw [es] at h; exact h.elim
        | some o =>
          cases o with
          | none => rw [es] at h; exact h.elim
          | some s =>
            cases s with
            | l xs =>
              rw [es] at h
              obtain ⟨F2, v', q1, r2, f2, d2⟩ := r1.freeze (not_pin hj) es
              have w1' : σ[j]? = some (some v) := w1
              rw [q1] at w1'
              cases w1'
              exact h v σ H1 F2 r2 d2
            | d _ => rw [es] at h; exact h.elim
            | m _ => rw [es] at h; exact h.elim
            | t _ _ _ => rw [es] at h; exact h.elim
            | e _ => rw [es] at h; exact h.elim
            | z _ => rw [es] at h; exact h.elim
/-- if -/
def fIfS (fc : Rho → R Bool) (fa fb : Rho → R Fl) : Rho → R Fl := fun ρ => (fc ρ).bind fun b ρ1 => match b with
  | true => fa ρ1
  | false => fb ρ1
theorem fs_if {c : Expr} {a b : List Stmt} {pos : Pos} {fc : Rho → R Bool} {fa fb : Rho → R Fl} (hc : FT X g c fc) (ha : FSs X g a fa) (hb : FSs X g b fb) : FS X g (.If c a b pos) (fIfS fc fa fb) := by
  refine PS.imp (ps_if hc ha hb) fun D σ H h => ?_
  obtain ⟨F, ρ, r, h⟩ := tsOf_iff.mp h
  refine ⟨F, ρ, r, ?_⟩
  unfold fIfS at h
  cases e1 : fc ρ with
  | bad => rw [e1] at h; exact h
  | exc c ρ' => rw [e1] at h; exact fun H' F' r' => h _ H' F' r'
  | ok w ρ1 =>
    rw [e1] at h
    simp only [R.bind_ok] at h
    intro H1 F1 r1 s1
    cases w with
    | true => exact tsOf_iff.mpr ⟨F1, ρ1, r1, After.mono s1.f h⟩
    | false => exact tsOf_iff.mpr ⟨F1, ρ1, r1, After.mono s1.f h⟩
/-- x += e, of ints -/
def getI (ρ : Rho) (i : Nat) : Option Int := match ρ[i]? with
  | some (some (.d (.int a))) => some a
  | _ => none
theorem getI_some {ρ : Rho} {i : Nat} {a : Int} (h : getI ρ i = some a) : ρ[i]? = some (some (.d (.int a))) := by
  unfold getI at h
  split at h
  · rename_i e
    cases h
    exact e
  · cases h
def fAug (P : List Nat) (i : Nat) (f : Rho → R W) : Rho → R Fl := fun ρ => if P.contains i = true then .bad else match getI ρ i with
  | some a => (f ρ).bind fun w ρ1 => (match w with
    | .d (.int b) => .ok .nx (ρ1.set i (some (.d (.int (a + b)))))
    | _ => .bad)
  | none => .bad
theorem fs_aug {i : Nat} {x : Str} {e : Expr} {pos pos' : Pos} {f : Rho → R W} (hN : X.N.Nodup) (hi : X.N[i]? = some x) (hx : Loc X.env.scope x) (he : FE X g e f) (hf : X.fn x = true ∨ X.env.scope.names.lookup x = some .local) :
    FS X g (.AugAssign (.Name x pos') .Add e pos) (fAug g.pins i f) := by
  refine PS.imp (ps_aug hN hi hx he ip_add hf) fun D σ H h => ?_
  obtain ⟨F, ρ, r, h⟩ := tsOf_iff.mp h
  unfold fAug at h
  by_cases hp : g.pins.contains i = true
  · rw [if_pos hp] at h; exact h.elim
  · rw [if_neg hp] at h
    cases eg : getI ρ i with
    | none => rw [eg] at h; exact h.elim
    | some a =>
      rw [eg] at h
      simp only at h
      obtain ⟨v, h1, h2⟩ := r.slot i _ (getI_some eg)
      cases h2
      refine ⟨_, h1, F, ρ, r, ?_⟩
      cases e1 : f ρ with
      | bad => rw [e1] at h; exact h
      | exc c ρ' => rw [e1] at h; exact fun H' F' r' => h _ H' F' r'
      | ok w ρ1 =>
        rw [e1] at h
        simp only [R.bind_ok] at h
        intro v1 H1 F1 r1 s1 w1
        cases w with
        | own j => exact h.elim
        | d x =>
          cases x with
          | int b =>
            cases w1
            exact ⟨a, b, rfl, rfl, h _ H1 F1 (r1.setD (not_pin hp) (.int _)) s1.f⟩
          | none => exact h.elim
          | bool _ => exact h.elim
          | str _ => exact h.elim
          | list _ => exact h.elim
          | tuple _ => exact h.elim
          | dict _ => exact h.elim
/-- x = [..], an own list -/
def fOwn (P : List Nat) (i : Nat) (fs : Rho → R (List W)) : Rho → R Fl := fun ρ => if P.contains i = true then .bad else (fs ρ).bind fun ws ρ1 => match datas ws with
  | some ds => if ds.length ≤ 1000000 then .ok .nx (ρ1.set i (some (.l ds))) else .bad
  | none => .bad
theorem Rel.fresh0 {F H : Hp} {ρ : Rho} {σ : L2.St} (r : Rel g F ρ σ H) {a : Addr} (h : H a = none) : g.H0 a = none ∧ ¬ Owned ρ σ H a := by
  refine ⟨?_, fun q => ?_⟩
  · cases e : g.H0 a with
    | none => rfl
    | some o =>
      obtain ⟨u, hu⟩ := r.e4 _ _ e
      rw [h] at hu
      cases hu
  · obtain ⟨_, o, ho⟩ := r.owned_some q
    rw [h] at ho
    cases ho
/-- a new list goes to a slot as its own -/
theorem Rel.newOwn {F H : Hp} {ρ : Rho} {σ : L2.St} (r : Rel g F ρ σ H) {p : Addr} {vs : List V} {ds : List D} {i : Nat} (h : H p = none) (hp : ∀ q ∈ g.P, q.1 ≠ i) (d : DvAll F vs ds) : Rel g F (ρ.set i (some (.l ds))) (σ.set i (some (.ref p))) (upd H p (.lst vs)) := by
  obtain ⟨h0, hn⟩ := r.fresh0 h
  exact (r.ext (.raw r.sub h)).setOwn hp upd_same (r.sub.none h) d h0 fun q => hn (r.owned_upd q)
theorem fs_own {i : Nat} {x : Str} {es : List Expr} {pos pos' lpos : Pos} {fs : Rho → R (List W)} (hN : X.N.Nodup) (hi : X.N[i]? = some x) (hx : Loc X.env.scope x) (he : FA X g es fs) (hs : swapsWith (.List es lpos) (some (.Name x pos')) pos.line X.env = pure false)
    (hf : X.fn x = true ∨ X.env.scope.names.lookup x = some .local) : FS X g (.Assign [.Name x pos'] (.List es lpos) pos) (fOwn g.pins i fs) := by
  refine PS.imp (ps_set hN hi hx (pe_lst he) hs hf) fun D σ H h => ?_
  obtain ⟨F, ρ, r, h⟩ := tsOf_iff.mp h
  refine ⟨F, ρ, r, ?_⟩
  unfold fOwn at h
  by_cases hp : g.pins.contains i = true
  · rw [if_pos hp] at h; exact h.elim
  · rw [if_neg hp] at h
    cases e1 : fs ρ with
    | bad => rw [e1] at h; exact h
    | exc c ρ' => rw [e1] at h; exact fun H' F' r' => h _ H' F' r'
    | ok ws ρ1 =>
      rw [e1] at h
      simp only [R.bind_ok] at h
      intro vs H1 F1 r1 s1 w1
      cases e2 : datas ws with
      | none => rw [e2] at h; exact h.elim
      | some ds =>
        rw [e2] at h
        simp only at h
        have a := datas_all w1 e2
        by_cases hl : ds.length ≤ 1000000
        · rw [if_pos hl] at h
          exact ⟨by rw [a.len]; exact lim_ok hl, fun p hq => h _ _ F1 (r1.newOwn hq (not_pin hp) a) s1.f⟩
        · rw [if_neg hl] at h
          exact h.elim
/-- x = list(e), an own list -/
def fOwnL (P : List Nat) (i : Nat) (fs : Rho → R (List W)) : Rho → R Fl := fun ρ => if P.contains i = true then .bad else (fs ρ).bind fun ws ρ1 => match lookAll ρ1 ws with
  | some [.list ds] => .ok .nx (ρ1.set i (some (.l ds)))
  | some [.tuple ds] => .ok .nx (ρ1.set i (some (.l ds)))
  | _ => .bad
theorem fs_ownL {i : Nat} {x : Str} {e : Expr} {p pos pos' cpos : Pos} {fs : Rho → R (List W)} (hN : X.N.Nodup) (hi : X.N[i]? = some x) (hx : Loc X.env.scope x) (hg : Gl X "list") (hm : X.mg "list" = none) (he : FA X g [e] fs)
    (hst : starEach [e] X.env = (false, eval e X.env) :: starEach [] X.env) (hpl : (backTo cpos (starEach [] X.env)).any (·.1) = false)
    (hs : swapsWith (.Call (.Name "list" p) [e] [] cpos) (some (.Name x pos')) pos.line X.env = pure false)
    (hf : X.fn x = true ∨ X.env.scope.names.lookup x = some .local) : FS X g (.Assign [.Name x pos'] (.Call (.Name "list" p) [e] [] cpos) pos) (fOwnL g.pins i fs) := by
  refine PS.imp (ps_set hN hi hx (pe_callTy call_list_of hg hm (by decide +kernel) he (by decide) (by decide) hst hpl) hs hf) fun D σ H h => ?_
  obtain ⟨F, ρ, r, h⟩ := tsOf_iff.mp h
  refine ⟨F, ρ, r, ?_⟩
  unfold fOwnL at h
  by_cases hp : g.pins.contains i = true
  · rw [if_pos hp] at h; exact h.elim
  · rw [if_neg hp] at h
    cases e1 : fs ρ with
    | bad => rw [e1] at h; exact h
    | exc c ρ' => rw [e1] at h; exact fun H' F' r' => h _ H' F' r'
    | ok ws ρ1 =>
      rw [e1] at h
      simp only [R.bind_ok] at h
      intro vs H1 F1 r1 s1 w1
      cases e2 : lookAll ρ1 ws with
      | none => rw [e2] at h; exact h.elim
      | some ds =>
        rw [e2] at h
        have q := r1.lookAll w1 e2
        split at h
        · rename_i ys ez
          cases ez
          obtain ⟨v, rfl, a⟩ := q.one
          obtain ⟨b, us, rfl, h1, a1⟩ := a.lst r1.sub
          exact ⟨b, us, rfl, .inl (.inl h1), fun l hl => h _ _ F1 (r1.newOwn hl (not_pin hp) a1) s1.f⟩
        · rename_i ys ez
          cases ez
          obtain ⟨v, rfl, a⟩ := q.one
          obtain ⟨b, us, rfl, h1, a1⟩ := a.tup r1.sub
          exact ⟨b, us, rfl, .inr (.inl h1), fun l hl => h _ _ F1 (r1.newOwn hl (not_pin hp) a1) s1.f⟩
        · exact h.elim
/-! x.append(e), x.extend(e): expressions that change the own list -/
def getL (ρ : Rho) (i : Nat) : Option (List D) := match ρ[i]? with
  | some (some (.l xs)) => some xs
  | _ => none
theorem getL_some {ρ : Rho} {i : Nat} {xs : List D} (h : getL ρ i = some xs) : ρ[i]? = some (some (.l xs)) := by
  unfold getL at h
  split at h
  · rename_i e
    cases h
    exact e
  · cases h
theorem Rel.frmMut {F H : Hp} {ρ : Rho} {σ : L2.St} (r : Rel g F ρ σ H) {i : Nat} {xs ys : List D} {us : List V} {a : Addr} (e : ρ[i]? = some (some (.l xs))) (hs : σ[i]? = some (some (.ref a))) :
    Frm σ F H ρ F (upd H a (.lst us)) (ρ.set i (some (.l ys))) where
  f := .refl _
  keep := fun b o h n => by
    rw [upd_ne (fun z => by subst z; exact n ⟨i, _, _, e, hs, rfl⟩)]
    exact h
  old := fun b o ⟨j, s, v, q1, q2, q3⟩ _ => by
    rcases get_set q1 with ⟨rfl, e', _⟩ | ⟨_, e'⟩
    · cases e'
      exact ⟨j, _, v, e, q2, q3⟩
    · exact r.owned_upd ⟨j, s, v, e', q2, q3⟩
  cold := fun _ _ _ h => h
  there := fun b o h => by
    by_cases hb : b = a
    · subst hb
      exact ⟨_, upd_same⟩
    · exact ⟨o, by rw [upd_ne hb]; exact h⟩
def one? : List W → Option D
  | [.d x] => some x
  | _ => none
theorem one?_some {ws : List W} {x : D} (h : one? ws = some x) : ws = [.d x] := by
  unfold one? at h
  split at h
  · cases h; rfl
  · cases h
def oneL? : List W → Option (List D)
  | [.d (.list xs)] => some xs
  | _ => none
theorem oneL?_some {ws : List W} {x : List D} (h : oneL? ws = some x) : ws = [.d (.list x)] := by
  unfold oneL? at h
  split at h
  · cases h; rfl
  · cases h
def fApp (i : Nat) (fs : Rho → R (List W)) : Rho → R W := fun ρ => match getL ρ i with
  | none => .bad
  | some _ => (fs ρ).bind fun ws ρ1 => match one? ws, getL ρ1 i with
    | some x, some xs => if xs.length < 1000000 then .ok (.d .none) (ρ1.set i (some (.l (xs ++ [x])))) else .bad
    | _, _ => .bad
def fExt (i : Nat) (fs : Rho → R (List W)) : Rho → R W := fun ρ => match getL ρ i with
  | none => .bad
  | some _ => (fs ρ).bind fun ws ρ1 => match oneL? ws, getL ρ1 i with
    | some ys, some xs => if xs.length + ys.length ≤ 1000000 then .ok (.d .none) (ρ1.set i (some (.l (xs ++ ys)))) else .bad
    | _, _ => .bad
theorem fe_app {i : Nat} {x : Str} {e : Expr} {p apos cpos : Pos} {fs : Rho → R (List W)} (hN : X.N[i]? = some x) (hv : Vis X.env.scope x) (hd : (x == ("__debug__" : Str)) = false) (hcd : (x == ("__classdict__" : Str)) = false) (he : FA X g [e] fs)
    (hbase : attributeBase (.Name x p) "append" X.env (eval (.Name x p) X.env) = eval (.Name x p) X.env)
    (hfew : ((backTo cpos (starEach [e] X.env)).all (fun x => !x.1) && (backToKw cpos (keywordEach [] X.env)).all (fun x => x.1.isSome) && decide ([e].length + ([] : List Keyword).length + (if ([] : List Keyword).isEmpty then 0 else 1) < 30)) = true)
    (hline : (apos.endLine == cpos.line) = true) (hs : starEach [e] X.env = (false, eval e X.env) :: starEach [] X.env) (hplain : (backTo cpos (starEach [] X.env)).any (·.1) = false) :
    FE X g (.Call (.Attribute (.Name x p) "append" apos) [e] [] cpos) (fApp i fs) := by
  refine PE.imp (pe_bm PySem.F.plainAttrs_list PySem.F.slot_list_append PySem.F.type_list_append mt_append (pe_var hN hv hd hcd) he hbase hfew hline hs hplain) ?_
  rintro σ H Q ⟨F, ρ, r, h⟩
  unfold fApp at h
  cases eg : getL ρ i with
  | none => rw [eg] at h; exact h.elim
  | some xs0 =>
    rw [eg] at h
    simp only at h
    obtain ⟨v, h1, a, vs0, rfl, h2, h3, h4⟩ := r.slot i _ (getL_some eg)
    refine ⟨_, h1, .inl ⟨rfl, _, SqL.of h2⟩, F, ρ, r, ?_⟩
    cases e1 : fs ρ with
    | bad => rw [e1] at h; exact h
    | exc c ρ' => rw [e1] at h; exact h
    | ok ws ρ1 =>
      rw [e1] at h
      simp only [R.bind_ok] at h
      intro us H1 F1 r1 s1 w1
      cases ed : one? ws with
      | none => rw [ed] at h; exact h.elim
      | some x0 =>
        cases el : getL ρ1 i with
        | none => rw [ed, el] at h; exact h.elim
        | some xs =>
          rw [ed, el] at h
          simp only at h
          have ew := one?_some ed
          subst ew
          obtain ⟨v', q1, a', vs, ev, q2, q3, q4⟩ := r1.slot i _ (getL_some el)
          subst ev
          rw [h1] at q1
          cases q1
          cases w1 with
          | cons d1 d2 =>
            cases d2
            by_cases hl : xs.length < 1000000
            · rw [if_pos hl] at h
              exact ⟨a, vs, _, rfl, rfl, q2, by rw [q4.len]; exact lim_lt hl, h _ _ F1 (r1.mut (getL_some el) h1 (q4.app (.one d1))) (s1.trans (r1.frmMut (getL_some el) h1)) .non⟩
            · rw [if_neg hl] at h
              exact h.elim
def rExtendR : V → List V → Hp → VK → Prop := fun x vs H Q => ∃ l b xs zs, x = .ref l ∧ vs = [.ref b] ∧ H l = some (.lst xs) ∧ Rd H b (.lst zs) ∧ xs.length + zs.length ≤ sizeLine ∧ Q .non (upd H l (.lst (xs ++ zs)))
theorem mt_extendR : MtM X "list.extend" rExtendR := by
  intro pins s σ H x vs v us Q I rx rv h
  obtain ⟨l, b, xs, zs, rfl, rfl, hH, hB, hz, q⟩ := h
  cases rx
  obtain ⟨u, rfl, ru⟩ := rv.one
  cases ru
  obtain ⟨z, its, n, r, hl, e⟩ := I.lstM hH
  obtain ⟨z2, its2, n2, r2, hl2, e2⟩ := rdL I hB
  have hsz : its.toArray.size + its2.toArray.size ≤ sizeLine := by rw [List.size_toArray, List.size_toArray]; omega
  have hlong : ¬ (!its.toArray.isEmpty && Builtin.List.listTooLong (its.toArray.size + its2.toArray.size)) = true := by
    rw [notLongL hsz, Bool.and_false]
    exact Bool.false_ne_true
  refine call_meets F.slot_list_extend ⟨_, e, rfl⟩ F.entry_list_extend (F.args_list_extend_2 _ _)
    (AutoSeq1.list_extend_list_list_0 l its.toArray n b its2.toArray n2 hlong (by rw [List.size_toArray]; omega) (by omega)) ⟨e, e2, ?_⟩
  refine ⟨.non, _, I.lset (its' := its ++ its2) hH e (by simp) (r.append r2) ?_, rfl, q⟩
  rw [List.length_append]
  omega
theorem fe_ext {i : Nat} {x : Str} {e : Expr} {p apos cpos : Pos} {fs : Rho → R (List W)} (hN : X.N[i]? = some x) (hv : Vis X.env.scope x) (hd : (x == ("__debug__" : Str)) = false) (hcd : (x == ("__classdict__" : Str)) = false) (he : FA X g [e] fs)
    (hbase : attributeBase (.Name x p) "extend" X.env (eval (.Name x p) X.env) = eval (.Name x p) X.env)
    (hfew : ((backTo cpos (starEach [e] X.env)).all (fun x => !x.1) && (backToKw cpos (keywordEach [] X.env)).all (fun x => x.1.isSome) && decide ([e].length + ([] : List Keyword).length + (if ([] : List Keyword).isEmpty then 0 else 1) < 30)) = true)
    (hline : (apos.endLine == cpos.line) = true) (hs : starEach [e] X.env = (false, eval e X.env) :: starEach [] X.env) (hplain : (backTo cpos (starEach [] X.env)).any (·.1) = false) :
    FE X g (.Call (.Attribute (.Name x p) "extend" apos) [e] [] cpos) (fExt i fs) := by
  refine PE.imp (pe_bm PySem.F.plainAttrs_list PySem.F.slot_list_extend PySem.F.type_list_extend mt_extendR (pe_var hN hv hd hcd) he hbase hfew hline hs hplain) ?_
  rintro σ H Q ⟨F, ρ, r, h⟩
  unfold fExt at h
  cases eg : getL ρ i with
  | none => rw [eg] at h; exact h.elim
  | some xs0 =>
    rw [eg] at h
    simp only at h
    obtain ⟨v, h1, a, vs0, rfl, h2, h3, h4⟩ := r.slot i _ (getL_some eg)
    refine ⟨_, h1, .inl ⟨rfl, _, SqL.of h2⟩, F, ρ, r, ?_⟩
    cases e1 : fs ρ with
    | bad => rw [e1] at h; exact h
    | exc c ρ' => rw [e1] at h; exact h
    | ok ws ρ1 =>
      rw [e1] at h
      simp only [R.bind_ok] at h
      intro us H1 F1 r1 s1 w1
      cases ed : oneL? ws with
      | none => rw [ed] at h; exact h.elim
      | some ys =>
        cases el : getL ρ1 i with
        | none => rw [ed, el] at h; exact h.elim
        | some xs =>
          rw [ed, el] at h
          simp only at h
          have ew := oneL?_some ed
          subst ew
          obtain ⟨v', q1, a', vs, ev, q2, q3, q4⟩ := r1.slot i _ (getL_some el)
          subst ev
          rw [h1] at q1
          cases q1
          cases w1 with
          | cons d1 d2 =>
            cases d2
            cases d1 with
            | lst hr hd =>
              by_cases hl : xs.length + ys.length ≤ 1000000
              · rw [if_pos hl] at h
                exact ⟨a, _, vs, _, rfl, rfl, q2, r1.sub.rd hr, by rw [q4.len, hd.len]; exact lim_ok hl, h _ _ F1 (r1.mut (getL_some el) h1 (q4.app hd)) (s1.trans (r1.frmMut (getL_some el) h1)) .non⟩
              · rw [if_neg hl] at h
                exact h.elim
end
end FL

namespace FL
open PySem L2 PyProof.Rows

/-! ### for -/
def G.pinO (g : G) : Option (Nat × Addr) → G
  | none => g
  | some p => { g with P := p :: g.P }
def pinDep : Dep → List Nat → List Nat
  | none, P => P
  | some (i, _), P => i :: P
def forF (dep : Dep) (P : List Nat) (tg : Tg) (body : Rho → R Fl) : List D → Rho → R Fl
  | [], ρ => if chk dep ρ = true then .ok .nx ρ else .bad
  | x :: xs, ρ => if chk dep ρ = true then (match tg.set P x ρ with
      | none => .bad
      | some ρ1 => match body ρ1 with
        | .ok .nx ρ2 => forF dep P tg body xs ρ2
        | .ok .ct ρ2 => forF dep P tg body xs ρ2
        | .ok .bk ρ2 => .ok .nx ρ2
        | .ok (.rt r) ρ2 => .ok (.rt r) ρ2
        | .exc c ρ2 => .exc c ρ2
        | .bad => .bad)
    else .bad
def fFor (fsrc : Rho → R (List D × Dep)) (tg : Tg) (body : List Nat → Rho → R Fl) (P : List Nat) : Rho → R Fl := fun ρ => (fsrc ρ).bind fun xd ρ1 => forF xd.2 (pinDep xd.2 P) tg (body (pinDep xd.2 P)) xd.1 ρ1
section
variable {g : G}
theorem Rel.pinned {F H : Hp} {ρ : Rho} {σ : L2.St} (r : Rel g F ρ σ H) {i : Nat} {a : Addr} {xs : List D} (e : ρ[i]? = some (some (.l xs))) (hs : σ[i]? = some (some (.ref a))) : Rel (g.pinO (some (i, a))) F ρ σ H :=
  ⟨r.sub, r.len, r.slot, r.sep, fun p hp => by
    rcases List.mem_cons.mp hp with e' | hp
    · subst e'
      exact ⟨_, e, rfl, hs⟩
    · exact r.pin p hp, fun j s v b q1 q2 q3 => (r.new j s v b q1 q2 q3).elim .inl fun ⟨z, p, hp, hj⟩ => .inr ⟨z, p, List.mem_cons_of_mem _ hp, hj⟩, r.e1, r.e2, r.e3, r.e4⟩
theorem Rel.unpin {F H : Hp} {ρ : Rho} {σ : L2.St} {i : Nat} {a : Addr} (r : Rel (g.pinO (some (i, a))) F ρ σ H) (hn : g.H0 a = none ∨ (g.Own0 i a ∧ ∃ p ∈ g.P, p.1 = i)) : Rel g F ρ σ H :=
  ⟨r.sub, r.len, r.slot, r.sep, fun p hp => r.pin p (List.mem_cons_of_mem _ hp), fun j s v b q1 q2 q3 => by
    rcases r.new j s v b q1 q2 q3 with z | ⟨z, p, hp, hj⟩
    · exact .inl z
    · rcases List.mem_cons.mp hp with e | hp
      · subst e
        have hj' : i = j := hj
        subst hj'
        obtain ⟨s', k1, k2, k3⟩ := r.pin (i, a) List.mem_cons_self
        rw [q2] at k3
        cases k3
        have hb : b = a := by
          cases s with
          | d _ => exact q3.elim
          | e _ => exact q3.elim
          | z _ => exact q3.elim
          | l _ => exact (V.ref.inj q3).symm
          | m _ => exact (V.ref.inj q3).symm
          | t _ _ _ =>
            obtain ⟨_, _, zz⟩ := r.slot i _ q1
            exact zz.elim
        subst hb
        exact hn
      · exact .inr ⟨z, p, hp, hj⟩, r.e1, r.e2, r.e3, r.e4⟩
/-- the pins of a walk -/
theorem pins_dep {dep : Dep} {ρ : Rho} {F H : Hp} {σ : L2.St} (r : Rel g F ρ σ H) (c : chk dep ρ = true) : ∃ q, (g.pinO q).pins = pinDep dep g.pins ∧ Rel (g.pinO q) F ρ σ H ∧ (∀ {F' H' ρ' σ'}, Rel (g.pinO q) F' ρ' σ' H' → Rel g F' ρ' σ' H') ∧
    ∀ {F' H' ρ' σ'}, Rel (g.pinO q) F' ρ' σ' H' → ∀ i ys, dep = some (i, ys) → σ'[i]? = σ[i]? := by
  cases dep with
  | none => exact ⟨none, rfl, r, fun r' => r', fun _ _ _ e => by cases e⟩
  | some iy =>
    obtain ⟨i, ys⟩ := iy
    unfold chk look at c
    simp only at c
    cases e : ρ[i]? with
    | none => rw [e] at c; cases c
    | some o =>
      cases o with
      | none => rw [e] at c; cases c
      | some s =>
        cases s with
        | l xs =>
          obtain ⟨v, h1, a, vs, rfl, h2, h3, h4⟩ := r.slot i _ e
          refine ⟨some (i, a), rfl, r.pinned e h1, fun r' => r'.unpin (r.new i _ _ a e h1 rfl), fun r' j zs ed => ?_⟩
          cases ed
          obtain ⟨_, _, _, k3⟩ := r'.pin (i, a) List.mem_cons_self
          exact k3.trans h1.symm
        | d _ => rw [e] at c; cases c
        | m _ => rw [e] at c; cases c
        | t _ _ _ => rw [e] at c; cases c
        | e _ => rw [e] at c; cases c
        | z _ => rw [e] at c; cases c
theorem RRel.unpin {q : Option (Nat × Addr)} {F H : Hp} {ρ : Rho} {σ : L2.St} {v : V} {s : S} (h : RRel (g.pinO q) F H ρ σ v s) : RRel g F H ρ σ v s := by
  cases q with
  | none => exact h
  | some p =>
    cases s with
    | d x => exact h
    | l _ => exact h
    | m _ => exact h
    | t _ _ _ => exact h
    | e _ => exact h
    | z _ => exact h
theorem pinO_K {q : Option (Nat × Addr)} : (g.pinO q).K = g.K := by cases q <;> rfl
theorem pinO_W {q : Option (Nat × Addr)} : (g.pinO q).W = g.W := by cases q <;> rfl
theorem pinO_cls {q : Option (Nat × Addr)} : (g.pinO q).cls = g.cls := by cases q <;> rfl
theorem for_imp {fsrc : Rho → R (List D × Dep)} {tg : Tg} {body : List Nat → Rho → R Fl} (D : Ends) (σ : L2.St) (H : Hp) (h : tsOf g (fFor fsrc tg body g.pins) D σ H) :
    tFor (tiOf g fsrc) (tg.g g.K) (fun D σ H => ∃ q, tsOf (g.pinO q) (body (g.pinO q).pins) D σ H) D σ H := by
  obtain ⟨F, ρ, r, h⟩ := tsOf_iff.mp h
  refine ⟨F, ρ, r, ?_⟩
  unfold fFor at h
  cases es : fsrc ρ with
  | bad => rw [es] at h; exact h
  | exc c ρ' => rw [es] at h; exact fun H' F' r' => h _ H' F' r'
  | ok xd ρ1 =>
    rw [es] at h
    simp only [R.bind_ok] at h
    intro J H1 F1 Pv r1 s1 jok src
    have hc : chk xd.2 ρ1 = true := by
      cases e : chk xd.2 ρ1 with
      | true => rfl
      | false =>
        exfalso
        cases ex : xd.1 with
        | nil => rw [ex, forF, e] at h; exact h
        | cons x xs => rw [ex, forF, e] at h; exact h
    obtain ⟨q, hq, r1', un, pn⟩ := pins_dep r1 hc
    rw [← hq] at h
    refine ⟨fun k m σ' H' => m = xd.1.length - k ∧ k ≤ xd.1.length ∧ ∃ F' ρ', Rel (g.pinO q) F' ρ' σ' H' ∧ Sub F1 F' ∧ After g D F' (forF xd.2 (g.pinO q).pins tg (body (g.pinO q).pins) (xd.1.drop k) ρ'),
      ⟨_, rfl, Nat.zero_le _, F1, ρ1, r1', .refl _, by rw [List.drop_zero]; exact After.mono s1.f h⟩, ?_⟩
    rintro k m σ' H' ⟨rfl, hk, F', ρ', r', f', ha⟩
    have agree : chk xd.2 ρ' = true → Pv F' H' := fun c => src.at r' f' c fun i ys e => pn r' i ys e
    by_cases hlt : k < xd.1.length
    · have ed : xd.1.drop k = xd.1[k] :: xd.1.drop (k + 1) := List.drop_eq_getElem_cons hlt
      rw [ed, forF] at ha
      by_cases c : chk xd.2 ρ' = true
      · rw [if_pos c] at ha
        have pv := agree c
        refine .inr ⟨jok.go F' H' k r'.sub pv hlt, fun σ2 H2 => xd.1.length - (k + 1) = xd.1.length - (k + 1) ∧ k + 1 ≤ xd.1.length ∧ ∃ F' ρ', Rel (g.pinO q) F' ρ' σ2 H2 ∧ Sub F1 F' ∧ After g D F' (forF xd.2 (g.pinO q).pins tg (body (g.pinO q).pins) (xd.1.drop (k + 1)) ρ'),
          fun σ2 H2 p => ⟨_, by omega, p⟩, fun v H2 hy => ?_⟩
        obtain ⟨F2, xt, dv⟩ := jok.yld F' H' k _ v H2 r'.sub pv (List.getElem?_eq_getElem hlt) hy
        have r2 := r'.ext xt
        cases et : tg.set (g.pinO q).pins xd.1[k] ρ' with
        | none => rw [et] at ha; exact ha.elim
        | some ρ3 =>
          rw [et] at ha
          simp only at ha
          rw [← pinO_K (q := q)]
          refine tg_ok r2 dv et fun σ3 r3 _ _ => ⟨q, tsOf_iff.mpr ⟨F2, ρ3, r3, ?_⟩⟩
          cases eb : body (g.pinO q).pins ρ3 with
          | bad => rw [eb] at ha; exact ha
          | exc c ρ4 =>
            rw [eb] at ha
            intro σ4 H4 F4 r4
            rw [pinO_W, pinO_cls]
            exact ha σ4 H4 F4 (un r4)
          | ok fl ρ4 =>
            rw [eb] at ha
            cases fl with
            | nx => exact fun σ4 H4 F4 r4 s4 => ⟨rfl, hlt, F4, ρ4, r4, (f'.trans xt.f).trans s4, After.mono (xt.f.trans s4) ha⟩
            | ct => exact fun σ4 H4 F4 r4 s4 => ⟨rfl, hlt, F4, ρ4, r4, (f'.trans xt.f).trans s4, After.mono (xt.f.trans s4) ha⟩
            | bk => exact fun σ4 H4 F4 r4 s4 => ha σ4 H4 F4 (un r4) (xt.f.trans s4)
            | rt x => exact fun v σ4 H4 F4 r4 rr => ha v σ4 H4 F4 (un r4) rr.unpin
      · rw [if_neg c] at ha
        exact ha.elim
    · have ek : k = xd.1.length := by omega
      subst ek
      rw [List.drop_length, forF] at ha
      by_cases c : chk xd.2 ρ' = true
      · rw [if_pos c] at ha
        exact .inl ⟨jok.stop F' H' _ r'.sub (agree c) (Nat.le_refl _), ha σ' H' F' (un r') (.refl _)⟩
      · rw [if_neg c] at ha
        exact ha.elim
/-! ### while -/
def whileF (fc : Rho → R Bool) (body : Rho → R Fl) : Nat → Rho → R Fl
  | 0, _ => .bad
  | n + 1, ρ => (fc ρ).bind fun b ρ1 => match b with
    | false => .ok .nx ρ1
    | true => match body ρ1 with
      | .ok .nx ρ2 => whileF fc body n ρ2
      | .ok .ct ρ2 => whileF fc body n ρ2
      | .ok .bk ρ2 => .ok .nx ρ2
      | .ok (.rt r) ρ2 => .ok (.rt r) ρ2
      | .exc c ρ2 => .exc c ρ2
      | .bad => .bad
theorem while_imp {fc : Rho → R Bool} {body : Rho → R Fl} {n : Nat} (D : Ends) (σ : L2.St) (H : Hp) (h : tsOf g (whileF fc body n) D σ H) : tWhile (ttOf g fc) (tsOf g body) D σ H := by
  obtain ⟨F, ρ, r, h⟩ := tsOf_iff.mp h
  refine ⟨fun m σ' H' => ∃ F' ρ', Rel g F' ρ' σ' H' ∧ Sub F F' ∧ After g D F' (whileF fc body m ρ'), ⟨n, F, ρ, r, .refl _, h⟩, ?_⟩
  rintro m σ' H' ⟨F', ρ', r', f', ha⟩
  cases m with
  | zero => exact ha.elim
  | succ m =>
    rw [whileF] at ha
    refine ⟨F', ρ', r', ?_⟩
    cases e1 : fc ρ' with
    | bad => rw [e1] at ha; exact ha
    | exc c ρ2 => rw [e1] at ha; exact fun H2 F2 r2 => ha _ H2 F2 r2
    | ok b ρ2 =>
      rw [e1] at ha
      simp only [R.bind_ok] at ha
      intro H2 F2 r2 s2
      cases b with
      | false =>
        rw [if_neg Bool.false_ne_true]
        exact ha σ' H2 F2 r2 s2.f
      | true =>
        rw [if_pos rfl]
        simp only at ha
        refine ⟨fun σ3 H3 => ∃ F' ρ', Rel g F' ρ' σ3 H3 ∧ Sub F F' ∧ After g D F' (whileF fc body m ρ'), fun σ3 H3 p => ⟨m, Nat.lt_succ_self m, p⟩, tsOf_iff.mpr ⟨F2, ρ2, r2, ?_⟩⟩
        cases eb : body ρ2 with
        | bad => rw [eb] at ha; exact ha
        | exc c ρ4 => rw [eb] at ha; exact ha
        | ok fl ρ4 =>
          rw [eb] at ha
          cases fl with
          | nx => exact fun σ4 H4 F4 r4 s4 => ⟨F4, ρ4, r4, (f'.trans s2.f).trans s4, After.mono (s2.f.trans s4) ha⟩
          | ct => exact fun σ4 H4 F4 r4 s4 => ⟨F4, ρ4, r4, (f'.trans s2.f).trans s4, After.mono (s2.f.trans s4) ha⟩
          | bk => exact fun σ4 H4 F4 r4 s4 => ha σ4 H4 F4 r4 (s2.f.trans s4)
          | rt x => exact fun v σ4 H4 F4 r4 rr => ha v σ4 H4 F4 r4 rr
end
end FL

namespace FL
open PySem L2 PyProof.Rows

/-! ### a def's promise, by a function -/
def OwnedI (H : Hp) (vs : List V) (ss : List S) (i : Nat) (a : Addr) : Prop := ∃ s v, ss[i]? = some s ∧ vs[i]? = some v ∧ ownA H v s a
structure Args (z : Z) (F H : Hp) (vs : List V) (ss : List S) : Prop where
  sub : Sub F H
  len : vs.length = ss.length
  slot : ∀ (i : Nat) s, ss[i]? = some s → ∃ v, vs[i]? = some v ∧ SRel z F H v s
  sep : ∀ (i j : Nat) a, i ≠ j → OwnedI H vs ss i a → ¬ OwnedI H vs ss j a
structure Post (z : Z) (F H : Hp) (vs : List V) (ss : List S) (F' H' : Hp) (ss' : List S) : Prop where
  f : Sub F F'
  args : Args z F' H' vs ss'
  own : ∀ (i : Nat) s s', ss[i]? = some s → ss'[i]? = some s' → s'.own = s.own
  old : ∀ (i : Nat) a, OwnedI H' vs ss' i a → H a = none ∨ OwnedI H vs ss i a
  keep : ∀ a o, H a = some o → (¬ ∃ i, OwnedI H vs ss i a) → H' a = some o
  cold : ∀ a o, H a = some o → F a = none → F' a = none
  there : ∀ a o, H a = some o → ∃ u, H' a = some u
def Ret (z : Z) (H F' H' : Hp) (vs : List V) (ss' : List S) (v : V) : S → Prop
  | .d x => Dv F' v x
  | s => SRel z F' H' v s ∧ ∀ a, ownA H' v s a → H a = none ∧ ¬ ∃ i, OwnedI H' vs ss' i a
def spF (z : Z) (n : Nat) (m : FM) : Sp := fun vs H Q E => vs.length = n ∧ ∃ F ss, Args z F H vs ss ∧ match m ss with
  | .ret r ss' => ∀ v H' F', Post z F H vs ss F' H' ss' → Ret z H F' H' vs ss' v r → Q v H'
  | .exc c ss' => ∀ H' F', Post z F H vs ss F' H' ss' → E (.ref (z.cls c)) none H'
  | .bad => False
/-! the call -/
def argS (ρ : Rho) : List W → Option (List S)
  | [] => some []
  | .d x :: r => (argS ρ r).map (.d x :: ·)
  | .own i :: r => match ρ[i]? with
    | some (some s) => (argS ρ r).map (s :: ·)
    | _ => none
def ownIx : List W → List Nat
  | [] => []
  | .d _ :: r => ownIx r
  | .own i :: r => i :: ownIx r
def nodupB : List Nat → Bool
  | [] => true
  | x :: xs => !xs.contains x && nodupB xs
def putBack : Rho → List W → List S → Rho
  | ρ, .own i :: ws, s :: ss => putBack (ρ.set i (some s)) ws ss
  | ρ, .d _ :: ws, _ :: ss => putBack ρ ws ss
  | ρ, _, _ => ρ
def fCall (m : FM) (fas : Rho → R (List W)) : Rho → R W := fun ρ => (fas ρ).bind fun ws ρ1 => match argS ρ1 ws with
  | none => .bad
  | some ss => if nodupB (ownIx ws) = true then (match m ss with
    | .ret (.d x) ss' => .ok (.d x) (putBack ρ1 ws ss')
    | .exc c ss' => .exc c (putBack ρ1 ws ss')
    | _ => .bad) else .bad
theorem argS_len {ρ : Rho} : ∀ {ws : List W} {ss : List S}, argS ρ ws = some ss → ss.length = ws.length
  | [], _, h => by cases h; rfl
  | .d x :: r, ss, h => by
    have h' : (argS ρ r).map (S.d x :: ·) = some ss := h
    cases e : argS ρ r with
    | none => rw [e] at h'; cases h'
    | some ts => rw [e] at h'; cases h'; rw [List.length_cons, List.length_cons, argS_len e]
  | .own i :: r, ss, h => by
    unfold argS at h
    split at h
    · rename_i s _
      cases e : argS ρ r with
      | none => rw [e] at h; cases h
      | some ts => rw [e] at h; cases h; rw [List.length_cons, List.length_cons, argS_len e]
    · cases h
theorem argS_get {ρ : Rho} : ∀ {ws : List W} {ss : List S} {k : Nat} {w : W}, argS ρ ws = some ss → ws[k]? = some w → ∃ s, ss[k]? = some s ∧ (match w with | .d x => s = .d x | .own i => ρ[i]? = some (some s))
  | [], _, _, _, _, h => by simp at h
  | .d x :: r, ss, k, w, h, hk => by
    have h' : (argS ρ r).map (S.d x :: ·) = some ss := h
    cases e : argS ρ r with
    | none => rw [e] at h'; cases h'
    | some ts =>
      rw [e] at h'
      cases h'
      cases k with
      | zero => simp at hk; subst hk; exact ⟨_, rfl, rfl⟩
      | succ k =>
        obtain ⟨s, h1, h2⟩ := argS_get e (k := k) (by simpa using hk)
        exact ⟨s, by simpa using h1, h2⟩
  | .own i :: r, ss, k, w, h, hk => by
    unfold argS at h
    split at h
    · rename_i s es
      cases e : argS ρ r with
      | none => rw [e] at h; cases h
      | some ts =>
        rw [e] at h
        cases h
        cases k with
        | zero => simp at hk; subst hk; exact ⟨_, rfl, es⟩
        | succ k =>
          obtain ⟨s', h1, h2⟩ := argS_get e (k := k) (by simpa using hk)
          exact ⟨s', by simpa using h1, h2⟩
    · cases h
theorem mem_ownIx {i : Nat} : ∀ {ws : List W}, i ∈ ownIx ws ↔ ∃ k : Nat, ws[k]? = some (W.own i)
  | [] => by simp [ownIx]
  | .d x :: r => by
    rw [ownIx, mem_ownIx]
    constructor
    · rintro ⟨k, h⟩; exact ⟨k + 1, by simpa using h⟩
    · rintro ⟨k, h⟩
      cases k with
      | zero => simp at h
      | succ k => exact ⟨k, by simpa using h⟩
  | .own j :: r => by
    rw [ownIx, List.mem_cons, mem_ownIx]
    constructor
    · rintro (h | ⟨k, h⟩)
      · exact ⟨0, by simp [h]⟩
      · exact ⟨k + 1, by simpa using h⟩
    · rintro ⟨k, h⟩
      cases k with
      | zero => simp at h; exact .inl h.symm
      | succ k => exact .inr ⟨k, by simpa using h⟩
theorem own_inj {i : Nat} : ∀ {ws : List W} {k l : Nat}, nodupB (ownIx ws) = true → ws[k]? = some (W.own i) → ws[l]? = some (W.own i) → k = l
  | [], _, _, _, h, _ => by simp at h
  | .d x :: r, k, l, hn, h1, h2 => by
    cases k with
    | zero => simp at h1
    | succ k =>
      cases l with
      | zero => simp at h2
      | succ l => exact congrArg (· + 1) (own_inj (ws := r) (by simpa [ownIx] using hn) (by simpa using h1) (by simpa using h2))
  | .own j :: r, k, l, hn, h1, h2 => by
    rw [ownIx, nodupB, Bool.and_eq_true] at hn
    have hj : j ∉ ownIx r := by simpa using hn.1
    cases k with
    | zero =>
      cases l with
      | zero => rfl
      | succ l =>
        simp at h1
        subst h1
        exact absurd (mem_ownIx.mpr ⟨l, by simpa using h2⟩) hj
    | succ k =>
      cases l with
      | zero =>
        simp at h2
        subst h2
        exact absurd (mem_ownIx.mpr ⟨k, by simpa using h1⟩) hj
      | succ l => exact congrArg (· + 1) (own_inj (ws := r) hn.2 (by simpa using h1) (by simpa using h2))
theorem putBack_len : ∀ {ρ : Rho} {ws : List W} {ss : List S}, (putBack ρ ws ss).length = ρ.length
  | ρ, .own i :: ws, s :: ss => by rw [putBack, putBack_len, List.length_set]
  | ρ, .d _ :: ws, _ :: ss => by rw [putBack, putBack_len]
  | ρ, [], _ => by simp [putBack]
  | ρ, .own i :: ws, [] => by simp [putBack]
  | ρ, .d i :: ws, [] => by simp [putBack]
/-- a slot behind the call: not handed over, or handed over as the k-th argument -/
theorem putBack_get {j : Nat} : ∀ {ρ : Rho} {ws : List W} {ss : List S}, ss.length = ws.length → nodupB (ownIx ws) = true → (∀ i ∈ ownIx ws, i < ρ.length) →
    ((∀ k : Nat, ws[k]? ≠ some (W.own j)) ∧ (putBack ρ ws ss)[j]? = ρ[j]?) ∨ ∃ (k : Nat) (s : S), ws[k]? = some (W.own j) ∧ ss[k]? = some s ∧ (putBack ρ ws ss)[j]? = some (some s)
  | ρ, [], ss, _, _, _ => .inl ⟨fun k => by simp, by simp [putBack]⟩
  | ρ, .d x :: ws, [], hl, _, _ => by simp at hl
  | ρ, .own i :: ws, [], hl, _, _ => by simp at hl
  | ρ, .d x :: ws, s :: ss, hl, hn, hb => by
    rcases putBack_get (j := j) (ρ := ρ) (ws := ws) (ss := ss) (by simpa using hl) (by simpa [ownIx] using hn) (by simpa [ownIx] using hb) with ⟨h1, h2⟩ | ⟨k, s', h1, h2, h3⟩
    · refine .inl ⟨fun k => ?_, by rw [putBack]; exact h2⟩
      cases k with
      | zero => simp
      | succ k => simpa using h1 k
    · exact .inr ⟨k + 1, s', by simpa using h1, by simpa using h2, by rw [putBack]; exact h3⟩
  | ρ, .own i :: ws, s :: ss, hl, hn, hb => by
    rw [ownIx, nodupB, Bool.and_eq_true] at hn
    have hi : i ∉ ownIx ws := by simpa using hn.1
    have hlt : i < ρ.length := hb i (by simp [ownIx])
    rcases putBack_get (j := j) (ρ := ρ.set i (some s)) (ws := ws) (ss := ss) (by simpa using hl) hn.2 (fun l hl' => by rw [List.length_set]; exact hb l (by simp [ownIx, hl'])) with ⟨h1, h2⟩ | ⟨k, s', h1, h2, h3⟩
    · by_cases hj : j = i
      · subst hj
        rw [List.getElem?_set_self hlt] at h2
        exact .inr ⟨0, s, by simp, by simp, by rw [putBack]; exact h2⟩
      · rw [List.getElem?_set_ne (Ne.symm hj)] at h2
        refine .inl ⟨fun k => ?_, by rw [putBack]; exact h2⟩
        cases k with
        | zero => simp; exact fun e => hj e.symm
        | succ k => simpa using h1 k
    · exact .inr ⟨k + 1, s', by simpa using h1, by simpa using h2, by rw [putBack]; exact h3⟩
theorem wrel_get {g : G} {F : Hp} {σ : L2.St} : ∀ {vs : List V} {ws : List W} {k : Nat} {w : W}, WRelAll g F σ vs ws → ws[k]? = some w → ∃ v, vs[k]? = some v ∧ WRel g F σ v w
  | _, _, _, _, .nil, h => by simp at h
  | _, _, 0, _, .cons a _, h => by simp at h; subst h; exact ⟨_, rfl, a⟩
  | _, _, k + 1, _, .cons _ b, h => by
    obtain ⟨v, h1, h2⟩ := wrel_get b (k := k) (by simpa using h)
    exact ⟨v, by simpa using h1, h2⟩
theorem wrel_len {g : G} {F : Hp} {σ : L2.St} : ∀ {vs : List V} {ws : List W}, WRelAll g F σ vs ws → vs.length = ws.length
  | _, _, .nil => rfl
  | _, _, .cons _ b => by rw [List.length_cons, List.length_cons, wrel_len b]
section
variable {g : G} {F H : Hp} {ρ : Rho} {σ : L2.St} {vs : List V} {ws : List W} {ss : List S}
theorem owned_arg (r : Rel g F ρ σ H) (w : WRelAll g F σ vs ws) (ea : argS ρ ws = some ss) {k : Nat} {a : Addr} (h : OwnedI H vs ss k a) : ∃ i s v, ws[k]? = some (W.own i) ∧ ss[k]? = some s ∧ vs[k]? = some v ∧ ρ[i]? = some (some s) ∧ σ[i]? = some (some v) ∧ ownA H v s a := by
  obtain ⟨s, v, h1, h2, h3⟩ := h
  have hk : k < ws.length := by rw [← argS_len ea]; exact (List.getElem?_eq_some_iff.mp h1).1
  have ew : ws[k]? = some ws[k] := List.getElem?_eq_getElem hk
  obtain ⟨s', q1, q2⟩ := argS_get ea ew
  rw [h1] at q1
  cases q1
  obtain ⟨v', q3, q4⟩ := wrel_get w ew
  rw [h2] at q3
  cases q3
  cases e : ws[k] with
  | d x =>
    rw [e] at q2
    have q2' : s = .d x := q2
    subst q2'
    exact h3.elim
  | own i =>
    rw [e] at q2 q4 ew
    exact ⟨i, s, v, ew, h1, h2, q2, q4, h3⟩
theorem args_of (r : Rel g F ρ σ H) (w : WRelAll g F σ vs ws) (ea : argS ρ ws = some ss) (hn : nodupB (ownIx ws) = true) : Args g.toZ F H vs ss where
  sub := r.sub
  len := by rw [wrel_len w, argS_len ea]
  slot := fun k s e => by
    have hk : k < ws.length := by rw [← argS_len ea]; exact (List.getElem?_eq_some_iff.mp e).1
    have ew : ws[k]? = some ws[k] := List.getElem?_eq_getElem hk
    obtain ⟨s', q1, q2⟩ := argS_get ea ew
    rw [e] at q1
    cases q1
    obtain ⟨v, q3, q4⟩ := wrel_get w ew
    refine ⟨v, q3, ?_⟩
    cases e2 : ws[k] with
    | d x =>
      rw [e2] at q2 q4
      have q2' : s = .d x := q2
      subst q2'
      exact q4
    | own i =>
      rw [e2] at q2 q4
      obtain ⟨v', q5, q6⟩ := r.slot i s q2
      have q4' : σ[i]? = some (some v) := q4
      rw [q5] at q4'
      cases q4'
      exact q6
  sep := fun k l a ne h1 h2 => by
    obtain ⟨i, s, v, a1, a2, a3, a4, a5, a6⟩ := owned_arg r w ea h1
    obtain ⟨j, t, u, b1, b2, b3, b4, b5, b6⟩ := owned_arg r w ea h2
    by_cases hij : i = j
    · subst hij
      exact ne (own_inj hn a1 b1)
    · exact r.sep i j s t v u a hij a4 b4 a5 b5 a6 b6
theorem ownA_keep {z : Z} {F H H' : Hp} {v : V} {s : S} {a : Addr} (r : SRel z F H v s) (k : ∀ b o, ownA H v s b → H b = some o → H' b = some o) : ownA H' v s a ↔ ownA H v s a := by
  cases s with
  | d _ => exact Iff.rfl
  | e _ => exact Iff.rfl
  | z _ => exact Iff.rfl
  | l _ => exact Iff.rfl
  | m _ => exact Iff.rfl
  | t _ _ _ => exact r.elim
theorem SRel.keep {z : Z} {F H F' H' : Hp} {v : V} {s : S} (r : SRel z F H v s) (f : Sub F F') (k : ∀ b o, ownA H v s b → H b = some o → H' b = some o) (c : ∀ b o, H b = some o → F b = none → F' b = none) : SRel z F' H' v s := by
  cases s with
  | d x => exact dv_mono f r
  | e _ => exact r
  | z _ =>
    obtain ⟨a, e, h⟩ := r
    exact ⟨a, e, f.sqL h⟩
  | l xs =>
    obtain ⟨a, us, rfl, h1, h2, h3⟩ := r
    exact ⟨a, us, rfl, k a _ rfl h1, c a _ h1 h2, dvAll_mono f h3⟩
  | m _ =>
    obtain ⟨a, us, rfl, h1, h2, h4, h3⟩ := r
    exact ⟨a, us, rfl, k a _ rfl h1, c a _ h1 h2, h4, h3.mono f⟩
  | t _ _ _ => exact r.elim
theorem call_back {F' H' : Hp} {ss' : List S} (r : Rel g F ρ σ H) (w : WRelAll g F σ vs ws) (ea : argS ρ ws = some ss) (hn : nodupB (ownIx ws) = true) (p : Post g.toZ F H vs ss F' H' ss') :
    Rel g F' (putBack ρ ws ss') σ H' ∧ Frm σ F H ρ F' H' (putBack ρ ws ss') := by
  have hl : ss'.length = ws.length := by rw [← p.args.len, wrel_len w]
  have hb : ∀ i ∈ ownIx ws, i < ρ.length := fun i hi => by
    obtain ⟨k, hk⟩ := mem_ownIx.mp hi
    obtain ⟨s, _, h2⟩ := argS_get ea hk
    exact (List.getElem?_eq_some_iff.mp h2).1
  -- a slot that was handed over
  have gone : ∀ {j k s'}, ws[k]? = some (W.own j) → ss'[k]? = some s' → ∃ s v, ρ[j]? = some (some s) ∧ ss[k]? = some s ∧ σ[j]? = some (some v) ∧ vs[k]? = some v ∧ SRel g.toZ F' H' v s' ∧ s'.own = s.own := fun {j k s'} h1 h2 => by
    obtain ⟨s, q1, q2⟩ := argS_get ea h1
    obtain ⟨v, q3, q4⟩ := wrel_get w h1
    obtain ⟨v', q5, q6⟩ := p.args.slot k s' h2
    rw [q3] at q5
    cases q5
    exact ⟨s, v, q2, q1, q4, q3, q6, p.own k s s' q1 h2⟩
  -- a slot that was not
  have stay : ∀ {j s v a}, (∀ k : Nat, ws[k]? ≠ some (W.own j)) → ρ[j]? = some (some s) → σ[j]? = some (some v) → ownA H v s a → ¬ ∃ i, OwnedI H vs ss i a := fun {j s v a} hj e1 e2 q ⟨k, ho⟩ => by
    obtain ⟨i, t, u, a1, a2, a3, a4, a5, a6⟩ := owned_arg r w ea ho
    have hij : i ≠ j := fun z => by rw [z] at a1; exact hj k a1
    exact r.sep i j t s u v a hij a4 e1 a5 e2 a6 q
  have stayO : ∀ {j s v a}, (∀ k : Nat, ws[k]? ≠ some (W.own j)) → ρ[j]? = some (some s) → σ[j]? = some (some v) → (ownA H' v s a ↔ ownA H v s a) := fun {j s v a} hj e1 e2 => by
    obtain ⟨v', q1, q2⟩ := r.slot j s e1
    rw [e2] at q1
    cases q1
    exact ownA_keep q2 fun b o hb' ho => p.keep b o ho (stay hj e1 e2 hb')
  -- what an own slot owns behind the call
  have back : ∀ {j s' v a}, (putBack ρ ws ss')[j]? = some (some s') → σ[j]? = some (some v) → ownA H' v s' a → (H a = none ∧ ∃ k : Nat, ws[k]? = some (W.own j) ∧ OwnedI H' vs ss' k a) ∨ (∃ s, ρ[j]? = some (some s) ∧ ownA H v s a ∧ ((∃ k : Nat, ws[k]? = some (W.own j) ∧ OwnedI H' vs ss' k a) ∨ ∀ k : Nat, ws[k]? ≠ some (W.own j))) := fun {j s' v a} e1 e2 q => by
    rcases putBack_get (j := j) hl hn hb with ⟨h1, h2⟩ | ⟨k, s2, h1, h2, h3⟩
    · rw [h2] at e1
      exact .inr ⟨s', e1, (stayO h1 e1 e2).mp q, .inr h1⟩
    · rw [h3] at e1
      cases e1
      obtain ⟨s, v', m1, m2, m3, m4, m5, m6⟩ := gone h1 h2
      rw [e2] at m3
      cases m3
      have oi : OwnedI H' vs ss' k a := ⟨s', v, h2, m4, q⟩
      rcases p.old k a oi with z | ⟨s3, v3, z1, z2, z3⟩
      · exact .inl ⟨z, k, h1, oi⟩
      · rw [m2] at z1
        cases z1
        rw [m4] at z2
        cases z2
        exact .inr ⟨s, m1, z3, .inl ⟨k, h1, oi⟩⟩
  refine ⟨⟨p.args.sub, by rw [putBack_len]; exact r.len, fun j s' e => ?_, fun i j s t v u a ne e1 e2 e3 e4 q1 q2 => ?_, fun q hq => ?_, fun j s' v a e1 e2 q => ?_, r.e1.trans p.f, fun a o h n => ?_, fun a o h n => ?_, fun a o h => ?_⟩, p.f, fun a o h n => ?_, fun a o q h => ?_, p.cold, p.there⟩
  · rcases putBack_get (j := j) hl hn hb with ⟨h1, h2⟩ | ⟨k, s2, h1, h2, h3⟩
    · rw [h2] at e
      obtain ⟨v, q1, q2⟩ := r.slot j s' e
      exact ⟨v, q1, q2.keep p.f (fun b o hb' ho => p.keep b o ho (stay h1 e q1 hb')) p.cold⟩
    · rw [h3] at e
      cases e
      obtain ⟨s, v, m1, m2, m3, m4, m5, m6⟩ := gone h1 h2
      exact ⟨v, m3, m5⟩
  · have tr : ∀ {j s v}, ρ[j]? = some (some s) → σ[j]? = some (some v) → ownA H v s a → ∃ o, H a = some o := fun {j s v} k1 k2 k3 => by
      obtain ⟨v', z1, z2⟩ := r.slot j s k1
      rw [k2] at z1
      cases z1
      exact (z2.owned k3).2
    rcases back e1 e3 q1 with ⟨z1, k, hk, ok⟩ | ⟨s1, m1, m2, m3⟩
    · rcases back e2 e4 q2 with ⟨_, l, hl', ol⟩ | ⟨t1, n1, n2, _⟩
      · by_cases hkl : k = l
        · subst hkl
          rw [hk] at hl'
          cases hl'
          exact ne rfl
        · exact p.args.sep k l a hkl ok ol
      · obtain ⟨o, ho⟩ := tr n1 e4 n2
        rw [z1] at ho
        cases ho
    · rcases back e2 e4 q2 with ⟨z2, _⟩ | ⟨t1, n1, n2, _⟩
      · obtain ⟨o, ho⟩ := tr m1 e3 m2
        rw [z2] at ho
        cases ho
      · exact r.sep i j s1 t1 v u a ne m1 n1 e3 e4 m2 n2
  · obtain ⟨s, k1, k2, k3⟩ := r.pin q hq
    rcases putBack_get (j := q.1) hl hn hb with ⟨h1, h2⟩ | ⟨k, s2, h1, h2, h3⟩
    · exact ⟨s, by rw [h2]; exact k1, k2, k3⟩
    · obtain ⟨s', v, m1, m2, m3, m4, m5, m6⟩ := gone h1 h2
      rw [k1] at m1
      cases m1
      exact ⟨s2, h3, by rw [m6]; exact k2, k3⟩
  · rcases back e1 e2 q with ⟨z1, _⟩ | ⟨s, m1, m2, _⟩
    · left
      cases e : g.H0 a with
      | none => rfl
      | some o =>
        obtain ⟨u, hu⟩ := r.e4 _ _ e
        rw [z1] at hu
        cases hu
    · exact r.new j s v a m1 e2 m2
  · refine p.keep a o (r.e2 a o h n) fun ⟨k, ho⟩ => ?_
    obtain ⟨i, t, u, a1, a2, a3, a4, a5, a6⟩ := owned_arg r w ea ho
    rcases r.new i t u a a4 a5 a6 with z | ⟨z, _⟩
    · rw [z] at h; cases h
    · exact n ⟨i, z⟩
  · obtain ⟨u, hu⟩ := r.e4 a o h
    exact p.cold a u hu (r.e3 a o h n)
  · obtain ⟨u, hu⟩ := r.e4 a o h
    exact p.there a u hu
  · refine p.keep a o h fun ⟨k, ho⟩ => ?_
    obtain ⟨i, t, u, a1, a2, a3, a4, a5, a6⟩ := owned_arg r w ea ho
    exact n ⟨i, t, u, a4, a5, a6⟩
  · obtain ⟨j, s', v, q1, q2, q3⟩ := q
    rcases back q1 q2 q3 with ⟨z1, _⟩ | ⟨s, m1, m2, _⟩
    · rw [z1] at h; cases h
    · exact ⟨j, s, v, m1, q2, m2⟩
end
theorem call_imp {g : G} {m : FM} {n : Nat} {fas : Rho → R (List W)} (hn : ∀ ρ ws ρ1, fas ρ = .ok ws ρ1 → ws.length = n) (σ : L2.St) (H : Hp) (Q : VK) (h : tOf g (fCall m fas) σ H Q) : tCallS (spF g.toZ n m) (WE g.W) (taOf g fas) σ H Q := by
  obtain ⟨F, ρ, r, h⟩ := h
  refine ⟨F, ρ, r, ?_⟩
  unfold fCall at h
  cases e1 : fas ρ with
  | bad => rw [e1] at h; exact h
  | exc c ρ' => rw [e1] at h; exact h
  | ok ws ρ1 =>
    rw [e1] at h
    simp only [R.bind_ok] at h
    intro vs H1 F1 r1 s1 w1
    refine ⟨by rw [wrel_len w1]; exact hn _ _ _ e1, ?_⟩
    cases ea : argS ρ1 ws with
    | none => rw [ea] at h; exact h.elim
    | some ss =>
      rw [ea] at h
      simp only at h
      by_cases hd : nodupB (ownIx ws) = true
      · rw [if_pos hd] at h
        refine ⟨F1, ss, args_of r1 w1 ea hd, ?_⟩
        cases em : m ss with
        | bad => rw [em] at h; exact h
        | exc c ss' =>
          rw [em] at h
          exact fun H' F' p => h H' F' (call_back r1 w1 ea hd p).1
        | ret x ss' =>
          rw [em] at h
          cases x with
          | d y =>
            exact fun v H' F' p d => h v H' F' (call_back r1 w1 ea hd p).1 (s1.trans (call_back r1 w1 ea hd p).2) d
          | l _ => exact h.elim
          | m _ => exact h.elim
          | t _ _ _ => exact h.elim
          | e _ => exact h.elim
          | z _ => exact h.elim
      · rw [if_neg hd] at h
        exact h.elim
theorem fe_call {X : Cx} {g : G} {k n : Nat} {f : Addr} {fd : FuncData} {ps : List Str} {m : FM} {x : Str} {p pos : Pos} {e : Expr} {es : List Expr} {fas : Rho → R (List W)}
    (Fn : FnOk X.prog X.w X.K X.mg X.base (L2.CX X.prog X.w) k f fd ps (spF g.toZ n m)) (hr : Room k X.A) (hg : Gl X x) (hm : X.mg x = some (.ref f)) (hk : PySem.W.keepIn X.K (.ref f) = true) (hb : Binds X.K fd ps []) (tk : Takes X g.W)
    (ha : FA X g (e :: es) fas) (hn : ∀ ρ ws ρ1, fas ρ = .ok ws ρ1 → ws.length = n) (hdb : (x == ("__debug__" : Str)) = false) (he : starEach (e :: es) X.env = (false, eval e X.env) :: starEach es X.env) (hpl : (backTo pos (starEach es X.env)).any (·.1) = false) :
    FE X g (.Call (.Name x p) (e :: es) [] pos) (fCall m fas) := PE.imp (pe_callS Fn hr hg hm hk hb (fun σ => passAt tk σ) ha hdb he hpl) (call_imp hn)
end FL

namespace FL
open PySem L2 PyProof.Rows

def ownIdx : Nat → List S → List Nat
  | _, [] => []
  | i, s :: ss => if s.own = true then i :: ownIdx (i + 1) ss else ownIdx (i + 1) ss
def addrV : V → Addr
  | .ref a => a
  | _ => 0
def pinsOf : Nat → List V → List S → List (Nat × Addr)
  | i, v :: vs, s :: ss => if s.own = true then (i, addrV v) :: pinsOf (i + 1) vs ss else pinsOf (i + 1) vs ss
  | _, _, _ => []
theorem pins_fst : ∀ (i : Nat) (vs : List V) (ss : List S), vs.length = ss.length → (pinsOf i vs ss).map (·.1) = ownIdx i ss
  | _, [], [], _ => rfl
  | _, [], _ :: _, h => by simp at h
  | _, _ :: _, [], h => by simp at h
  | i, v :: vs, s :: ss, h => by
    rw [pinsOf, ownIdx]
    have ih := pins_fst (i + 1) vs ss (by simpa using h)
    split
    · rw [List.map_cons, ih]
    · exact ih
theorem mem_pins {p : Nat × Addr} : ∀ {i : Nat} {vs : List V} {ss : List S}, p ∈ pinsOf i vs ss → ∃ k s v, ss[k]? = some s ∧ vs[k]? = some v ∧ s.own = true ∧ p = (i + k, addrV v)
  | i, v :: vs, s :: ss, h => by
    rw [pinsOf] at h
    have rec_ : p ∈ pinsOf (i + 1) vs ss → ∃ k t u, (s :: ss)[k]? = some t ∧ (v :: vs)[k]? = some u ∧ t.own = true ∧ p = (i + k, addrV u) := fun h => by
      obtain ⟨k, t, u, h1, h2, h3, h4⟩ := mem_pins h
      exact ⟨k + 1, t, u, by simpa using h1, by simpa using h2, h3, by rw [h4, show i + 1 + k = i + (k + 1) by omega]⟩
    split at h
    · rename_i ho
      rcases List.mem_cons.mp h with e | h
      · exact ⟨0, s, v, rfl, rfl, ho, by rw [e] <;> rfl⟩
      · exact rec_ h
    · exact rec_ h
  | i, [], _, h => by simp [pinsOf] at h
  | i, _ :: _, [], h => by simp [pinsOf] at h
theorem pins_mem {k : Nat} {s : S} {v : V} (ho : s.own = true) : ∀ {i : Nat} {vs : List V} {ss : List S}, ss[k]? = some s → vs[k]? = some v → (i + k, addrV v) ∈ pinsOf i vs ss := by
  induction k with
  | zero =>
    intro i vs ss h1 h2
    cases ss with
    | nil => simp at h1
    | cons t ss =>
      cases vs with
      | nil => simp at h2
      | cons u vs =>
        simp at h1 h2
        subst h1 h2
        rw [pinsOf, if_pos ho]
        exact List.mem_cons_self
  | succ k ih =>
    intro i vs ss h1 h2
    cases ss with
    | nil => simp at h1
    | cons t ss =>
      cases vs with
      | nil => simp at h2
      | cons u vs =>
        have q := ih (i := i + 1) (vs := vs) (ss := ss) (by simpa using h1) (by simpa using h2)
        rw [show i + 1 + k = i + (k + 1) by omega] at q
        rw [pinsOf]
        split
        · exact List.mem_cons_of_mem _ q
        · exact q
def outS : Nat → List S → Rho → List S
  | _, [], _ => []
  | i, s :: ss, ρ => (if s.own = true then (match ρ[i]? with | some (some t) => t | _ => s) else s) :: outS (i + 1) ss ρ
theorem outS_len : ∀ (i : Nat) (ss : List S) (ρ : Rho), (outS i ss ρ).length = ss.length
  | _, [], _ => rfl
  | i, s :: ss, ρ => by rw [outS, List.length_cons, List.length_cons, outS_len]
theorem outS_get {ρ : Rho} : ∀ {i : Nat} {ss : List S} {k : Nat} {t : S}, (outS i ss ρ)[k]? = some t → ∃ s, ss[k]? = some s ∧ t = (if s.own = true then (match ρ[i + k]? with | some (some t) => t | _ => s) else s)
  | _, [], _, _, h => by simp [outS] at h
  | i, s :: ss, 0, t, h => by
    simp [outS] at h
    refine ⟨s, rfl, ?_⟩
    rw [Nat.add_zero]
    exact h.symm
  | i, s :: ss, k + 1, t, h => by
    have h' : (outS (i + 1) ss ρ)[k]? = some t := by simpa [outS] using h
    obtain ⟨s', h1, h2⟩ := outS_get h'
    refine ⟨s', by simpa using h1, ?_⟩
    rw [show i + (k + 1) = i + 1 + k by omega]
    exact h2
def rho0 (n : Nat) (ss : List S) : Rho := ss.map some ++ List.replicate (n - ss.length) none
def runF (n : Nat) (body : List Nat → Rho → R Fl) : FM := fun ss => match body (ownIdx 0 ss) (rho0 n ss) with
  | .ok .nx ρ' => .ret (.d .none) (outS 0 ss ρ')
  | .ok (.rt r) ρ' => .ret r (outS 0 ss ρ')
  | .exc c ρ' => .exc c (outS 0 ss ρ')
  | _ => .bad
theorem rho0_get {n : Nat} {ss : List S} {i : Nat} {s : S} (h : (rho0 n ss)[i]? = some (some s)) : ss[i]? = some s := by
  unfold rho0 at h
  by_cases hi : i < (ss.map some).length
  · rw [List.getElem?_append_left hi, List.getElem?_map] at h
    cases e : ss[i]? with
    | none => rw [e] at h; cases h
    | some t => rw [e] at h; cases h; rfl
  · rw [List.getElem?_append_right (by omega), List.getElem?_replicate] at h
    split at h <;> cases h
theorem start_get {N : List Str} {vs : List V} {i : Nat} {v : V} (h : vs[i]? = some v) : (L2.start N vs)[i]? = some (some v) := by
  unfold L2.start
  have hi : i < (vs.map some).length := by rw [List.length_map]; exact (List.getElem?_eq_some_iff.mp h).1
  rw [List.getElem?_append_left hi, List.getElem?_map, h]
  rfl
/-- the context at a def's entry -/
def G.entry (z : Z) (E : XK) (F H : Hp) (vs : List V) (ss : List S) : G := { toZ := z, W := fun cls d _ H => E cls d H, H0 := H, F0 := F, Own0 := OwnedI H vs ss, P := pinsOf 0 vs ss }
theorem own_addr {z : Z} {F H : Hp} {v : V} {s : S} (r : SRel z F H v s) (h : s.own = true) : v = .ref (addrV v) := by
  cases s with
  | d _ => cases h
  | e _ => cases h
  | z _ => cases h
  | l _ => obtain ⟨a, _, e, _⟩ := r; rw [e]; rfl
  | m _ => obtain ⟨a, _, e, _⟩ := r; rw [e]; rfl
  | t _ _ _ => exact r.elim
section
variable {z : Z} {E : XK} {F H : Hp} {vs : List V} {ss : List S} {N : List Str}
theorem entry_rel (a : Args z F H vs ss) (hl : vs.length ≤ N.length) : Rel (G.entry z E F H vs ss) F (rho0 N.length ss) (L2.start N vs) H where
  sub := a.sub
  len := by
    unfold rho0 L2.start
    rw [List.length_append, List.length_append, List.length_map, List.length_map, List.length_replicate, List.length_replicate, a.len]
  slot := fun i s e => by
    obtain ⟨v, h1, h2⟩ := a.slot i s (rho0_get e)
    exact ⟨v, start_get h1, h2⟩
  sep := fun i j s t v u b ne e1 e2 e3 e4 q1 q2 => by
    obtain ⟨v', h1, h2⟩ := a.slot i s (rho0_get e1)
    obtain ⟨u', h3, h4⟩ := a.slot j t (rho0_get e2)
    rw [start_get h1] at e3
    cases e3
    rw [start_get h3] at e4
    cases e4
    exact a.sep i j b ne ⟨s, v, rho0_get e1, h1, q1⟩ ⟨t, u, rho0_get e2, h3, q2⟩
  pin := fun p hp => by
    obtain ⟨k, s, v, h1, h2, h3, h4⟩ := mem_pins hp
    rw [Nat.zero_add] at h4
    subst h4
    obtain ⟨v', q1, q2⟩ := a.slot k s h1
    rw [h2] at q1
    cases q1
    refine ⟨s, ?_, h3, ?_⟩
    · show (rho0 N.length ss)[k]? = some (some s)
      unfold rho0
      have hi : k < (ss.map some).length := by rw [List.length_map]; exact (List.getElem?_eq_some_iff.mp h1).1
      rw [List.getElem?_append_left hi, List.getElem?_map, h1]
      rfl
    · show (L2.start N vs)[k]? = some (some (.ref (addrV v)))
      rw [← own_addr q2 h3]
      exact start_get h2
  new := fun i s v b e1 e2 q => by
    obtain ⟨v', h1, h2⟩ := a.slot i s (rho0_get e1)
    rw [start_get h1] at e2
    cases e2
    refine .inr ⟨⟨s, v, rho0_get e1, h1, q⟩, (0 + i, addrV v), pins_mem (ownA_own q) (rho0_get e1) h1, Nat.zero_add i⟩
  e1 := .refl _
  e2 := fun _ _ h _ => h
  e3 := fun _ _ _ h => h
  e4 := fun _ o h => ⟨o, h⟩
/-- an own argument, at the end -/
theorem entry_own {F' H' : Hp} {ρ' : Rho} {σ' : L2.St} (a : Args z F H vs ss) (r : Rel (G.entry z E F H vs ss) F' ρ' σ' H') {i : Nat} {t : S} (h : (outS 0 ss ρ')[i]? = some t) :
    ∃ s v, ss[i]? = some s ∧ vs[i]? = some v ∧ t.own = s.own ∧ SRel z F' H' v t ∧ (s.own = true → ρ'[i]? = some (some t) ∧ σ'[i]? = some (some v)) := by
  obtain ⟨s, h1, h2⟩ := outS_get h
  obtain ⟨v, q1, q2⟩ := a.slot i s h1
  refine ⟨s, v, h1, q1, ?_⟩
  rw [Nat.zero_add] at h2
  by_cases ho : s.own = true
  · rw [if_pos ho] at h2
    obtain ⟨s2, k1, k2, k3⟩ := r.pin _ (pins_mem (i := 0) ho h1 q1)
    have k1' : ρ'[0 + i]? = some (some s2) := k1
    have k3' : σ'[0 + i]? = some (some (.ref (addrV v))) := k3
    rw [Nat.zero_add] at k1' k3'
    rw [← own_addr q2 ho] at k3'
    rw [k1'] at h2
    have h2' : t = s2 := h2
    subst h2'
    obtain ⟨v', z1, z2⟩ := r.slot i t k1'
    rw [k3'] at z1
    cases z1
    exact ⟨by rw [k2, ho], z2, fun _ => ⟨k1', k3'⟩⟩
  · rw [if_neg ho] at h2
    subst h2
    refine ⟨rfl, q2.data (by simpa using ho) r.e1, fun h => absurd h ho⟩
theorem entry_post {F' H' : Hp} {ρ' : Rho} {σ' : L2.St} (a : Args z F H vs ss) (r : Rel (G.entry z E F H vs ss) F' ρ' σ' H') : Post z F H vs ss F' H' (outS 0 ss ρ') := by
  have oi : ∀ {i b}, OwnedI H' vs (outS 0 ss ρ') i b → ∃ t v, (outS 0 ss ρ')[i]? = some t ∧ vs[i]? = some v ∧ ρ'[i]? = some (some t) ∧ σ'[i]? = some (some v) ∧ ownA H' v t b := fun {i b} ⟨t, v, h1, h2, h3⟩ => by
    obtain ⟨s, v', q1, q2, q3, q4, q5⟩ := entry_own a r h1
    rw [h2] at q2
    cases q2
    obtain ⟨k1, k2⟩ := q5 (by rw [← q3]; exact ownA_own h3)
    exact ⟨t, v, h1, h2, k1, k2, h3⟩
  refine ⟨r.e1, ⟨r.sub, by rw [outS_len]; exact a.len, fun i t e => ?_, fun i j b ne h1 h2 => ?_⟩, fun i s t e1 e2 => ?_, fun i b h => ?_, r.e2, r.e3, r.e4⟩
  · obtain ⟨s, v, q1, q2, q3, q4, q5⟩ := entry_own a r e
    exact ⟨v, q2, q4⟩
  · obtain ⟨t, v, _, _, k1, k2, k3⟩ := oi h1
    obtain ⟨t', v', _, _, l1, l2, l3⟩ := oi h2
    exact r.sep i j t t' v v' b ne k1 l1 k2 l2 k3 l3
  · obtain ⟨s', v, q1, q2, q3, q4, q5⟩ := entry_own a r e2
    rw [e1] at q1
    cases q1
    exact q3
  · obtain ⟨t, v, _, _, k1, k2, k3⟩ := oi h
    rcases r.new i t v b k1 k2 k3 with q | ⟨q, _⟩
    · exact .inl q
    · exact .inr q
theorem entry_ret {F' H' : Hp} {ρ' : Rho} {σ' : L2.St} {v : V} {x : S} (a : Args z F H vs ss) (r : Rel (G.entry z E F H vs ss) F' ρ' σ' H') (q : RRel (G.entry z E F H vs ss) F' H' ρ' σ' v x) : Ret z H F' H' vs (outS 0 ss ρ') v x := by
  have oi : ∀ {b}, (∃ i, OwnedI H' vs (outS 0 ss ρ') i b) → Owned ρ' σ' H' b := fun {b} ⟨i, t, u, h1, h2, h3⟩ => by
    obtain ⟨s, v', q1, q2, q3, q4, q5⟩ := entry_own a r h1
    rw [h2] at q2
    cases q2
    obtain ⟨k1, k2⟩ := q5 (by rw [← q3]; exact ownA_own h3)
    exact ⟨i, t, u, k1, k2, h3⟩
  cases x with
  | d y => exact q
  | l _ => exact ⟨q.1, fun b hb => ⟨(q.2 b hb).1, fun o => (q.2 b hb).2 (oi o)⟩⟩
  | m _ => exact ⟨q.1, fun b hb => ⟨(q.2 b hb).1, fun o => (q.2 b hb).2 (oi o)⟩⟩
  | t _ _ _ => exact ⟨q.1, fun b hb => ⟨(q.2 b hb).1, fun o => (q.2 b hb).2 (oi o)⟩⟩
  | e _ => exact ⟨q.1, fun b hb => ⟨(q.2 b hb).1, fun o => (q.2 b hb).2 (oi o)⟩⟩
  | z _ => exact ⟨q.1, fun b hb => ⟨(q.2 b hb).1, fun o => (q.2 b hb).2 (oi o)⟩⟩
end
/-- THE RULE for a def -/
theorem fn_sound {P : Program} {w : World} {K : PySem.W.Frag} {mg : Str → Option Value} {base : Heap} {x qual : Str} {st : Stmt} {f : Addr} {fd : FuncData} {N ps : List Str} {k : Nat} {z : Z} {body : List Nat → Rho → R Fl}
    (Fn : Fun K x qual st f fd) (S : FnScope N ps (defScope st)) (hp : ps.length ≤ N.length)
    (hb : ∀ (cdv : Value) (A : Around) (outer : List Env) (s : Shared) (H : Hp) (E : XK) (g : G), g.toZ = z → g.W = (fun cls d _ H => E cls d H) → Room k (A.deeper (envOfC qual (defScope st) s.heap.objs.size f cdv)) →
      FSs (cxOf (L2.CX P w) P w K mg base N qual (defScope st) f cdv A outer s H E) g (defBody st) (body g.pins)) :
    FnOk P w K mg base (L2.CX P w) (k + 1) f fd ps (spF z ps.length (runF N.length body)) := by
  refine Fn.okX S (fun vs H Q E h => h.1) fun cdv A outer s H vs Q E hr h => ?_
  obtain ⟨hl, F, ss, a, h⟩ := h
  refine ⟨_, hb cdv A outer s H E (G.entry z E F H vs ss) rfl rfl hr, ?_⟩
  refine tsOf_iff.mpr ⟨F, _, entry_rel a (by rw [hl]; exact hp), ?_⟩
  have ep : (G.entry z E F H vs ss).pins = ownIdx 0 ss := pins_fst 0 vs ss a.len
  rw [ep]
  unfold runF at h
  cases e : body (ownIdx 0 ss) (rho0 N.length ss) with
  | bad => rw [e] at h; exact h
  | exc c ρ' => rw [e] at h; exact fun σ' H' F' r' => h H' F' (entry_post a r')
  | ok fl ρ' =>
    rw [e] at h
    cases fl with
    | nx => exact fun σ' H' F' r' _ => h .non H' F' (entry_post a r') .non
    | bk => exact h.elim
    | ct => exact h.elim
    | rt y => exact fun v σ' H' F' r' q => h v H' F' (entry_post a r') (entry_ret a r' q)
end FL

namespace FL
open PySem PySem.W PySem.Calls PyProof.Rows
section
variable {prog : Program} {w : World} {A : Around} {E : Value → Shared → Prop} {s : Shared}
/-- a list or a tuple of these values -/
def SeqAt2 (h : Heap) (l : Addr) (vs : List Value) : Prop := ∃ o n T, h.get? l = some o ∧ o.cls = .type T ∧ (T = "list" ∨ T = "tuple") ∧ o.data = .seq vs.toArray n
/-- sorted's own copy of the items of a list or a tuple -/
theorem collect_any {l : Addr} {vs : List Value} {Q : List Value → Shared → Prop} (q : SeqAt2 s.heap l vs) (k : vs.length ≤ sizeLine) (h : Q vs { s with heap := (s.heap.push (seqObj "list" #[] 0)).update s.heap.objs.size (Obj.mapSeq (· ++ vs.toArray)) }) :
    wpAny (model prog w) A (collect (.ref l)) Q E s := by
  obtain ⟨o, n, T, q1, q2, q3, q4⟩ := q
  unfold collect
  refine wpAny_bind (wpAny_runValue (codeAny_builtin entry_proto_collect' ?g))
  case g =>
    show wpAny _ _ (newList [] >>= fun x => again (.builtin "list.__iadd__" ⟨[x, .ref l], []⟩)) _ _ s
    refine wpAny_bind (wpAny_newList (wpAny_pure ⟨Code.quiet_builtin _ (by decide +kernel), codeAny_builtin entry_list_iadd' ?g2⟩))
    case g2 =>
      show wpAny _ _ (Builtin.List.listExtendWith (.ref s.heap.objs.size) (.ref l) (.ref s.heap.objs.size)) _ _ { s with heap := s.heap.push (seqObj "list" #[] 0) }
      have q1' := Heap.get?_push_of_some (seqObj "list" #[] 0) q1
      have me : (s.heap.push (seqObj "list" #[] 0)).get? s.heap.objs.size = some (seqObj "list" #[] 0) := Heap.get?_push_size _ rfl
      unfold Builtin.List.listExtendWith
      refine wpAny_bind (wpAny_typeOf (T := T) ⟨o, q1', q2⟩ ?_)
      have ok : (Builtin.List.listSameRef (.ref s.heap.objs.size) (.ref l) || Value.type T == Value.type "list" || Value.type T == Value.type "tuple") = true := by
        rcases q3 with rfl | rfl
        · rw [show (Value.type "list" == Value.type "list") = true from rfl, Bool.or_true, Bool.true_or]
        · rw [show (Value.type "tuple" == Value.type "tuple") = true from rfl, Bool.or_true]
      rw [if_pos ok]
      refine wpAny_bind (listItems_at q1' q4 (wpAny_bind (listItems_at me rfl ?_)))
      rw [if_neg (by simp)]
      refine wpAny_bind (listUpdate_at me rfl ?_ (Nat.zero_le _) (by show (#[] ++ vs.toArray).size ≤ sizeLine + 1; rw [Array.size_append, List.size_toArray]; show 0 + vs.length ≤ _; omega))
      refine wpAny_pure ?_
      refine wpAny_bind (m := load s.heap.objs.size) (wpAny_load (get?_update_seq me _) ?_)
      show wpAny _ _ (pure ((#[] : Array Value) ++ vs.toArray).toList) Q E _
      have e : ((#[] : Array Value) ++ vs.toArray).toList = vs := by simp
      rw [e]
      exact wpAny_pure h
variable {κ : PyProof.Rows.KeyKind}
/-- sorted of a list or of a tuple, by the values -/
theorem sorted_any {l : Addr} {vs : List Value} {Q : Value → Shared → Prop} (q : SeqAt2 s.heap l vs) (k : vs.length ≤ sizeLine) (S : SortsAt prog w A.in1.in1 { s with heap := sortingHeap (copyHeap s.heap vs) (s.heap.objs.size + 1) vs } κ vs)
    (h : Q (.ref (s.heap.objs.size + 1)) { s with heap := sortedAll s.heap vs (sortVals κ false vs vs).toArray }) : wpAny (model prog w) A (call (.builtin "sorted") [.ref l]) Q E s := by
  refine call_function_entry_kw kind_sorted plain_sorted entry_sorted (args_sorted1 _) ?_
  unfold Builtin.«sorted»
  refine wpAny_bind (m := checkCount "sorted" 1 1 _) (wpAny_pure (wpAny_bind (collect_any q k ?_)))
  refine wpAny_bind (wpAny_newList ?_ k)
  have z : ((s.heap.push (seqObj "list" #[] 0)).update s.heap.objs.size (Obj.mapSeq (· ++ vs.toArray))).objs.size = s.heap.objs.size + 1 := (Heap.size_update _ _ _).trans (size_push' _ _)
  show wpAny _ _ _ _ _ { s with heap := copyHeap s.heap vs }
  rw [z]
  have at1 := copyHeap_at s.heap vs
  refine wpAny_bind (wpAny_holding (wpAny_call_entry_kw slot_list_sort ⟨_, at1, rfl⟩ entry_list_sort ?b (args_list_sort _)))
  case b =>
    refine wpAny_mono (list_sort_vals (s := { s with heap := copyHeap s.heap vs }) at1 S k (P := fun f s' => f = .done (.ret .none) ∧ Q (.ref (s.heap.objs.size + 1)) s') ⟨rfl, h⟩) (fun f s' hf => ?_) fun _ _ e => e
    obtain ⟨rfl, hq⟩ := hf
    exact ⟨_, rfl, wpAny_pure ⟨_, rfl, hq⟩⟩
/-- one empty tuple alone -/
theorem sorts_unit {v : Value} {as : List Addr} (r : Reads s.heap v (.tuple []) as) (hu : A.units + 1 < cLine) : SortsAt prog w A s (dataKind s.heap [.tuple []]) [v] := by
  have hal : AllAlike [PyData.tuple []] := by
    intro d hd e he
    rw [List.mem_singleton] at hd he
    subst hd he
    rfl
  refine ⟨fun u hv => ?_, tuples' false, ?_, fun h2 => absurd h2 (by simp)⟩
  · rw [List.mem_singleton] at hv
    subst hv
    exact ⟨_, dataKind_some hal List.mem_cons_self r⟩
  · intro E x y a b Q ha hb hq
    obtain ⟨d, as1, hd, ra, rfl⟩ := dataKind_inv ha
    obtain ⟨d', as2, hd', rb, rfl⟩ := dataKind_inv hb
    rw [List.mem_singleton] at hd hd'
    subst hd hd'
    have hq' : Q (dataLt (.tuple []) (.tuple [])) s := hq
    rw [dataLt_tuple] at hq'
    cases ra with
    | tuple a1 a2 a3 a4 =>
      cases rb with
      | tuple b1 b2 b3 b4 =>
        have n1 := SeqAt.ReadsAll.length _ _ _ a4
        have n2 := SeqAt.ReadsAll.length _ _ _ b4
        refine kat_lt a1 a3 b1 b3 (katLex_alike [] [] 0 _ _ _ _ a4 b4 rfl ?_ (fun z => by cases z) ?_ hq')
        · show A.units + min (PyData.depthAll []) (PyData.depthAll []) < cLine
          rw [PyData.depthAll]
          omega
        · rw [Array.length_toList] at n1 n2
          rw [n1, n2]
end
end FL

namespace FL
open PySem L2 PyProof.Rows

/-! ### > -/
def gtD : D → D → Option D
  | .int i, .int j => some (.bool (decide (j < i)))
  | .tuple xs, .tuple ys => if shp 8 (.tuple xs) = true ∧ shp 8 (.tuple ys) = true ∧ PySem.W.alikeAll xs ys = true then some (.bool (PySem.W.dataLt (.tuple ys) (.tuple xs))) else none
  | _, _ => none

/-! ### sorted -/
def dle (x y : D) : Bool := PySem.W.dataLe false id x y
def ins (x : D) : List D → List D
  | [] => [x]
  | y :: ys => if dle x y = true then x :: y :: ys else y :: ins x ys
def isort : List D → List D
  | [] => []
  | x :: xs => ins x (isort xs)
theorem dle_def (x y : D) : dle x y = !PySem.W.dataLt y x := rfl
theorem dle_trans (a b c : D) : dle a b = true → dle b c = true → dle a c = true := by
  intro h1 h2
  have h1' : (!(listOrd itemOrd).blt (PySem.W.keyToks b) (PySem.W.keyToks a)) = true := h1
  have h2' : (!(listOrd itemOrd).blt (PySem.W.keyToks c) (PySem.W.keyToks b)) = true := h2
  show (!(listOrd itemOrd).blt (PySem.W.keyToks c) (PySem.W.keyToks a)) = true
  cases e : (listOrd itemOrd).blt (PySem.W.keyToks c) (PySem.W.keyToks a) with
  | false => rfl
  | true =>
    rcases (listOrd itemOrd).negTrans _ (PySem.W.keyToks b) _ e with h | h
    · rw [h] at h2'; cases h2'
    · rw [h] at h1'; cases h1'
theorem dle_total (a b : D) : (dle a b || dle b a) = true := by
  show (!(listOrd itemOrd).blt (PySem.W.keyToks b) (PySem.W.keyToks a) || !(listOrd itemOrd).blt (PySem.W.keyToks a) (PySem.W.keyToks b)) = true
  cases e : (listOrd itemOrd).blt (PySem.W.keyToks b) (PySem.W.keyToks a) with
  | false => rfl
  | true =>
    cases e2 : (listOrd itemOrd).blt (PySem.W.keyToks a) (PySem.W.keyToks b) with
    | false => rfl
    | true =>
      have := (listOrd itemOrd).trans _ _ _ e e2
      rw [(listOrd itemOrd).irrefl] at this
      cases this
theorem ins_mid {x : D} : ∀ {l1 l2 : List D}, (∀ b ∈ l1, (!dle x b) = true) → (∀ b ∈ l2, dle x b = true) → ins x (l1 ++ l2) = l1 ++ x :: l2
  | [], [], _, _ => rfl
  | [], b :: l2, _, h => by rw [List.nil_append, ins, if_pos (h b List.mem_cons_self)]; rfl
  | a :: l1, l2, h1, h2 => by
    have ha := h1 a List.mem_cons_self
    rw [List.cons_append, ins, if_neg (by intro z; rw [z] at ha; cases ha), ins_mid (fun b hb => h1 b (List.mem_cons_of_mem _ hb)) h2]
    rfl
theorem isort_eq : ∀ xs : List D, xs.mergeSort dle = isort xs
  | [] => by simp [isort]
  | x :: xs => by
    obtain ⟨l1, l2, h1, h2, h3⟩ := List.mergeSort_cons dle_trans dle_total x xs
    rw [isort, ← isort_eq xs, h2, h1]
    have hs : (List.mergeSort (x :: xs) dle).Pairwise (fun a b => dle a b = true) := List.pairwise_mergeSort dle_trans dle_total _
    rw [h1] at hs
    have hx : ∀ b ∈ l2, dle x b = true := by
      have := (List.pairwise_append.mp hs).2.1
      exact fun b hb => List.rel_of_pairwise_cons this hb
    exact (ins_mid h3 hx).symm
def sortB (xs : List D) : Bool := (xs.all fun | .tuple (_ :: _) => true | _ => false) || (xs.all fun | .none => false | .tuple _ => false | _ => true)
theorem sortB_ok {xs : List D} (h : sortB xs = true) : PySem.W.Sortable xs := by
  unfold sortB at h
  rw [Bool.or_eq_true] at h
  rcases h with h | h
  · refine .inl fun d hd => ?_
    have := List.all_eq_true.mp h d hd
    revert this
    split
    · intro _; exact ⟨_, _, rfl⟩
    · intro z; cases z
  · refine .inr fun d hd => ?_
    have := List.all_eq_true.mp h d hd
    revert this
    split
    · intro z; cases z
    · intro z; cases z
    · rename_i h1 h2
      intro _
      exact ⟨h1, h2⟩
def alikeB (xs : List D) : Bool := xs.all fun d => xs.all fun e => PySem.W.alike d e
theorem alikeB_ok {xs : List D} (h : alikeB xs = true) : PySem.W.AllAlike xs := fun d hd e he => List.all_eq_true.mp (List.all_eq_true.mp h d hd) e he
def oneE : List D → Bool
  | [.tuple []] => true
  | _ => false
theorem oneE_eq {xs : List D} (h : oneE xs = true) : xs = [.tuple []] := by
  unfold oneE at h
  split at h
  · rfl
  · cases h
def sortR (xs : List D) : Option D := if alikeB xs = true ∧ (sortB xs = true ∨ oneE xs = true) ∧ shpAll 8 xs = true ∧ xs.length ≤ 1000000 then some (.list (isort xs)) else none
def sortD : List D → Option D
  | [.list xs] => sortR xs
  | [.tuple xs] => sortR xs
  | _ => none
theorem shpAll_mem {n : Nat} : ∀ {xs : List D}, shpAll n xs = true → ∀ d ∈ xs, shp n d = true
  | [], _, _, h => by cases h
  | x :: xs, h, d, hd => by
    rw [shpAll, Bool.and_eq_true] at h
    rcases List.mem_cons.mp hd with e | hd
    · rw [e]; exact h.1
    · exact shpAll_mem h.2 d hd
open PySem.W in
theorem each_zip {X : Cx} {pins : List (Addr × Obj)} {σ : L2.St} {H : Hp} {s : Shared} (I : Inv X pins σ H s) {F : Hp} (sub : Sub F H) : ∀ {vs : List V} {us : List Value} {xs : List D}, Vals vs us → DvAll F vs xs →
    ∃ ps : List (V × D), ps.map (·.1) = vs ∧ ps.map (·.2) = xs ∧ EachIs (fun u p => RelV p.1 u ∧ Dv F p.1 p.2) us ps ∧ EachIs (fun u p => ∃ as, Reads s.heap u p.2 as) us ps
  | _, _, _, .nil, .nil => ⟨[], rfl, rfl, .nil, .nil⟩
  | _, _, _, .cons (a := v) r t, .cons (d := x) d e => by
    obtain ⟨ps, h1, h2, h3, h4⟩ := each_zip I sub t e
    obtain ⟨as, hr⟩ := Dp.reads I x v _ ((dv_mono sub d).dp _) r
    exact ⟨(v, x) :: ps, by rw [List.map_cons, h1], by rw [List.map_cons, h2], .cons ⟨r, d⟩ h3, .cons ⟨as, hr⟩ h4⟩
open PySem.W in
theorem each_out {F : Hp} : ∀ {us : List Value} {ps : List (V × D)}, EachIs (fun u p => RelV p.1 u ∧ Dv F p.1 p.2) us ps → Vals (ps.map (·.1)) us ∧ DvAll F (ps.map (·.1)) (ps.map (·.2))
  | _, _, .nil => ⟨.nil, .nil⟩
  | _, _, .cons h t => ⟨.cons h.1 (each_out t).1, .cons h.2 (each_out t).2⟩
theorem sorted_run {X : Cx} (hu : X.A.units + 64 < cLine) {pins : List (Addr × Obj)} {s : Shared} {σ : L2.St} {H F : Hp} {p : Addr} {vs : List V} {its : List Value} {ys : List D} {z : D} {Q : VK} (I : Inv X pins σ H s) (sub : Sub F H) (hq : SeqAt2 s.heap p its) (rv : Vals vs its) (a1 : DvAll F vs ys)
    (e : sortR ys = some z) (k : ∀ v F' H', Ext F H F' H' → Dv F' v z → Q v H') : wpAny (model X.prog X.w) X.A (call (.builtin "sorted") [.ref p]) (EP X pins σ Q) X.xe s := by
  unfold sortR at e
  split at e
  · rename_i hc
    cases e
    obtain ⟨ps, m1, m2, m3, m4⟩ := each_zip I sub rv a1
    have hlen : ps.length = ys.length := by rw [← m2, List.length_map]
    have hil : its.length = ps.length := m3.length
    have hL : its.length ≤ sizeLine := by rw [hil, hlen]; exact lim_ok hc.2.2.2
    have hal : PySem.W.AllAlike (ps.map fun p : V × D => p.2) := by rw [m2]; exact alikeB_ok hc.1
    have m4' : PySem.W.EachIs (fun u (b : V × D) => ∃ as, Reads (PySem.W.sortingHeap (PySem.W.copyHeap s.heap its) (s.heap.objs.size + 1) its) u b.2 as) its ps := m4.mono fun _ _ ⟨as, r⟩ => ⟨as, PyProof.Rows.Reads.keeps (fun _ _ => PySem.W.sorting_copy_old) r⟩
    have S : PySem.W.SortsAt X.prog X.w X.A.in1.in1 { s with heap := PySem.W.sortingHeap (PySem.W.copyHeap s.heap its) (s.heap.objs.size + 1) its } (PySem.W.dataKind (PySem.W.sortingHeap (PySem.W.copyHeap s.heap its) (s.heap.objs.size + 1) its) (ps.map fun p : V × D => p.2)) its := by
      rcases hc.2.1 with h | h
      · refine PySem.W.SortsAt.data (s := { s with heap := PySem.W.sortingHeap (PySem.W.copyHeap s.heap its) (s.heap.objs.size + 1) its }) (PySem.W.each_map (R := fun v d => ∃ as, Reads (PySem.W.sortingHeap (PySem.W.copyHeap s.heap its) (s.heap.objs.size + 1) its) v d as) (fun p : V × D => p.2) m4') hal (by rw [m2]; exact sortB_ok h) ?_
        intro d hd
        rw [m2] at hd
        have := (shp_lay 8 _ (shpAll_mem hc.2.2.1 _ hd)).2
        show X.A.units + 2 + _ < cLine
        omega
      · have h' := oneE_eq h
        have e2 := PySem.W.each_map (R := fun v d => ∃ as, Reads (PySem.W.sortingHeap (PySem.W.copyHeap s.heap its) (s.heap.objs.size + 1) its) v d as) (fun p : V × D => p.2) m4'
        rw [m2, h'] at e2 ⊢
        cases e2 with
        | cons h1 t =>
          cases t
          obtain ⟨as, r⟩ := h1
          exact sorts_unit (s := { s with heap := _ }) r (by show X.A.units + 2 + 1 < cLine; omega)
    refine sorted_any hq hL S ?_
    have he := PySem.W.sortVals_data (R := fun u (p : V × D) => RelV p.1 u ∧ Dv F p.1 p.2) false m3 m4' hal
    generalize ho : PySem.W.sortVals (PySem.W.dataKind (PySem.W.sortingHeap (PySem.W.copyHeap s.heap its) (s.heap.objs.size + 1) its) (ps.map fun p : V × D => p.2)) false its its = out at he
    obtain ⟨ep, he'⟩ := PyProof.Rows.sortedAll_at s.heap its out.toArray
    obtain ⟨o1, o2⟩ := each_out he
    have es : (ps.mergeSort (PySem.W.dataLe false fun p : V × D => p.2)).map (·.2) = isort ys := by
      have := List.map_mergeSort (r := PySem.W.dataLe false fun p : V × D => p.2) (s := dle) (f := fun p : V × D => p.2) (l := ps) (fun a _ b _ => rfl)
      rw [this, m2, isort_eq]
    rw [es] at o2
    have hlen2 : ((ps.mergeSort (PySem.W.dataLe false fun p : V × D => p.2)).map (·.1)).length ≤ sizeLine := by
      rw [List.length_map, List.length_mergeSort, hlen]
      exact lim_ok hc.2.2.2
    have hn : H (s.heap.objs.size + 1) = none := I.hok.fresh (Nat.le_succ _)
    exact ⟨.ref _, upd H (s.heap.objs.size + 1) (.lst ((ps.mergeSort (PySem.W.dataLe false fun p : V × D => p.2)).map (·.1))), I.laid (t' := s.toks) (fun _ _ => PyProof.Rows.sortedAll_old) (Nat.le_succ _) ⟨hlen2, out, ep, o1, he'⟩, rfl, k _ _ _ (.new sub hn) (mkL sub hn o2)⟩
  · cases e
theorem cd_sorted {X : Cx} (hu : X.A.units + 64 < cLine) : CallD X (.builtin "sorted") sortD := by
  intro pins s σ H xs us Q I r h
  obtain ⟨F, ds, z, sub, q, e, k⟩ := h
  obtain ⟨d, rfl⟩ := one_arg (α := Unit) e rfl (fun _ _ _ => by simp [sortD])
  obtain ⟨v, rfl, a⟩ := q.one
  cases d with
  | list ys =>
    obtain ⟨p, vs, rfl, h1, a1⟩ := a.lst sub
    obtain ⟨its, rv, ⟨o, n, g1, g2, g3, g4⟩, hz⟩ := I.list (show SqL X.K H p vs from .inl h1)
    rw [Vals.ref1 r]
    exact sorted_run hu I sub ⟨o, n, "list", g1, g2, .inl rfl, g4⟩ rv a1 e k
  | tuple ys =>
    obtain ⟨p, vs, rfl, h1, a1⟩ := a.tup sub
    obtain ⟨its, rv, ⟨o, g1, g2, n, g4⟩, hz⟩ := I.tuple (show SqT X.K H p vs from .inl h1)
    rw [Vals.ref1 r]
    exact sorted_run hu I sub ⟨o, n, "tuple", g1, g2, .inr rfl, g4⟩ rv a1 e k
  | none => cases e
  | bool _ => cases e
  | int _ => cases e
  | str _ => cases e
  | dict _ => cases e
/-! ### max, min of a list of ints -/
def maxI : List Int → Int
  | [] => 0
  | [x] => x
  | x :: y :: r => if x < maxI (y :: r) then maxI (y :: r) else x
theorem maxI_mem : ∀ {l : List Int}, l ≠ [] → maxI l ∈ l
  | [], h => absurd rfl h
  | [x], _ => by simp [maxI]
  | x :: y :: r, _ => by
    have := maxI_mem (l := y :: r) (by simp)
    rw [maxI]
    split
    · exact List.mem_cons_of_mem _ this
    · exact List.mem_cons_self
theorem maxI_le : ∀ {l : List Int}, ∀ x ∈ l, x ≤ maxI l
  | [], _, h => by cases h
  | [x], y, h => by simp at h; subst h; exact Int.le_refl _
  | x :: y :: r, z, h => by
    rw [maxI]
    rcases List.mem_cons.mp h with e | h
    · subst e
      split <;> omega
    · have := maxI_le z h
      split <;> omega
def maxD : List D → Option D
  | [.list xs] => match xs with
    | [] => none
    | x :: r => (intsOf (x :: r)).map fun ns => .int (maxI ns)
  | _ => none
theorem cd_max {X : Cx} (hc : X.calm = true) : CallD X (.builtin "max") maxD := by
  intro pins s σ H xs us Q I r h
  obtain ⟨F, ds, z, sub, q, e, k⟩ := h
  obtain ⟨d, rfl⟩ := one_arg (α := Unit) e rfl (fun _ _ _ => by simp [maxD])
  obtain ⟨v, rfl, a⟩ := q.one
  cases d with
  | list ys =>
    cases ys with
    | nil => cases e
    | cons y0 ys =>
      have e' : (intsOf (y0 :: ys)).map (fun bs => PyData.int (maxI bs)) = some z := e
      cases eb : intsOf (y0 :: ys) with
      | none => rw [eb] at e'; cases e'
      | some bs =>
        rw [eb] at e'
        cases e'
        obtain ⟨p, vs, rfl, h1, a1⟩ := a.lst sub
        have ev := ints_v a1 eb
        subst ev
        have hne : bs ≠ [] := by
          intro z
          rw [z] at a1
          cases a1
        refine cr_max hc pins s σ H _ us Q I r ⟨p, bs, rfl, .inl h1, List.length_pos_iff.mpr hne, fun m hm hle => ?_⟩
        have : m = maxI bs := Int.le_antisymm (maxI_le m hm) (hle _ (maxI_mem hne))
        rw [this]
        exact k _ F H (.refl sub) (.int _)
  | none => cases e
  | bool _ => cases e
  | int _ => cases e
  | str _ => cases e
  | tuple _ => cases e
  | dict _ => cases e
end FL

namespace FL
open PySem L2 PyProof.Rows

/-! ### isinstance -/
inductive Ty where
  | int | bool | tuple | str | list
def Ty.nm : Ty → String
  | .int => "int" | .bool => "bool" | .tuple => "tuple" | .str => "str" | .list => "list"
def isT : Ty → D → Bool
  | .int, .int _ => true
  | .int, .bool _ => true
  | .bool, .bool _ => true
  | .tuple, .tuple _ => true
  | .str, .str _ => true
  | .list, .list _ => true
  | _, _ => false
def tyN : D → String
  | .none => "NoneType" | .bool _ => "bool" | .int _ => "int" | .str _ => "str" | .list _ => "list" | .tuple _ => "tuple" | .dict _ => "dict"
theorem kitB_is (T : Ty) (x : D) (h : ∀ kvs, x ≠ .dict kvs) : kitB (tyN x) T.nm = some (isT T x) := by
  cases x with
  | dict k => exact absurd rfl (h k)
  | none => cases T <;> (show kitB "NoneType" _ = some false) <;> decide +kernel
  | bool b => cases T <;> first | (show kitB "bool" _ = some true; decide +kernel) | (show kitB "bool" _ = some false; decide +kernel)
  | int b => cases T <;> first | (show kitB "int" _ = some true; decide +kernel) | (show kitB "int" _ = some false; decide +kernel)
  | str b => cases T <;> first | (show kitB "str" _ = some true; decide +kernel) | (show kitB "str" _ = some false; decide +kernel)
  | list b => cases T <;> first | (show kitB "list" _ = some true; decide +kernel) | (show kitB "list" _ = some false; decide +kernel)
  | tuple b => cases T <;> first | (show kitB "tuple" _ = some true; decide +kernel) | (show kitB "tuple" _ = some false; decide +kernel)
theorem Dv.nodict {F : Hp} {v : V} {x : D} (h : Dv F v x) : ∀ kvs, x ≠ .dict kvs := by
  intro k e
  subst e
  cases h
theorem dq_ty {K : PySem.W.Frag} {F H : Hp} {v : V} {x : D} (s : Sub F H) (q : Dq F H v x) : TyX K H v (.type (tyN x)) := by
  have d := q.dv s
  cases d with
  | non => exact .base .non
  | bl b => exact .base (.bl b)
  | int i => exact .base (.int i)
  | str i => exact .base (.str i)
  | lst h a =>
    rcases h with h | ⟨o, h⟩
    · exact .base (.lst h)
    · exact .base (.frz h)
  | tup h a =>
    rcases h with h | ⟨o, h⟩
    · exact .base (.tup h)
    · exact .fTuple h
def fIsi (T : Ty) (f : Rho → R W) : Rho → R W := fun ρ => (f ρ).bind fun w ρ1 => match look ρ1 w with
  | some x => .ok (.d (.bool (isT T x))) ρ1
  | none => .bad
section
variable {X : Cx} {g : G}
theorem fe_isi {T : Ty} {t : Str} {e : Expr} {p p2 pos : Pos} {f : Rho → R W} (hK : X.K = g.K) (hg : Gl X "isinstance") (hm : X.mg "isinstance" = none) (hg2 : Gl X t) (hm2 : X.mg t = none) (hv : bootBuiltins t = some (.type T.nm)) (hn : t ≠ "__name__") (hdb : (t == ("__debug__" : Str)) = false) (he : FE X g e f)
    (hs : starEach [e, .Name t p2] X.env = (false, eval e X.env) :: starEach [.Name t p2] X.env) : FE X g (.Call (.Name "isinstance" p) [e, .Name t p2] [] pos) (fIsi T f) := by
  have h2 : PE X (.Name t p2) (tC (.ty T.nm)) := pe_bltn hg2 hm2 hv rfl hn hdb
  refine PE.imp (pe_callB call_isi hg hm (by decide +kernel) (pa_cons he (pa_cons h2 pa_nil rfl) hs) (by decide) (by decide) hs rfl) ?_
  rintro σ H Q ⟨F, ρ, r, h⟩
  refine ⟨F, ρ, r, ?_⟩
  unfold fIsi at h
  cases e1 : f ρ with
  | bad => rw [e1] at h; exact h
  | exc c ρ' => rw [e1] at h; exact h
  | ok w ρ1 =>
    rw [e1] at h
    simp only [R.bind_ok] at h
    intro v H1 F1 r1 s1 w1
    cases e2 : look ρ1 w with
    | none => rw [e2] at h; exact h.elim
    | some x =>
      rw [e2] at h
      have q := r1.look w1 e2
      exact ⟨v, .ty T.nm, .type (tyN x), .type T.nm, isT T x, rfl, .ty _, dq_ty r1.sub q, kit_ty (kitB_is T x (q.dv r1.sub).nodict), h _ H1 F1 r1 s1 (.bl _)⟩
/-! ### len(set([..])), ints -/
def ddp (acc : List Int) : List Int → List Int
  | [] => acc
  | x :: xs => ddp (if acc.any (· == x) = true then acc else acc ++ [x]) xs
theorem ddp_snoc : ∀ (acc xs : List Int) (y : Int), ddp acc (xs ++ [y]) = step_dedup (ddp acc xs) y
  | acc, [], y => rfl
  | acc, x :: xs, y => by rw [List.cons_append, ddp, ddp, ddp_snoc]
theorem firstMet_ddp (ns : List Int) : ∀ k, k ≤ ns.length → firstMet (fun i => ns.getD i 0) k = ddp [] (ns.take k)
  | 0, _ => rfl
  | k + 1, h => by
    have hk : k < ns.length := h
    rw [firstMet_succ, firstMet_ddp ns k (Nat.le_of_lt hk), List.take_add_one, List.getElem?_eq_getElem hk, List.getD_eq_getElem?_getD, List.getElem?_eq_getElem hk]
    exact (ddp_snoc _ _ _).symm
def tLenSetG (K : PySem.W.Frag) (ta : TE) : TE := fun σ H Q => ta σ H fun x H1 => ∃ (l : Addr) (ns : List Int), x = .ref l ∧ SqL K H1 l (ns.map V.int) ∧ ns.length ≤ 4000 ∧ Q (.int ((ddp [] ns).length : Nat)) H1
theorem ddp_le : ∀ (xs acc : List Int), (ddp acc xs).length ≤ acc.length + xs.length
  | [], acc => by simp [ddp]
  | x :: xs, acc => by
    rw [ddp]
    have := ddp_le xs (if acc.any (· == x) = true then acc else acc ++ [x])
    split at this <;> simp_all <;> omega
theorem pe_lenSetG {a : Expr} {ta : TE} {p p2 q pos : Pos} (hg : Gl X "len") (hm : X.mg "len" = none) (hg2 : Gl X "set") (hm2 : X.mg "set" = none) (ha : PE X a ta) (hc : X.calm = true)
    (na : starEach [a] X.env = (false, eval a X.env) :: starEach [] X.env) : PE X (.Call (.Name "len" p) [.Call (.Name "set" p2) [a] [] q] [] pos) (tLenSetG X.K ta) := by
  refine ⟨fun pins s σ H Q I h => ?_⟩
  refine Call_ (ld_blt I hg hm boot_len ?_)
  refine PyProof.Rows.callWith_builtin1 (PyProof.Rows.args_cons ?_ rfl) rfl rfl
  refine Call_ (ld_blt I hg2 hm2 boot_set ?_)
  refine PyProof.Rows.callWith_type1 (PyProof.Rows.args_cons (thn (ha.run pins s σ H _ I h) fun v s1 ⟨x, H1, I1, r1, q1⟩ => PyProof.Rows.args_nil ?_) na) na rfl
  obtain ⟨l, ns, rfl, hq, hl, q1⟩ := q1
  cases r1
  obtain ⟨its, r, pl, hz⟩ := I1.list hq
  have hlen : its.toArray.size = ns.length := by rw [List.size_toArray, ← r.length, List.length_map]
  refine call_set_list (I1.ok.hd hc) pl.isList (by simpa using RZ.intsAre_vals r) (by rw [hlen]; unfold scanBound; omega) fun h' tk hS hk => ?_
  refine PyProof.Rows.args_nil ?_
  rw [hlen, firstMet_ddp ns ns.length (Nat.le_refl _), List.take_length] at hS
  obtain ⟨o, es, ep, t, ho, hex, hd, _, _, _, hf, hn⟩ := hS
  have I2 : Inv X pins σ H1 { s1 with heap := h', toks := tk } := I1.kept fun b o e => hk b o (Heap.lt_size e) e
  have hle := ddp_le ns []
  exact call_len_set ho hex hd hf (by rw [hn]; simp at hle; omega) ⟨.int _, H1, I2.tok _, ⟨_, by rw [hn]⟩, q1⟩
def setLen (x : D) : Option Int := match x with
  | .list xs => (intsOf xs).bind fun ns => if ns.length ≤ 4000 then some ((ddp [] ns).length : Nat) else none
  | _ => none
def fLenSet (f : Rho → R W) : Rho → R W := fun ρ => (f ρ).bind fun w ρ1 => match (look ρ1 w).bind setLen with
  | some n => .ok (.d (.int n)) ρ1
  | none => .bad
theorem fe_lenSet {a : Expr} {f : Rho → R W} {p p2 q pos : Pos} (hg : Gl X "len") (hm : X.mg "len" = none) (hg2 : Gl X "set") (hm2 : X.mg "set" = none) (ha : FE X g a f) (hc : X.calm = true)
    (na : starEach [a] X.env = (false, eval a X.env) :: starEach [] X.env) : FE X g (.Call (.Name "len" p) [.Call (.Name "set" p2) [a] [] q] [] pos) (fLenSet f) := by
  refine PE.imp (pe_lenSetG hg hm hg2 hm2 ha hc na) ?_
  rintro σ H Q ⟨F, ρ, r, h⟩
  refine ⟨F, ρ, r, ?_⟩
  unfold fLenSet at h
  cases e1 : f ρ with
  | bad => rw [e1] at h; exact h
  | exc c ρ' => rw [e1] at h; exact h
  | ok w ρ1 =>
    rw [e1] at h
    simp only [R.bind_ok] at h
    intro v H1 F1 r1 s1 w1
    cases e2 : (look ρ1 w).bind setLen with
    | none => rw [e2] at h; exact h.elim
    | some n =>
      rw [e2] at h
      obtain ⟨x, ex, es⟩ := Option.bind_eq_some_iff.mp e2
      unfold setLen at es
      split at es
      · rename_i xs
        obtain ⟨ns, e3, e4⟩ := Option.bind_eq_some_iff.mp es
        split at e4
        · rename_i hl
          cases e4
          obtain ⟨b, vs, rfl, h1, a1⟩ := (r1.look w1 ex).lst r1.sub
          have ev := ints_v a1 e3
          subst ev
          exact ⟨b, ns, rfl, .inl h1, hl, h _ H1 F1 r1 s1 (.int _)⟩
        · cases e4
      · cases es
/-! ### the script -/
def getZ (ρ : Rho) (i : Nat) : Option (List Int) := match ρ[i]? with
  | some (some (.z ns)) => some ns
  | _ => none
theorem getZ_some {ρ : Rho} {i : Nat} {ns : List Int} (h : getZ ρ i = some ns) : ρ[i]? = some (some (.z ns)) := by
  unfold getZ at h
  split at h
  · rename_i e
    cases h
    exact e
  · cases h
def fZlen (i : Nat) : Rho → R W := fun ρ => match getZ ρ i with
  | some ns => .ok (.d (.int (ns.length : Nat))) ρ
  | none => .bad
theorem fe_zlen {i : Nat} {x : Str} {p p2 pos : Pos} (hK : X.K = g.K) (hg : Gl X "len") (hm : X.mg "len" = none) (hN : X.N[i]? = some x) (hv : Vis X.env.scope x) (hd : (x == ("__debug__" : Str)) = false) (hcd : (x == ("__classdict__" : Str)) = false) :
    FE X g (.Call (.Name "len" p) [.Name x p2] [] pos) (fZlen i) := by
  refine PE.imp (pe_callB call_len_seq hg hm boot_len (pa_cons (pe_var hN hv hd hcd) pa_nil rfl) (by decide) (by decide) rfl rfl) ?_
  rintro σ H Q ⟨F, ρ, r, h⟩
  unfold fZlen at h
  cases e : getZ ρ i with
  | none => rw [e] at h; exact h.elim
  | some ns =>
    rw [e] at h
    obtain ⟨v, h1, a, rfl, h2⟩ := r.slot i _ (getZ_some e)
    have h3 : SqL X.K H a (ns.map V.int) := by rw [hK]; exact r.sub.sqL h2
    refine ⟨_, h1, a, _, rfl, .inl h3, ?_⟩
    rw [List.length_map]
    exact h _ H F r (.refl _ _ _ _) (.int _)
def fZidx (i : Nat) (f : Rho → R W) : Rho → R W := fun ρ => match getZ ρ i with
  | some _ => (f ρ).bind fun w ρ1 => (match getZ ρ1 i, w with
    | some ns, .d (.int j) => (match atI ns j with
      | some n => .ok (.d (.int n)) ρ1
      | none => .bad)
    | _, _ => .bad)
  | none => .bad
theorem atI_map {α β : Type} (f : α → β) (xs : List α) (i : Int) : atI (xs.map f) i = (atI xs i).map f := by
  unfold atI
  rw [List.length_map]
  cases ixN xs.length i with
  | none => rfl
  | some j => exact List.getElem?_map
theorem fe_zidx {i : Nat} {x : Str} {b : Expr} {p pos : Pos} {f : Rho → R W} (hK : X.K = g.K) (hN : X.N[i]? = some x) (hv : Vis X.env.scope x) (hd : (x == ("__debug__" : Str)) = false) (hcd : (x == ("__classdict__" : Str)) = false) (hb : FE X g b f) (hs : PlainIx b) :
    FE X g (.Subscript (.Name x p) b pos) (fZidx i f) := by
  refine PE.imp (pe_ix ix_list (pe_var hN hv hd hcd) hb hs) ?_
  rintro σ H Q ⟨F, ρ, r, h⟩
  unfold fZidx at h
  cases e : getZ ρ i with
  | none => rw [e] at h; exact h.elim
  | some ns =>
    rw [e] at h
    simp only at h
    obtain ⟨v, h1, a, rfl, h2⟩ := r.slot i _ (getZ_some e)
    refine ⟨_, h1, F, ρ, r, ?_⟩
    cases e1 : f ρ with
    | bad => rw [e1] at h; exact h
    | exc c ρ' => rw [e1] at h; exact h
    | ok w ρ1 =>
      rw [e1] at h
      simp only [R.bind_ok] at h
      intro u H1 F1 r1 s1 w1
      cases e2 : getZ ρ1 i with
      | none => rw [e2] at h; exact h.elim
      | some ms =>
        rw [e2] at h
        obtain ⟨v', k1, a', ev, k2⟩ := r1.slot i _ (getZ_some e2)
        rw [h1] at k1
        cases k1
        cases ev
        cases w with
        | own j => exact h.elim
        | d y =>
          cases y with
          | int j =>
            cases w1
            simp only at h
            cases e3 : atI ms j with
            | none => rw [e3] at h; exact h.elim
            | some n =>
              rw [e3] at h
              have k3 : SqL X.K H1 a (ms.map V.int) := by rw [hK]; exact r1.sub.sqL k2
              exact ⟨a, _, j, .int n, rfl, rfl, k3, by rw [atI_map, e3]; rfl, h _ H1 F1 r1 s1 (.int _)⟩
          | none => exact h.elim
          | bool _ => exact h.elim
          | str _ => exact h.elim
          | list _ => exact h.elim
          | tuple _ => exact h.elim
          | dict _ => exact h.elim
/-- script == [] -/
def fZnil (i : Nat) : Rho → R W := fun ρ => match getZ ρ i with
  | some ns => .ok (.d (.bool ns.isEmpty)) ρ
  | none => .bad
theorem dp_ints {K : PySem.W.Frag} {H : Hp} : ∀ ns : List Int, DpAll K H (ns.map V.int) (ns.map PyData.int)
  | [] => .nil
  | n :: ns => .cons (.int n) (dp_ints ns)
theorem shp_ints : ∀ ns : List Int, shpAll 7 (ns.map PyData.int) = true
  | [] => rfl
  | n :: ns => by rw [List.map_cons, shpAll, shp_ints ns]; rfl
theorem fe_znil {i : Nat} {x : Str} {p p2 pos : Pos} (hK : X.K = g.K) (hu : X.A.units + 64 < cLine) (hN : X.N[i]? = some x) (hv : Vis X.env.scope x) (hd : (x == ("__debug__" : Str)) = false) (hcd : (x == ("__classdict__" : Str)) = false) :
    FE X g (.Compare (.Name x p) [.Eq] [.List [] p2] pos) (fZnil i) := by
  refine PE.imp (pe_cmpR (op_eqD hu) (pe_var hN hv hd hcd) (pe_lst pa_nil) rfl) ?_
  rintro σ H Q ⟨F, ρ, r, h⟩
  unfold fZnil at h
  cases e : getZ ρ i with
  | none => rw [e] at h; exact h.elim
  | some ns =>
    rw [e] at h
    obtain ⟨v, h1, a, rfl, h2⟩ := r.slot i _ (getZ_some e)
    refine ⟨_, h1, Nat.zero_le _, fun q hq => ?_⟩
    have xt : Ext F H (upd F q (.lst [])) (upd H q (.lst [])) := .new r.sub hq
    have h3 : SqL X.K (upd H q (.lst [])) a (ns.map V.int) := by rw [hK]; exact xt.h.sqL (r.sub.sqL h2)
    refine ⟨.list (ns.map .int), .list [], .lst h3 (dp_ints ns), .lst (SqL.of upd_same) .nil, shp_shaped (by rw [shp]; exact shp_ints ns), rfl, ?_⟩
    have e2 : PyData.eqv (.list (ns.map .int)) (.list []) = ns.isEmpty := by cases ns <;> rfl
    rw [e2]
    exact h _ _ _ (r.ext xt) (r.frm xt) (.bl _)
theorem ft_znil {i : Nat} {x : Str} {p p2 pos : Pos} (hK : X.K = g.K) (hu : X.A.units + 64 < cLine) (hN : X.N[i]? = some x) (hv : Vis X.env.scope x) (hd : (x == ("__debug__" : Str)) = false) (hcd : (x == ("__classdict__" : Str)) = false) :
    FT X g (.Compare (.Name x p) [.Eq] [.List [] p2] pos) (asB (fZnil i)) := by
  refine PT.imp (pt_cmpR (op_eqD hu) (pe_var hN hv hd hcd) (pe_lst pa_nil) rfl) (ttest_imp ?_)
  rintro σ H Q ⟨F, ρ, r, h⟩
  unfold fZnil at h
  cases e : getZ ρ i with
  | none => rw [e] at h; exact h.elim
  | some ns =>
    rw [e] at h
    obtain ⟨v, h1, a, rfl, h2⟩ := r.slot i _ (getZ_some e)
    refine ⟨_, h1, Nat.zero_le _, fun q hq => ?_⟩
    have xt : Ext F H (upd F q (.lst [])) (upd H q (.lst [])) := .new r.sub hq
    have h3 : SqL X.K (upd H q (.lst [])) a (ns.map V.int) := by rw [hK]; exact xt.h.sqL (r.sub.sqL h2)
    refine ⟨.list (ns.map .int), .list [], .lst h3 (dp_ints ns), .lst (SqL.of upd_same) .nil, shp_shaped (by rw [shp]; exact shp_ints ns), rfl, ?_⟩
    have e2 : PyData.eqv (.list (ns.map .int)) (.list []) = ns.isEmpty := by cases ns <;> rfl
    rw [e2]
    exact h _ _ _ (r.ext xt) (r.frm xt) (.bl _)
/-! ### a, b = e1, e2 -/
def fPar (P : List Nat) (i j : Nat) (fs : Rho → R (List W)) : Rho → R Fl := fun ρ => if P.contains i = true ∨ P.contains j = true then .bad else (fs ρ).bind fun ws ρ1 => match ws with
  | [.d x, .d y] => .ok .nx ((ρ1.set i (some (.d x))).set j (some (.d y)))
  | _ => .bad
theorem fs_par {i j : Nat} {x y : Str} {a b : Expr} {px py pt pos : Pos} {kt k2 : Nat} {pt2 : Pos} {fs : Rho → R (List W)} (hc : X.calm = true) (hN : X.N.Nodup) (hi : X.N[i]? = some x) (hj : X.N[j]? = some y) (hij : i ≠ j)
    (hx : X.env.scope.names.lookup x = some .local) (hy : X.env.scope.names.lookup y = some .local) (ha : FA X g [a, b] fs)
    (hw : swappedStores [.Tuple [.Name x px, .Name y py] kt pt] (.Tuple [a, b] k2 pt2) X.env = pure (some [x, y])) :
    FS X g (.Assign [.Tuple [.Name x px, .Name y py] kt pt] (.Tuple [a, b] k2 pt2) pos) (fPar g.pins i j fs) := by
  refine PS.imp (ps_par hc hN hi hj hij hx hy ha hw rfl) fun D σ H h => ?_
  obtain ⟨F, ρ, r, h⟩ := tsOf_iff.mp h
  refine ⟨F, ρ, r, ?_⟩
  unfold fPar at h
  by_cases hp : g.pins.contains i = true ∨ g.pins.contains j = true
  · rw [if_pos hp] at h; exact h.elim
  · rw [if_neg hp] at h
    rw [not_or] at hp
    cases e1 : fs ρ with
    | bad => rw [e1] at h; exact h
    | exc c ρ' => rw [e1] at h; exact fun H' F' r' => h _ H' F' r'
    | ok ws ρ1 =>
      rw [e1] at h
      simp only [R.bind_ok] at h
      intro vs H1 F1 r1 s1 w1
      split at h
      · cases w1 with
        | cons w1 w2 =>
          cases w2 with
          | cons w2 w3 =>
            cases w3
            exact ⟨_, _, rfl, h _ H1 F1 ((r1.setD (not_pin hp.1) w1).setD (not_pin hp.2) w2) s1.f⟩
      · exact h.elim
/-- a, b = e1, [..]: the second is an own list -/
def fParO (P : List Nat) (i j : Nat) (f : Rho → R W) (fs : Rho → R (List W)) : Rho → R Fl := fun ρ => if P.contains i = true ∨ P.contains j = true then .bad else (f ρ).bind fun w ρ1 => (match w with
  | .d x => (fs ρ1).bind fun ws ρ2 => (match datas ws with
    | some ds => if ds.length ≤ 1000000 then .ok .nx ((ρ2.set i (some (.d x))).set j (some (.l ds))) else .bad
    | none => .bad)
  | _ => .bad)
theorem fs_parO {i j : Nat} {x y : Str} {a : Expr} {es : List Expr} {lp px py pt pos : Pos} {kt k2 : Nat} {pt2 : Pos} {f : Rho → R W} {fs : Rho → R (List W)} (hc : X.calm = true) (hN : X.N.Nodup) (hi : X.N[i]? = some x) (hj : X.N[j]? = some y) (hij : i ≠ j)
    (hx : X.env.scope.names.lookup x = some .local) (hy : X.env.scope.names.lookup y = some .local) (ha : FE X g a f) (hb : FA X g es fs) (hs : starEach [a, .List es lp] X.env = (false, eval a X.env) :: starEach [.List es lp] X.env)
    (hw : swappedStores [.Tuple [.Name x px, .Name y py] kt pt] (.Tuple [a, .List es lp] k2 pt2) X.env = pure (some [x, y])) :
    FS X g (.Assign [.Tuple [.Name x px, .Name y py] kt pt] (.Tuple [a, .List es lp] k2 pt2) pos) (fParO g.pins i j f fs) := by
  refine PS.imp (ps_par hc hN hi hj hij hx hy (pa_cons ha (pa_cons (pe_lst hb) pa_nil rfl) hs) hw rfl) fun D σ H h => ?_
  obtain ⟨F, ρ, r, h⟩ := tsOf_iff.mp h
  refine ⟨F, ρ, r, ?_⟩
  unfold fParO at h
  by_cases hp : g.pins.contains i = true ∨ g.pins.contains j = true
  · rw [if_pos hp] at h; exact h.elim
  · rw [if_neg hp] at h
    rw [not_or] at hp
    cases e0 : f ρ with
    | bad => rw [e0] at h; exact h
    | exc c ρ' => rw [e0] at h; exact fun H' F' r' => h _ H' F' r'
    | ok w ρ0 =>
      rw [e0] at h
      simp only [R.bind_ok] at h
      intro v H0 F0 r0 s0 w0
      cases w with
      | own k => exact h.elim
      | d x0 =>
        simp only at h
        refine ⟨F0, ρ0, r0, ?_⟩
        cases e1 : fs ρ0 with
        | bad => rw [e1] at h; exact h
        | exc c ρ' => rw [e1] at h; exact fun H' F' r' => h _ H' F' r'
        | ok ws ρ1 =>
          rw [e1] at h
          simp only [R.bind_ok] at h
          intro vs H1 F1 r1 s1 w1
          cases e2 : datas ws with
          | none => rw [e2] at h; exact h.elim
          | some ds =>
            rw [e2] at h
            simp only at h
            have a1 := datas_all w1 e2
            by_cases hl : ds.length ≤ 1000000
            · rw [if_pos hl] at h
              exact ⟨by rw [a1.len]; exact lim_ok hl, fun p hq => ⟨_, _, rfl, h _ _ F1 ((r1.setD (not_pin hp.1) (w0.mono s1.f)).newOwn hq (not_pin hp.2) a1) (s0.f.trans s1.f)⟩⟩
            · rw [if_neg hl] at h
              exact h.elim
end
end FL

namespace FL
open PySem L2 PyProof.Rows

/-! ### set(xs) of a list of ints, tracked; sorted(set(xs)) -/
abbrev nuSet (w : World) : Obj := { cls := .type "set", dict := none, data := .set #[] 0 (.fresh 0 0 (!w.params.followText "set-order")) }
section
variable {Pg : Program} {w : World} {A : Around} {E : Value → Shared → Prop} {z : Shared}
theorem set_of_list {l : Addr} {its : Array Value} (ns : List Int) {Q : Value → Shared → Prop} (hA : A.handled = none) (hl : z.heap.IsList l its) (hi : IntsAre its.toList ns) (hb : ns.length + 1 < scanBound)
    (k : ∀ (h' : Heap) (t c : Nat), SetR w h' z.heap.objs.size (fun j => decide (j ∈ ns)) c → c ≤ ns.length → (∀ b o, z.heap.get? b = some o → h'.get? b = some o) → Q (.ref z.heap.objs.size) { z with heap := h', toks := t }) :
    wpAny (model Pg w) A (call (.type "set") [.ref l]) Q E z := by
  have hn : its.size = ns.length := by have := IntsAre.length hi; rwa [Array.length_toList] at this
  obtain ⟨c0, tl0, hmro⟩ := F.called_set.mro
  have hmade := F.called_set.made; have hsub := F.called_set.sub
  refine wpAny_call (codeAny_of_tree ?_); show wpAny _ _ (callAny (.type "set") _) _ _ _
  refine wpAny_pure ⟨Code.quiet_builtin _ (by decide +kernel), codeAny_builtin F.entry_type_call ?_⟩; rw [Around.under_plain (weight_type_call_type "set" [.ref l] []) rfl]
  have h1 := F.called_set.notType; have h2 := F.called_set.canCreate; have hct := F.typeCall_set_1 (.ref l)
  repeat (any_goals (first | assumption | wp_step))
  refine codeAny_mono (code_set_led1 (.ref l) (E := E) (Q₁ := fun ob s1 => ob = .ref z.heap.objs.size ∧ s1 = { z with heap := z.heap.push (nuSet w) }) ⟨rfl, rfl⟩) fun r s1 hr => ?_
  cases r with
  | error e => exact hr
  | ok fl =>
    cases fl with
    | ret ob =>
      obtain ⟨rfl, rfl⟩ := hr
      have hS : (z.heap.push (nuSet w)).get? z.heap.objs.size = some (nuSet w) := Heap.get?_push_size _ rfl
      have hT : Shared.TypeIs { z with heap := z.heap.push (nuSet w) } (.ref z.heap.objs.size) "set" := ⟨_, hS, rfl⟩
      have hli := F.called_set.init.lookup; have hbi := F.called_set.init.bind (.ref z.heap.objs.size)
      repeat (any_goals (first | assumption | wp_step))
      refine codeAny_mono (codeAny_call_builtin (R := wants (fun v s2 => v = .none ∧ ∃ h' t c, s2 = { z with heap := h', toks := t } ∧ SetR w h' z.heap.objs.size (fun j => decide (j ∈ ns)) c ∧ c ≤ ns.length ∧ (∀ b o, z.heap.get? b = some o → h'.get? b = some o)) E) F.called_set.init.plain F.entry_set_init (check_set_init_1 hT ?_)) fun r2 s2 hr2 => ?_
      · obtain ⟨⟨ocls, odict, odata, osl⟩, hol, hcl, nl, hdl⟩ := hl
        simp only at hcl hdl
        subst hcl hdl
        have hol' : (z.heap.push (nuSet w)).get? l = some { cls := .type "list", dict := odict, data := .seq its nl, slots := osl } := Heap.get?_push_of_some _ hol
        have hsls := F.sub_list_set; have hslf := F.sub_list_frozenset; have hne : (Value.type "list" == Value.type "dict") = false := by decide
        have hl1 : (z.heap.push (nuSet w)).IsList l its := ⟨_, hol', rfl, nl, rfl⟩
        unfold Builtin.«set.__init__» noKeywords Builtin.Frozenset.updateFrom
        generalize hPI : pyIter = PI
        wp_walk
        subst hPI
        refine wpAny_pyIter_list hl1 (wpAny_bind (wpAny_runValue ?_))
        have hlz : l < z.heap.objs.size := Heap.lt_size hol
        have hA3 : A.in1.in1.in1.handled = none := by simp [hA]
        have nI : l ≠ (z.heap.push (nuSet w)).objs.size := by rw [Heap.size_push]; exact Nat.ne_of_lt (Nat.lt_succ_of_lt hlz)
        have nS : z.heap.objs.size ∉ [(z.heap.push (nuSet w)).objs.size, l] := by
          rw [Heap.size_push]
          intro hm
          rcases List.mem_cons.mp hm with e | hm
          · exact Nat.ne_of_lt (Nat.lt_succ_self _) e
          · exact Nat.ne_of_gt hlz (List.mem_singleton.mp hm)
        have hval : ∀ (i : Nat) (v : Value), its[i]? = some v → ∃ q t, ns[i]? = some q ∧ v = .int q t := fun i v hv => by
          have hlt : i < ns.length := by rw [← hn]; exact (Array.getElem?_eq_some_iff.mp hv).1
          obtain ⟨t, e⟩ := IntsAre.int_at hi i v (by rw [Array.getElem?_toList]; exact hv)
          exact ⟨ns[i], t, List.getElem?_eq_getElem hlt, by rw [e, List.getD_eq_getElem?_getD, List.getElem?_eq_getElem hlt]; rfl⟩
        refine set_update_ints ((Walks.list hA3 _ l nI its).toS) z.heap.objs.size nS ns hn hb hval (its.size - 0) 0 _ (by omega) (Nat.zero_le _) ⟨⟨_, Heap.get?_push_size _ rfl, rfl, rfl⟩, hl1.push _⟩ ⟨0, Nat.le_refl 0, setR_new_at (Heap.get?_push_of_some _ hS)⟩ ?_
        rintro ⟨h', g2, d', t', os'⟩ c' hm hc' hS'
        have eg : g2 = z.gens := hm.gens; have ed : d' = z.drawn := hm.drawn; have eo : os' = z.os := hm.os
        subst eg ed eo
        show wpAny _ _ _ _ _ _; refine wpAny_pure ?_; show wpAny _ _ (ret Value.none) _ _ _; rw [hn] at hc'
        refine wpAny_pure ⟨rfl, h', t', c', rfl, hS', hc', fun b o e => hm.heap b o (fun hmem => ?_) (Heap.get?_push_of_some _ (Heap.get?_push_of_some _ e))⟩
        have hbz : b < z.heap.objs.size := Heap.lt_size e
        rcases List.mem_cons.mp hmem with e' | hmem
        · exact Nat.ne_of_lt hbz e'
        · rw [List.mem_singleton, Heap.size_push] at hmem; exact Nat.ne_of_lt (Nat.lt_succ_of_lt hbz) hmem
      · cases r2 with
        | error e => exact hr2
        | ok fl2 =>
          cases fl2 with
          | ret v =>
            obtain ⟨rfl, h', t, c', rfl, q1, q2, q3⟩ := hr2
            repeat (any_goals (first | assumption | wp_step))
            exact k _ _ _ q1 q2 q3
          | _ => exact hr2.elim
    | _ => exact hr.elim
end
end FL

namespace FL
open PySem L2 PyProof.Rows
section
variable {X : Cx} {g : G}
def rSetLI (K : PySem.W.Frag) (w : World) : List V → Hp → VK → Prop := fun xs H Q => ∃ (l : Addr) (ns : List Int), xs = [V.ref l] ∧ SqL K H l (ns.map V.int) ∧ ns.length < 60 ∧ ∀ a c, H a = none → c ≤ ns.length → Q (.ref a) (upd H a (SetO w a (fun j => decide (j ∈ ns)) c))
theorem cr_setLI (hc : X.calm = true) : CallR X (.type "set") (rSetLI X.K X.w) := by
  intro pins s σ H xs us Q I r h
  obtain ⟨l, ns, rfl, hl, hlen, q⟩ := h
  rw [Vals.ref1 r]
  obtain ⟨its, rv, pl, hz⟩ := I.list hl
  refine set_of_list ns (I.ok.hd hc) pl.isList (by simpa using RZ.intsAre_vals rv) (by unfold scanBound; omega) fun h' t c R hc' kp => ?_
  exact ⟨.ref s.heap.objs.size, upd H s.heap.objs.size (SetO X.w s.heap.objs.size (fun j => decide (j ∈ ns)) c), I.laid (t' := t) kp (Nat.le_refl _) (setO_new R), rfl, q _ c (I.hok.fresh (Nat.le_refl _)) hc'⟩
end
/-- the members, rising, each once -/
def sins (x : Int) : List Int → List Int
  | [] => [x]
  | y :: ys => if x < y then x :: y :: ys else if x = y then y :: ys else y :: sins x ys
def sset : List Int → List Int
  | [] => []
  | x :: xs => sins x (sset xs)
theorem sins_mem (x z : Int) : ∀ l : List Int, z ∈ sins x l ↔ z = x ∨ z ∈ l
  | [] => by simp [sins]
  | y :: ys => by
    rw [sins]
    split
    · simp
    · split
      · rename_i h; subst h; simp
      · simp only [List.mem_cons, sins_mem x z ys]
        constructor
        · rintro (h | h | h) <;> simp [h]
        · rintro (h | h | h) <;> simp [h]
theorem sset_mem (z : Int) : ∀ l : List Int, z ∈ sset l ↔ z ∈ l
  | [] => Iff.rfl
  | x :: xs => by rw [sset, sins_mem, sset_mem z xs, List.mem_cons]
theorem sins_srt (x : Int) : ∀ l : List Int, l.Pairwise (· < ·) → (sins x l).Pairwise (· < ·)
  | [], _ => by simp [sins]
  | y :: ys, h => by
    have h' := List.pairwise_cons.mp h
    rw [sins]
    split
    · rename_i hxy
      refine List.pairwise_cons.mpr ⟨fun z hz => ?_, h⟩
      rcases List.mem_cons.mp hz with e | hz
      · omega
      · have := h'.1 z hz; omega
    · split
      · exact h
      · refine List.pairwise_cons.mpr ⟨fun z hz => ?_, sins_srt x ys h'.2⟩
        rcases (sins_mem x z ys).mp hz with e | hz
        · omega
        · exact h'.1 z hz
theorem sset_srt : ∀ l : List Int, (sset l).Pairwise (· < ·)
  | [] => .nil
  | x :: xs => sins_srt x _ (sset_srt xs)
theorem srt_uniq : ∀ {l m : List Int}, l.Pairwise (· < ·) → m.Pairwise (· < ·) → (∀ z, z ∈ l ↔ z ∈ m) → l = m
  | [], [], _, _, _ => rfl
  | [], b :: m, _, _, h => by have := (h b).mpr List.mem_cons_self; cases this
  | a :: l, [], _, _, h => by have := (h a).mp List.mem_cons_self; cases this
  | a :: l, b :: m, hl, hm, h => by
    have hl' := List.pairwise_cons.mp hl
    have hm' := List.pairwise_cons.mp hm
    have e : a = b := by
      rcases List.mem_cons.mp ((h a).mp List.mem_cons_self) with e | ha
      · exact e
      · rcases List.mem_cons.mp ((h b).mpr List.mem_cons_self) with e | hb
        · exact e.symm
        · have h1 := hl'.1 b hb
          have h2 := hm'.1 a ha
          omega
    subst e
    rw [srt_uniq hl'.2 hm'.2 fun z => ?_]
    constructor
    · intro hz
      rcases List.mem_cons.mp ((h z).mp (List.mem_cons_of_mem _ hz)) with e | h'
      · have := hl'.1 z hz; omega
      · exact h'
    · intro hz
      rcases List.mem_cons.mp ((h z).mpr (List.mem_cons_of_mem _ hz)) with e | h'
      · have := hm'.1 z hz; omega
      · exact h'
def setInts (x : D) : Option (List Int) := match x with
  | .list xs => (intsOf xs).bind fun ns => if ns.length < 60 then some ns else none
  | _ => none
def fSortSet (f : Rho → R W) : Rho → R W := fun ρ => (f ρ).bind fun w ρ1 => match (look ρ1 w).bind setInts with
  | some ns => .ok (.d (.list ((sset ns).map .int))) ρ1
  | none => .bad
theorem dv_ints {F : Hp} : ∀ ns : List Int, DvAll F (ns.map V.int) (ns.map PyData.int)
  | [] => .nil
  | n :: ns => .cons (.int n) (dv_ints ns)
theorem fe_sortSet {X : Cx} {g : G} {a : Expr} {f : Rho → R W} {p p2 q pos : Pos} (hK : X.K = g.K) (hg : Gl X "sorted") (hm : X.mg "sorted" = none) (hg2 : Gl X "set") (hm2 : X.mg "set" = none) (ha : FE X g a f) (hc : X.calm = true)
    (na : starEach [a] X.env = (false, eval a X.env) :: starEach [] X.env) : FE X g (.Call (.Name "sorted" p) [.Call (.Name "set" p2) [a] [] q] [] pos) (fSortSet f) := by
  refine PE.imp (pe_callB (cr_sortedSet hc) hg hm (by decide +kernel) (pa_cons (pe_callTy (cr_setLI hc) hg2 hm2 (by decide +kernel) (pa_cons ha pa_nil na) (by decide) (by decide) na rfl) pa_nil rfl) (by decide) (by decide) rfl rfl) ?_
  rintro σ H Q ⟨F, ρ, r, h⟩
  refine ⟨F, ρ, r, ?_⟩
  unfold fSortSet at h
  cases e1 : f ρ with
  | bad => rw [e1] at h; exact h
  | exc c ρ' => rw [e1] at h; exact h
  | ok w ρ1 =>
    rw [e1] at h
    simp only [R.bind_ok] at h
    intro v H1 F1 r1 s1 w1
    cases e2 : (look ρ1 w).bind setInts with
    | none => rw [e2] at h; exact h.elim
    | some ns =>
      rw [e2] at h
      obtain ⟨x, ex, es⟩ := Option.bind_eq_some_iff.mp e2
      unfold setInts at es
      split at es
      · obtain ⟨ms, e3, e4⟩ := Option.bind_eq_some_iff.mp es
        split at e4
        · rename_i hl
          cases e4
          obtain ⟨b, vs, rfl, h1, a1⟩ := (r1.look w1 ex).lst r1.sub
          have ev := ints_v a1 e3
          subst ev
          refine ⟨b, _, rfl, .inl h1, hl, fun t c ht hct => ⟨t, _, c, rfl, upd_same, by omega, fun ns' p hs hmem _ hp => ?_⟩⟩
          have en : ns' = sset ns := srt_uniq hs (sset_srt ns) fun z => by rw [hmem z, sset_mem]; simp
          subst en
          have x1 : Ext F1 H1 F1 (upd H1 t (SetO X.w t (fun j => decide (j ∈ ns)) c)) := .raw r1.sub ht
          have x2 : Ext F1 (upd H1 t (SetO X.w t (fun j => decide (j ∈ ns)) c)) (upd F1 p (.lst ((sset ns).map V.int))) (upd (upd H1 t (SetO X.w t (fun j => decide (j ∈ ns)) c)) p (.lst ((sset ns).map V.int))) := .new x1.s hp
          exact h _ _ _ (r1.ext (x1.trans x2)) (s1.trans (r1.frm (x1.trans x2))) (mkL x1.s hp (dv_ints _))
        · cases e4
      · cases es
end FL

namespace FL
open PySem L2 PyProof.Rows

/-! ### keys -/
mutual
theorem nkey_inj : ∀ (x y : D) (k : NestedKey), nkey x = some k → nkey y = some k → x = y
  | .none, y, k, h, h' => by
    cases y <;> simp only [nkey] at h h' <;> first | rfl | (cases h; cases h'; done) | skip
    · cases h; obtain ⟨_, _, e⟩ := Option.map_eq_some_iff.mp h'; cases e
  | .int i, y, k, h, h' => by
    cases y <;> simp only [nkey] at h h' <;> first | (cases h; cases h'; first | rfl | done) | skip
    · cases h; obtain ⟨_, _, e⟩ := Option.map_eq_some_iff.mp h'; cases e
  | .str i, y, k, h, h' => by
    cases y <;> simp only [nkey] at h h' <;> first | (cases h; cases h'; first | rfl | done) | skip
    · cases h; obtain ⟨_, _, e⟩ := Option.map_eq_some_iff.mp h'; cases e
  | .tuple xs, y, k, h, h' => by
    simp only [nkey] at h
    obtain ⟨ks, h1, rfl⟩ := Option.map_eq_some_iff.mp h
    cases y <;> simp only [nkey] at h' <;> first | (cases h'; done) | skip
    · obtain ⟨ks', h2, e⟩ := Option.map_eq_some_iff.mp h'
      cases e
      rw [nkeys_inj xs _ ks h1 h2]
  | .bool _, y, k, h, h' => by simp [nkey] at h
  | .list _, y, k, h, h' => by simp [nkey] at h
  | .dict _, y, k, h, h' => by simp [nkey] at h
theorem nkeys_inj : ∀ (xs ys : List D) (ks : List NestedKey), nkeys xs = some ks → nkeys ys = some ks → xs = ys
  | [], [], ks, _, _ => rfl
  | [], y :: ys, ks, h, h' => by
    cases h
    obtain ⟨k, _, h2⟩ := Option.bind_eq_some_iff.mp (show (nkey y).bind _ = _ from h')
    obtain ⟨_, _, e⟩ := Option.map_eq_some_iff.mp h2
    cases e
  | x :: xs, [], ks, h, h' => by
    cases h'
    obtain ⟨k, _, h2⟩ := Option.bind_eq_some_iff.mp (show (nkey x).bind _ = _ from h)
    obtain ⟨_, _, e⟩ := Option.map_eq_some_iff.mp h2
    cases e
  | x :: xs, y :: ys, ks, h, h' => by
    obtain ⟨k, a1, a2⟩ := Option.bind_eq_some_iff.mp (show (nkey x).bind _ = _ from h)
    obtain ⟨l, a3, a4⟩ := Option.map_eq_some_iff.mp a2
    obtain ⟨k', b1, b2⟩ := Option.bind_eq_some_iff.mp (show (nkey y).bind _ = _ from h')
    obtain ⟨l', b3, b4⟩ := Option.map_eq_some_iff.mp b2
    rw [← a4] at b4
    cases b4
    rw [nkey_inj x y k a1 b1, nkeys_inj xs ys l a3 b3]
end
mutual
theorem nkey_deq : ∀ (x : D) (k : NestedKey), nkey x = some k → deq x x = true
  | .none, k, h => rfl
  | .int i, k, h => by simp [deq]
  | .str i, k, h => by simp [deq]
  | .tuple xs, k, h => by
    simp only [nkey] at h
    obtain ⟨ks, h1, rfl⟩ := Option.map_eq_some_iff.mp h
    rw [deq]
    exact nkeys_deq xs ks h1
  | .bool _, k, h => by simp [nkey] at h
  | .list _, k, h => by simp [nkey] at h
  | .dict _, k, h => by simp [nkey] at h
theorem nkeys_deq : ∀ (xs : List D) (ks : List NestedKey), nkeys xs = some ks → deqAll xs xs = true
  | [], ks, h => rfl
  | x :: xs, ks, h => by
    obtain ⟨k, a1, a2⟩ := Option.bind_eq_some_iff.mp (show (nkey x).bind _ = _ from h)
    obtain ⟨l, a3, a4⟩ := Option.map_eq_some_iff.mp a2
    rw [deqAll, nkey_deq x k a1, nkeys_deq xs l a3]
    rfl
end
theorem key_eq {x y : D} {k l : NestedKey} (hx : nkey x = some k) (hy : nkey y = some l) : deq x y = decide (k = l) := by
  by_cases e : k = l
  · subst e
    rw [nkey_inj x y k hx hy, decide_eq_true rfl]
    exact nkey_deq y k hy
  · rw [decide_eq_false e]
    cases h : deq x y with
    | false => rfl
    | true =>
      have := deq_eq x y h
      subst this
      rw [hx] at hy
      exact absurd (Option.some.inj hy) e
mutual
theorem nested_of {X : Cx} {pins : List (Addr × Obj)} {σ : L2.St} {H F : Hp} {s : Shared} (I : Inv X pins σ H s) (sub : Sub F H) : ∀ (x : D) (v : V) (u : Value) (k : NestedKey), Dv F v x → RelV v u → nkey x = some k → NestedIs s.heap k u
  | .none, v, u, k, d, r, h => by cases d; cases r; cases h; exact .none
  | .int i, v, u, k, d, r, h => by cases d; obtain ⟨t, rfl⟩ := r; cases h; exact .int _ _
  | .str i, v, u, k, d, r, h => by cases d; obtain ⟨t, rfl⟩ := r; cases h; exact .text _ _
  | .tuple xs, v, u, k, d, r, h => by
    simp only [nkey] at h
    obtain ⟨ks, h1, rfl⟩ := Option.map_eq_some_iff.mp h
    cases d with
    | tup hr ha =>
      cases r
      obtain ⟨z, its, rv, ob, e1, e2, n, e3⟩ := (sub.rd hr).ok I.hok
      exact .tup e1 e2 e3 (by rw [List.toList_toArray]; exact nesteds_of I sub xs _ _ ks ha rv h1)
  | .bool _, v, u, k, d, r, h => by simp [nkey] at h
  | .list _, v, u, k, d, r, h => by simp [nkey] at h
  | .dict _, v, u, k, d, r, h => by simp [nkey] at h
theorem nesteds_of {X : Cx} {pins : List (Addr × Obj)} {σ : L2.St} {H F : Hp} {s : Shared} (I : Inv X pins σ H s) (sub : Sub F H) : ∀ (xs : List D) (vs : List V) (us : List Value) (ks : List NestedKey), DvAll F vs xs → Vals vs us → nkeys xs = some ks → NestedAll s.heap ks us
  | [], vs, us, ks, d, r, h => by cases d; cases r; cases h; exact .nil
  | x :: xs, vs, us, ks, d, r, h => by
    obtain ⟨k, a1, a2⟩ := Option.bind_eq_some_iff.mp (show (nkey x).bind _ = _ from h)
    obtain ⟨l, a3, a4⟩ := Option.map_eq_some_iff.mp a2
    subst a4
    cases d with
    | cons d1 d2 =>
      cases r with
      | cons r1 r2 => exact .cons (nested_of I sub x _ _ k d1 r1 a1) (nesteds_of I sub xs _ _ l d2 r2 a3)
end
/-! ### a dict as data -/
def dhas (kvs : List (D × D)) (x : D) : Bool := kvs.any fun p => deq p.1 x
def dget (kvs : List (D × D)) (x : D) : Option D := (kvs.find? fun p => deq p.1 x).map (·.2)
def dput (kvs : List (D × D)) (x v : D) : List (D × D) := if dhas kvs x = true then kvs.map fun p => if deq p.1 x = true then (p.1, v) else p else kvs ++ [(x, v)]
/-- a key of a dict: a tuple -/
def nkOk (x : D) : Bool := match x with
  | .tuple xs => (match nkey (.tuple xs) with
    | some k => decide (k.depth ≤ 8)
    | none => false)
  | _ => false
theorem nkOk_some {x : D} (h : nkOk x = true) : ∃ k, nkey x = some k ∧ k.depth ≤ 8 := by
  unfold nkOk at h
  split at h
  · split at h
    · rename_i k e
      exact ⟨k, e, of_decide_eq_true h⟩
    · cases h
  · cases h
theorem nkOk_ref {F : Hp} {v : V} {x : D} (h : nkOk x = true) (d : Dv F v x) : ∃ a, v = .ref a := by
  cases d with
  | tup _ _ => exact ⟨_, rfl⟩
  | lst _ _ => exact ⟨_, rfl⟩
  | _ => simp [nkOk] at h
section
variable {F : Hp}
theorem MAll.len : ∀ {kvs : List (D × D)} {xs : List (NestedKey × Addr × Value)}, MAll F kvs xs → xs.length = kvs.length
  | _, _, .nil => rfl
  | _, _, .cons _ _ _ _ _ m => by rw [List.length_cons, List.length_cons, m.len]
theorem MAll.at {x : D} {k : NestedKey} (hk : nkey x = some k) : ∀ {kvs : List (D × D)} {xs : List (NestedKey × Addr × Value)}, MAll F kvs xs →
    (dget kvs x = none ∧ atKey xs k = none ∧ dhas kvs x = false) ∨ ∃ vd p v, dget kvs x = some vd ∧ atKey xs k = some p ∧ RelV v p.2 ∧ Dv F v vd ∧ dhas kvs x = true
  | _, _, .nil => .inl ⟨rfl, rfl, rfl⟩
  | _, _, .cons (kd := kd) (vd := vd) (k := k') (ka := ka) (v := v) (u := u) (kvs := kvs) (xs := xs) a b c d e m => by
    have q := key_eq a hk
    by_cases h : k' = k
    · rw [decide_eq_true h] at q
      exact .inr ⟨vd, (ka, u), v, by simp [dget, q], by simp [atKey, h], d, e, by simp [dhas, q]⟩
    · rw [decide_eq_false h] at q
      rcases m.at hk with ⟨h1, h2, h3⟩ | ⟨vd', p, v', h1, h2, h3, h4, h5⟩
      · exact .inl ⟨by simpa [dget, q] using h1, by simpa [atKey, h] using h2, by simpa [dhas, q] using h3⟩
      · exact .inr ⟨vd', p, v', by simpa [dget, q] using h1, by simpa [atKey, h] using h2, h3, h4, by simpa [dhas, q] using h5⟩
theorem MAll.mapPut {x vd : D} {k : NestedKey} {v : V} {u : Value} (hk : nkey x = some k) (r : RelV v u) (d : Dv F v vd) : ∀ {kvs : List (D × D)} {xs : List (NestedKey × Addr × Value)}, MAll F kvs xs → MAll F (kvs.map fun p => if deq p.1 x = true then (p.1, vd) else p) (xs.map (putAt k u))
  | _, _, .nil => .nil
  | _, _, .cons (kd := kd) (k := k') a b c d' e m => by
    have q := key_eq a hk
    rw [List.map_cons, List.map_cons]
    by_cases h : k' = k
    · rw [decide_eq_true h] at q
      rw [if_pos q, putAt, if_pos h]
      exact .cons a b c r d (m.mapPut hk r d)
    · rw [decide_eq_false h] at q
      rw [if_neg (by rw [q]; decide), putAt, if_neg h]
      exact .cons a b c d' e (m.mapPut hk r d)
theorem MAll.snoc {x vd : D} {k : NestedKey} {ka : Addr} {v : V} {u : Value} (hk : nkey x = some k) (h8 : k.depth ≤ 8) (dk : Dv F (.ref ka) x) (r : RelV v u) (d : Dv F v vd) : ∀ {kvs : List (D × D)} {xs : List (NestedKey × Addr × Value)}, MAll F kvs xs → MAll F (kvs ++ [(x, vd)]) (xs ++ [(k, ka, u)])
  | _, _, .nil => .cons hk h8 dk r d .nil
  | _, _, .cons a b c d' e m => .cons a b c d' e (m.snoc hk h8 dk r d)
theorem MAll.put {x vd : D} {k : NestedKey} {ka : Addr} {v : V} {u : Value} (hk : nkey x = some k) (h8 : k.depth ≤ 8) (dk : Dv F (.ref ka) x) (r : RelV v u) (d : Dv F v vd) {kvs : List (D × D)} {xs : List (NestedKey × Addr × Value)} (m : MAll F kvs xs) : MAll F (dput kvs x vd) (storedH xs k ka u) := by
  unfold dput storedH
  rcases m.at hk with ⟨h1, h2, h3⟩ | ⟨vd', p, v', h1, h2, h3, h4, h5⟩
  · rw [h2, h3]
    exact m.snoc hk h8 dk r d
  · rw [h2, h5]
    exact m.mapPut hk r d
theorem MAll.keys {X : Cx} {pins : List (Addr × Obj)} {σ : L2.St} {H : Hp} {s : Shared} (I : Inv X pins σ H s) (sub : Sub F H) : ∀ {kvs : List (D × D)} {xs : List (NestedKey × Addr × Value)}, MAll F kvs xs → ∀ x ∈ xs, (nestedKind X.prog X.w).is s.heap x.1 x.2.1
  | _, _, .nil, _, h => by cases h
  | _, _, .cons a b c d e m, x, h => by
    rcases List.mem_cons.mp h with q | q
    · subst q
      exact ⟨nested_of I sub _ _ _ _ c rfl a, b⟩
    · exact m.keys I sub x q
/-- the keys as items of a list -/
theorem MAll.items : ∀ {kvs : List (D × D)} {xs : List (NestedKey × Addr × Value)}, MAll F kvs xs → DvAll F (xs.map fun x => V.ref x.2.1) (kvs.map (·.1))
  | _, _, .nil => .nil
  | _, _, .cons a b c d e m => .cons c m.items
end
theorem dput_len (kvs : List (D × D)) (x v : D) : (dput kvs x v).length ≤ kvs.length + 1 := by
  unfold dput
  split
  · rw [List.length_map]; omega
  · rw [List.length_append]; exact Nat.le_refl _
section
variable {X : Cx} {pins : List (Addr × Obj)} {σ : L2.St} {H F : Hp} {s : Shared}
theorem dct_at (I : Inv X pins σ H s) (sub : Sub F H) {z : Z} (hp : z.prog = X.prog) (hw : z.wd = X.w) {a : Addr} {xs : List (NestedKey × Addr × Value)} {kvs : List (D × D)} (h : H a = some (DctO z a xs)) (m : MAll F kvs xs) : s.heap.DictOfH (nestedKind X.prog X.w) a xs := by
  obtain ⟨p, _, _⟩ := I.hok a _ h
  obtain ⟨o, es, ep, h1, h2, h3, h4, h5⟩ := p
  rw [hp, hw] at h4
  exact ⟨o, es, ep, h1, h2, h3, h4, m.keys I sub, h5⟩
theorem dct_new {P : Program} {w : World} {H' : Hp} {h' : Heap} {a : Addr} {xs : List (NestedKey × Addr × Value)} (x : h'.DictOfH (nestedKind P w) a xs) : ObjOk P w H' h' a (.ext (DctP P w a xs)) := by
  obtain ⟨o, es, ep, h1, h2, h3, h4, _, h5⟩ := x
  exact ⟨⟨o, es, ep, h1, h2, h3, h4, h5⟩, ⟨o, h1⟩, fun g1 g2 ⟨o, es, ep, h1, h2, h3, h4, h5⟩ k => ⟨o, es, ep, k _ h1, h2, h3, h4, h5⟩⟩
theorem dct_z {z : Z} {P : Program} {w : World} (hp : z.prog = P) (hw : z.wd = w) (a : Addr) (xs : List (NestedKey × Addr × Value)) : DctO z a xs = .ext (DctP P w a xs) := by
  subst hp hw
  rfl
end
/-! ### new things -/
def tnOf (g : G) (f : Rho → R S) : TE := fun σ H Q => ∃ F ρ, Rel g F ρ σ H ∧ match f ρ with
  | .ok s ρ' => ∀ v H' F', Rel g F' ρ' σ H' → Frm σ F H ρ F' H' ρ' → RRel g F' H' ρ' σ v s → (∀ a, ownA H' v s a → H a = none) → Q v H'
  | .exc c ρ' => ∀ H' F', Rel g F' ρ' σ H' → g.W (.ref (g.cls c)) none σ H'
  | .bad => False
abbrev FN (X : Cx) (g : G) (e : Expr) (f : Rho → R S) : Prop := PE X e (tnOf g f)
def toS (f : Rho → R W) : Rho → R S := fun ρ => (f ρ).bind fun w ρ1 => match w with
  | .d x => .ok (.d x) ρ1
  | _ => .bad
def nLst (fs : Rho → R (List W)) : Rho → R S := fun ρ => (fs ρ).bind fun ws ρ1 => match datas ws with
  | some ds => if ds.length ≤ 1000000 then .ok (.l ds) ρ1 else .bad
  | none => .bad
def nDct0 : Rho → R S := fun ρ => .ok (.m []) ρ
def nDct1 (fk fv : Rho → R W) : Rho → R S := fun ρ => (fk ρ).bind fun w ρ1 => (fv ρ1).bind fun u ρ2 => match w, u with
  | .d x, .d v => if nkOk x = true then .ok (.m [(x, v)]) ρ2 else .bad
  | _, _ => .bad
section
variable {X : Cx} {g : G}
theorem fn_d {e : Expr} {f : Rho → R W} (h : FE X g e f) : FN X g e (toS f) := PE.imp h fun σ H Q ⟨F, ρ, r, h⟩ => by
  refine ⟨F, ρ, r, ?_⟩
  unfold toS at h
  cases e1 : f ρ with
  | bad => rw [e1] at h; exact h
  | exc c ρ' => rw [e1] at h; exact h
  | ok w ρ1 =>
    rw [e1] at h
    simp only [R.bind_ok] at h
    cases w with
    | d x => exact fun v H' F' r' s' q => h v H' F' r' s' q fun a z => z.elim
    | own i => exact h.elim
theorem fn_lst {es : List Expr} {pos : Pos} {fs : Rho → R (List W)} (hs : FA X g es fs) : FN X g (.List es pos) (nLst fs) := by
  refine PE.imp (pe_lst hs) ?_
  rintro σ H Q ⟨F, ρ, r, h⟩
  refine ⟨F, ρ, r, ?_⟩
  unfold nLst at h
  cases e1 : fs ρ with
  | bad => rw [e1] at h; exact h
  | exc c ρ' => rw [e1] at h; exact h
  | ok ws ρ1 =>
    rw [e1] at h
    simp only [R.bind_ok] at h
    intro vs H1 F1 r1 s1 w1
    cases e2 : datas ws with
    | none => rw [e2] at h; exact h.elim
    | some ds =>
      rw [e2] at h
      simp only at h
      have a := datas_all w1 e2
      by_cases hl : ds.length ≤ 1000000
      · rw [if_pos hl] at h
        refine ⟨by rw [a.len]; exact lim_ok hl, fun p hp => ?_⟩
        have xt : Ext F1 H1 F1 (upd H1 p (.lst vs)) := .raw r1.sub hp
        obtain ⟨h0, hn⟩ := r1.fresh0 hp
        refine h _ _ F1 (r1.ext xt) (s1.trans (r1.frm xt)) ⟨⟨p, vs, rfl, upd_same, r1.sub.none hp, a⟩, fun b hb => ?_⟩ ?_
        have hb' : V.ref p = V.ref b := hb
        cases hb'
        exact ⟨h0, fun q => hn (r1.owned_upd q)⟩
        intro b hb
        have hb' : V.ref p = V.ref b := hb
        cases hb'
        exact s1.none_back hp
      · rw [if_neg hl] at h
        exact h.elim
def tDNewX (z : Z) : TE := fun _ H Q => ∀ p, H p = none → (p == sysModules) = false → Q (.ref p) (upd H p (DctO z p []))
theorem pe_dnewX {z : Z} (hp : z.prog = X.prog) (hw : z.wd = X.w) {pos : Pos} : PE X (.Dict [] [] pos) (tDNewX z) := ⟨fun pins s σ H Q I h => by
  refine wpAny_Dict_empty ?_
  refine ⟨.ref s.heap.objs.size, _, I.laid (a := s.heap.objs.size) (o := .ext (DctP X.prog X.w s.heap.objs.size [])) (t' := s.toks) (fun _ _ q => Heap.get?_push_of_some _ q) (Nat.le_refl _) (dct_new (Heap.DictOfH.new s.heap)), rfl, ?_⟩
  rw [← dct_z hp hw]
  exact h _ (I.hok.fresh (Nat.le_refl _)) (beq_eq_false_iff_ne.mpr (Ne.symm (Nat.ne_of_lt I.big)))⟩
theorem fn_dct0 (hp : g.prog = X.prog) (hw : g.wd = X.w) {pos : Pos} : FN X g (.Dict [] [] pos) nDct0 := by
  refine PE.imp (pe_dnewX (z := g.toZ) hp hw) ?_
  rintro σ H Q ⟨F, ρ, r, h⟩
  intro p hp' hsys
  have xt : Ext F H F (upd H p (DctO g.toZ p [])) := .raw r.sub hp'
  obtain ⟨h0, hn⟩ := r.fresh0 hp'
  refine h _ _ F (r.ext xt) (r.frm xt) ⟨⟨p, [], rfl, upd_same, r.sub.none hp', hsys, .nil⟩, fun b hb => ?_⟩ fun b hb => ?_
  · have hb' : V.ref p = V.ref b := hb
    cases hb'
    exact ⟨h0, fun q => hn (r.owned_upd q)⟩
  · have hb' : V.ref p = V.ref b := hb
    cases hb'
    exact hp'
/-- {k: v} -/
def tDisp1 (z : Z) (tk tv : TE) : TE := fun σ H Q => ∀ p, H p = none → (p == sysModules) = false → tk σ (upd H p (DctO z p [])) fun x H1 => tv σ H1 fun y H2 =>
  ∃ F d k b, Sub F H2 ∧ H2 p = some (DctO z p []) ∧ x = .ref b ∧ Dv F (.ref b) d ∧ nkey d = some k ∧ k.depth ≤ 8 ∧ ∀ u, RelV y u → Q (.ref p) (upd H2 p (DctO z p [(k, b, u)]))
theorem pe_disp1 {z : Z} (hp : z.prog = X.prog) (hw : z.wd = X.w) (hu : X.A.units + 64 < cLine) {pos : Pos} {k v : Expr} {tk tv : TE} (hk : PE X k tk) (hv : PE X v tv) : PE X (.Dict [some k] [v] pos) (tDisp1 z tk tv) := by
  refine ⟨fun pins s σ H Q I q => ?_⟩
  have hn := I.hok.fresh (Nat.le_refl s.heap.objs.size)
  have I1 := I.laid (a := s.heap.objs.size) (o := .ext (DctP X.prog X.w s.heap.objs.size [])) (h' := s.heap.push { cls := .type "dict", data := .dict #[] }) (t' := s.toks) (fun _ _ q => Heap.get?_push_of_some _ q) (Nat.le_refl _) (dct_new (Heap.DictOfH.new s.heap))
  have hl1 : (pairTrees [some k] [v] X.env pos).length = 1 := pairTrees_length [some k] [v] X.env pos rfl rfl
  have h0 : pairTrees [some k] [v] X.env pos ≠ [] := fun he => by rw [he] at hl1; cases hl1
  have q' := q _ hn (beq_eq_false_iff_ne.mpr (Ne.symm (Nat.ne_of_lt I.big)))
  rw [dct_z hp hw] at q'
  rw [arm_eval_Dict, zip_pairTrees [some k] [v] X.env pos rfl rfl, dictDisplay_pairs (pairTrees [some k] [v] X.env pos) h0 (by rw [hl1]; decide)]
  refine wpAny_bind (wpAny_standAt (wpAny_bind (wpAny_subDictH (knd := nestedKind X.prog X.w) (Q := fun d s' => wpAny (model X.prog X.w) X.A (pure (Value.ref d)) (EP X pins σ Q) X.xe s') (by show X.A.units + 8 < cLine; omega) (by rw [hl1]; decide) ?_)))
  refine pairTrees_cons_walk (thn (hk.run pins _ σ _ _ I1 q') fun u s1 ⟨x, H1, J1, rx, q1⟩ => thn (hv.run pins s1 σ H1 _ J1 q1) fun w2 s2 ⟨y, H2, J2, ry, q2⟩ => pairTrees_nil_walk ?_)
  obtain ⟨F, d, kk, b, sub, hH, rfl, dv, hkk, h8, q3⟩ := q2
  cases rx
  have hd := dct_at J2 sub hp hw hH (.nil (F := F))
  have his : (nestedKind X.prog X.w).is s2.heap kk b := ⟨nested_of J2 sub _ _ _ _ dv rfl hkk, h8⟩
  refine ⟨[(kk, b, w2)], ⟨rfl, rfl, his, trivial⟩, hd, fun h' tk' hd' hs' => wpAny_pure ⟨.ref s.heap.objs.size, upd H2 s.heap.objs.size (.ext (DctP X.prog X.w s.heap.objs.size [(kk, b, w2)])), ?_, rfl, ?_⟩⟩
  · exact d_write J2 (by rw [hH]; exact True.intro) hs' (let ⟨o, _, _, h, _⟩ := hd'; ⟨o, h⟩) (dct_new hd')
  · rw [← dct_z hp hw]
    exact q3 w2 ry
theorem fn_dct1 (hp : g.prog = X.prog) (hw : g.wd = X.w) (hu : X.A.units + 64 < cLine) {pos : Pos} {k v : Expr} {fk fv : Rho → R W} (hk : FE X g k fk) (hv : FE X g v fv) : FN X g (.Dict [some k] [v] pos) (nDct1 fk fv) := by
  refine PE.imp (pe_disp1 (z := g.toZ) hp hw hu hk hv) ?_
  rintro σ H Q ⟨F, ρ, r, h⟩
  intro p hp' hsys
  have xt : Ext F H F (upd H p (DctO g.toZ p [])) := .raw r.sub hp'
  obtain ⟨h0, hn⟩ := r.fresh0 hp'
  have hn' : ¬ Owned ρ σ (upd H p (DctO g.toZ p [])) p := fun q => hn (r.owned_upd q)
  refine ⟨F, ρ, r.ext xt, ?_⟩
  unfold nDct1 at h
  cases e1 : fk ρ with
  | bad => rw [e1] at h; exact h
  | exc c ρ' => rw [e1] at h; exact h
  | ok w ρ1 =>
    rw [e1] at h
    simp only [R.bind_ok] at h
    intro x H1 F1 r1 s1 w1
    refine ⟨F1, ρ1, r1, ?_⟩
    cases e2 : fv ρ1 with
    | bad => rw [e2] at h; exact h
    | exc c ρ' => rw [e2] at h; exact h
    | ok u ρ2 =>
      rw [e2] at h
      simp only [R.bind_ok] at h
      intro y H2 F2 r2 s2 w2
      cases w with
      | own _ => exact h.elim
      | d x0 =>
        cases u with
        | own _ => exact h.elim
        | d v0 =>
          simp only at h
          by_cases hk0 : nkOk x0 = true
          · rw [if_pos hk0] at h
            obtain ⟨kk, hkk, h8⟩ := nkOk_some hk0
            have w1' : Dv F2 x x0 := dv_mono s2.f w1
            obtain ⟨b, rfl⟩ := nkOk_ref hk0 w1'
            have f12 := s1.trans s2
            have hH2 : H2 p = some (DctO g.toZ p []) := f12.keep p _ upd_same hn'
            have hF2 : F2 p = none := f12.cold p _ upd_same (r.sub.none hp')
            have hO2 : ¬ Owned ρ2 σ H2 p := fun q => hn' (f12.old p _ q upd_same)
            refine ⟨F2, x0, kk, b, r2.sub, hH2, rfl, w1', hkk, h8, fun u0 ru => ?_⟩
            refine h _ _ F2 (r2.otherG hF2 hO2 h0) ?_ ⟨⟨p, _, rfl, upd_same, hF2, hsys, .cons hkk h8 w1' ru w2 .nil⟩, fun b' hb => ?_⟩ fun b' hb => ?_
            · have f0 : Frm σ F H ρ F2 H2 ρ2 := (r.frm xt).trans f12
              exact ⟨f0.f, fun b' o hb' no => by
                rw [upd_ne (fun z => by subst z; rw [hp'] at hb'; cases hb')]
                exact f0.keep b' o hb' no, fun b' o ob hb' => f0.old b' o (r2.owned_upd ob) hb', f0.cold, fun b' o hb' => by
                rw [upd_ne (fun z => by subst z; rw [hp'] at hb'; cases hb')]
                exact f0.there b' o hb'⟩
            · have hb' : V.ref p = V.ref b' := hb
              cases hb'
              exact ⟨h0, fun q => hO2 (r2.owned_upd q)⟩
            · have hb' : V.ref p = V.ref b' := hb
              cases hb'
              exact hp'
          · rw [if_neg hk0] at h
            exact h.elim
end
end FL

namespace FL
open PySem L2 PyProof.Rows

section
variable {g : G} {F H F' H' : Hp} {ρ ρ' : Rho} {σ : L2.St} {v : V} {s : S}
theorem RRel.both (q : RRel g F H ρ σ v s) : SRel g.toZ F H v s ∧ ∀ a, ownA H v s a → g.H0 a = none ∧ ¬ Owned ρ σ H a := by
  cases s with
  | d x => exact ⟨q, fun a h => h.elim⟩
  | l _ => exact q
  | m _ => exact q
  | t _ _ _ => exact q
  | e _ => exact q
  | z _ => exact q
theorem RRel.of (h : SRel g.toZ F H v s) (k : ∀ a, ownA H v s a → g.H0 a = none ∧ ¬ Owned ρ σ H a) : RRel g F H ρ σ v s := by
  cases s with
  | d x => exact h
  | l _ => exact ⟨h, k⟩
  | m _ => exact ⟨h, k⟩
  | t _ _ _ => exact ⟨h, k⟩
  | e _ => exact ⟨h, k⟩
  | z _ => exact ⟨h, k⟩
theorem RRel.frm (q : RRel g F H ρ σ v s) (f : Frm σ F H ρ F' H' ρ') : RRel g F' H' ρ' σ v s := by
  obtain ⟨h1, h2⟩ := q.both
  have k : ∀ b o, ownA H v s b → H b = some o → H' b = some o := fun b o ob hb => f.keep b o hb (h2 b ob).2
  refine .of (h1.keep f.f k f.cold) fun a oa => ?_
  have oa' := (ownA_keep h1 k).mp oa
  obtain ⟨_, o, ho⟩ := h1.owned oa'
  exact ⟨(h2 a oa').1, fun z => (h2 a oa').2 (f.old a o z ho)⟩
/-- a new thing goes to a slot -/
theorem Rel.setNew (r : Rel g F ρ σ H) {i : Nat} (hp : ∀ p ∈ g.P, p.1 ≠ i) (q : RRel g F H ρ σ v s) : Rel g F (ρ.set i (some s)) (σ.set i (some v)) H := by
  obtain ⟨q1, q2⟩ := q.both
  refine ⟨r.sub, by simpa using r.len, fun j t e => ?_, fun j k t t' w u b ne e1 e2 e3 e4 h1 h2 => ?_, fun p hp' => ?_, fun j t w b e1 e2 h => ?_, r.e1, r.e2, r.e3, r.e4⟩
  · rcases get_set e with ⟨rfl, e', hl⟩ | ⟨ne, e'⟩
    · cases e'
      exact ⟨v, List.getElem?_set_self (by rw [← r.len]; exact hl), q1⟩
    · obtain ⟨u, h1, h2⟩ := r.slot j t e'
      exact ⟨u, by rw [List.getElem?_set_ne (Ne.symm ne)]; exact h1, h2⟩
  · rcases get_set e1 with ⟨rfl, e', hl⟩ | ⟨n1, e1'⟩
    · cases e'
      rw [List.getElem?_set_self (by rw [← r.len]; exact hl)] at e3
      cases e3
      rcases get_set e2 with ⟨z, _⟩ | ⟨n2, e2'⟩
      · exact ne z.symm
      · rw [List.getElem?_set_ne (Ne.symm n2)] at e4
        exact (q2 b h1).2 ⟨k, t', u, e2', e4, h2⟩
    · rw [List.getElem?_set_ne (Ne.symm n1)] at e3
      rcases get_set e2 with ⟨rfl, e', hl⟩ | ⟨n2, e2'⟩
      · cases e'
        rw [List.getElem?_set_self (by rw [← r.len]; exact hl)] at e4
        cases e4
        exact (q2 b h2).2 ⟨j, t, w, e1', e3, h1⟩
      · rw [List.getElem?_set_ne (Ne.symm n2)] at e4
        exact r.sep j k t t' w u b ne e1' e2' e3 e4 h1 h2
  · obtain ⟨t, h1, h2, h3⟩ := r.pin p hp'
    exact ⟨t, by rw [List.getElem?_set_ne (Ne.symm (hp p hp'))]; exact h1, h2, by rw [List.getElem?_set_ne (Ne.symm (hp p hp'))]; exact h3⟩
  · rcases get_set e1 with ⟨rfl, e', hl⟩ | ⟨n1, e1'⟩
    · cases e'
      rw [List.getElem?_set_self (by rw [← r.len]; exact hl)] at e2
      cases e2
      exact .inl (q2 b h).1
    · rw [List.getElem?_set_ne (Ne.symm n1)] at e2
      exact r.new j t w b e1' e2 h
/-- it is not owned by other slots behind a setting -/
theorem RRel.set (q : RRel g F H ρ σ v s) {i : Nat} {w : V} {t : S} (n : ∀ a, ownA H v s a → ¬ ownA H w t a) : RRel g F H (ρ.set i (some t)) (σ.set i (some w)) v s := by
  obtain ⟨h1, h2⟩ := q.both
  refine .of h1 fun a oa => ⟨(h2 a oa).1, fun ⟨j, u, x, e1, e2, h⟩ => ?_⟩
  rcases get_set e1 with ⟨rfl, e', hl⟩ | ⟨n1, e1'⟩
  · cases e'
    by_cases hs : j < σ.length
    · rw [List.getElem?_set_self hs] at e2
      cases e2
      exact n a oa h
    · rw [List.getElem?_eq_none (by simpa using hs)] at e2
      cases e2
  · rw [List.getElem?_set_ne (Ne.symm n1)] at e2
    exact (h2 a oa).2 ⟨j, u, x, e1', e2, h⟩
end
/-- x = e, a new thing -/
def fAsgN (P : List Nat) (i : Nat) (f : Rho → R S) : Rho → R Fl := fun ρ => if P.contains i = true then .bad else (f ρ).bind fun s ρ1 => .ok .nx (ρ1.set i (some s))
def fParN (P : List Nat) (i j : Nat) (f1 f2 : Rho → R S) : Rho → R Fl := fun ρ => if P.contains i = true ∨ P.contains j = true then .bad else (f1 ρ).bind fun s ρ1 => (f2 ρ1).bind fun t ρ2 => .ok .nx ((ρ2.set i (some s)).set j (some t))
section
variable {X : Cx} {g : G}
theorem fs_asgN {i : Nat} {x : Str} {e : Expr} {pos pos' : Pos} {f : Rho → R S} (hN : X.N.Nodup) (hi : X.N[i]? = some x) (hx : Loc X.env.scope x) (he : FN X g e f) (hs : swapsWith e (some (.Name x pos')) pos.line X.env = pure false)
    (hf : X.fn x = true ∨ X.env.scope.names.lookup x = some .local) : FS X g (.Assign [.Name x pos'] e pos) (fAsgN g.pins i f) := by
  refine PS.imp (ps_set hN hi hx he hs hf) fun D σ H h => ?_
  obtain ⟨F, ρ, r, h⟩ := tsOf_iff.mp h
  refine ⟨F, ρ, r, ?_⟩
  unfold fAsgN at h
  by_cases hp : g.pins.contains i = true
  · rw [if_pos hp] at h; exact h.elim
  · rw [if_neg hp] at h
    cases e1 : f ρ with
    | bad => rw [e1] at h; exact h
    | exc c ρ' => rw [e1] at h; exact fun H' F' r' => h _ H' F' r'
    | ok s ρ1 =>
      rw [e1] at h
      exact fun v H1 F1 r1 s1 q _ => h _ H1 F1 (r1.setNew (not_pin hp) q) s1.f
theorem fs_parN {i j : Nat} {x y : Str} {a b : Expr} {px py pt pos : Pos} {kt k2 : Nat} {pt2 : Pos} {f1 f2 : Rho → R S} (hc : X.calm = true) (hN : X.N.Nodup) (hi : X.N[i]? = some x) (hj : X.N[j]? = some y) (hij : i ≠ j)
    (hx : X.env.scope.names.lookup x = some .local) (hy : X.env.scope.names.lookup y = some .local) (ha : FN X g a f1) (hb : FN X g b f2) (hs : starEach [a, b] X.env = (false, eval a X.env) :: starEach [b] X.env) (hs2 : starEach [b] X.env = (false, eval b X.env) :: starEach [] X.env)
    (hw : swappedStores [.Tuple [.Name x px, .Name y py] kt pt] (.Tuple [a, b] k2 pt2) X.env = pure (some [x, y])) :
    FS X g (.Assign [.Tuple [.Name x px, .Name y py] kt pt] (.Tuple [a, b] k2 pt2) pos) (fParN g.pins i j f1 f2) := by
  refine PS.imp (ps_par hc hN hi hj hij hx hy (pa_cons ha (pa_cons hb pa_nil hs2) hs) hw rfl) fun D σ H h => ?_
  obtain ⟨F, ρ, r, h⟩ := tsOf_iff.mp h
  refine ⟨F, ρ, r, ?_⟩
  unfold fParN at h
  by_cases hp : g.pins.contains i = true ∨ g.pins.contains j = true
  · rw [if_pos hp] at h; exact h.elim
  · rw [if_neg hp] at h
    rw [not_or] at hp
    cases e1 : f1 ρ with
    | bad => rw [e1] at h; exact h
    | exc c ρ' => rw [e1] at h; exact fun H' F' r' => h _ H' F' r'
    | ok s ρ1 =>
      rw [e1] at h
      simp only [R.bind_ok] at h
      intro v H1 F1 r1 s1 q _
      refine ⟨F1, ρ1, r1, ?_⟩
      cases e2 : f2 ρ1 with
      | bad => rw [e2] at h; exact h
      | exc c ρ' => rw [e2] at h; exact fun H' F' r' => h _ H' F' r'
      | ok t ρ2 =>
        rw [e2] at h
        simp only [R.bind_ok] at h
        intro w H2 F2 r2 s2 q' nw
        have q2 := q.frm s2
        refine ⟨v, w, rfl, h _ H2 F2 ((r2.setNew (not_pin hp.1) q2).setNew (not_pin hp.2) (q'.set fun a o1 o2 => ?_)) (s1.f.trans s2.f)⟩
        obtain ⟨b1, b2⟩ := q.both
        have o3 := (ownA_keep b1 fun b o ob hb => s2.keep b o hb (b2 b ob).2).mp o2
        obtain ⟨_, o, ho⟩ := b1.owned o3
        rw [nw a o1] at ho
        cases ho
/-! ### k in d, k not in d -/
def getM (ρ : Rho) (i : Nat) : Option (List (D × D)) := match ρ[i]? with
  | some (some (.m kvs)) => some kvs
  | _ => none
theorem getM_some {ρ : Rho} {i : Nat} {kvs : List (D × D)} (h : getM ρ i = some kvs) : ρ[i]? = some (some (.m kvs)) := by
  unfold getM at h
  split at h
  · rename_i e
    cases h
    exact e
  · cases h
def rDin (z : Z) (neg : Bool) : R2 := fun x y H Q => ∃ F a b xs kvs k d, Sub F H ∧ x = .ref b ∧ y = .ref a ∧ H a = some (DctO z a xs) ∧ (a == sysModules) = false ∧ MAll F kvs xs ∧ Dv F (.ref b) d ∧ nkey d = some k ∧ k.depth ≤ 8 ∧ Q (.bl (if neg = true then !dhas kvs d else dhas kvs d)) H
theorem MAll.has {F : Hp} {x : D} {k : NestedKey} {kvs : List (D × D)} {xs : List (NestedKey × Addr × Value)} (m : MAll F kvs xs) (hk : nkey x = some k) : (atKey xs k).isSome = dhas kvs x := by
  rcases m.at hk with ⟨_, h2, h3⟩ | ⟨_, p, _, _, h2, _, _, h5⟩
  · rw [h2, h3]; rfl
  · rw [h2, h5]; rfl
theorem opd_din (hp : g.prog = X.prog) (hw : g.wd = X.w) (hu : X.A.units + 64 < cLine) : OpR X (compareOp .In) (rDin g.toZ false) := by
  intro pins s σ H x y v u Q I rx ry h
  obtain ⟨F, a, b, xs, kvs, k, d, sub, rfl, rfl, hH, hs, m, dv, hk, h8, q⟩ := h
  cases rx
  cases ry
  have hd := dct_at I sub hp hw hH m
  refine wpAny_in_heap (knd := nestedKind X.prog X.w) (by show X.A.units + 1 + 8 < cLine; omega) ⟨nested_of I sub _ _ _ _ dv rfl hk, h8⟩ hs hd ?_
  rw [m.has hk]
  exact ⟨.bl _, H, I.tok _, rfl, q⟩
theorem opd_dnotin (hp : g.prog = X.prog) (hw : g.wd = X.w) (hu : X.A.units + 64 < cLine) : OpR X (compareOp .NotIn) (rDin g.toZ true) := by
  intro pins s σ H x y v u Q I rx ry h
  obtain ⟨F, a, b, xs, kvs, k, d, sub, rfl, rfl, hH, hs, m, dv, hk, h8, q⟩ := h
  cases rx
  cases ry
  have hd := dct_at I sub hp hw hH m
  refine notIn_keyed (knd := nestedKind X.prog X.w) (kvs := pairsH xs) (by show X.A.units + 1 + 8 < cLine; omega) ⟨nested_of I sub _ _ _ _ dv rfl hk, h8⟩ hs ⟨xs, hd, rfl⟩ ?_
  rw [valueAt_pairsH, Option.isSome_map, m.has hk]
  exact ⟨.bl _, H, I.tok _, rfl, q⟩
def fDin (neg : Bool) (i : Nat) (f : Rho → R W) : Rho → R W := fun ρ => (f ρ).bind fun w ρ1 => match w, getM ρ1 i with
  | .d x, some kvs => if nkOk x = true then .ok (.d (.bool (if neg = true then !dhas kvs x else dhas kvs x))) ρ1 else .bad
  | _, _ => .bad
theorem din_imp {neg : Bool} {i : Nat} {f : Rho → R W} (σ : L2.St) (H : Hp) (Q : VK) (h : tOf g (fDin neg i f) σ H Q) : tOp (rDin g.toZ neg) (tOf g f) (tVar i) σ H Q := by
  obtain ⟨F, ρ, r, h⟩ := h
  refine ⟨F, ρ, r, ?_⟩
  unfold fDin at h
  cases e1 : f ρ with
  | bad => rw [e1] at h; exact h
  | exc c ρ' => rw [e1] at h; exact h
  | ok w ρ1 =>
    rw [e1] at h
    simp only [R.bind_ok] at h
    intro v H1 F1 r1 s1 w1
    cases w with
    | own _ => exact h.elim
    | d x =>
      cases e2 : getM ρ1 i with
      | none => rw [e2] at h; exact h.elim
      | some kvs =>
        rw [e2] at h
        simp only at h
        by_cases hk : nkOk x = true
        · rw [if_pos hk] at h
          obtain ⟨k, hk1, hk2⟩ := nkOk_some hk
          obtain ⟨b, rfl⟩ := nkOk_ref hk w1
          obtain ⟨u, q1, a, xs, rfl, q2, q3, q4, q5⟩ := r1.slot i _ (getM_some e2)
          exact ⟨_, q1, F1, a, b, xs, kvs, k, x, r1.sub, rfl, rfl, q2, q4, q5, w1, hk1, hk2, h _ H1 F1 r1 s1 (.bl _)⟩
        · rw [if_neg hk] at h
          exact h.elim
theorem fe_din {i : Nat} {x : Str} {e : Expr} {p pos : Pos} {f : Rho → R W} (hp : g.prog = X.prog) (hw : g.wd = X.w) (hu : X.A.units + 64 < cLine) (hN : X.N[i]? = some x) (hv : Vis X.env.scope x) (hd : (x == ("__debug__" : Str)) = false) (hcd : (x == ("__classdict__" : Str)) = false) (he : FE X g e f) :
    FE X g (.Compare e [.In] [.Name x p] pos) (fDin false i f) := PE.imp (pe_cmpR (opd_din hp hw hu) he (pe_var hN hv hd hcd) rfl) din_imp
theorem ft_din {i : Nat} {x : Str} {e : Expr} {p pos : Pos} {f : Rho → R W} (hp : g.prog = X.prog) (hw : g.wd = X.w) (hu : X.A.units + 64 < cLine) (hN : X.N[i]? = some x) (hv : Vis X.env.scope x) (hd : (x == ("__debug__" : Str)) = false) (hcd : (x == ("__classdict__" : Str)) = false) (he : FE X g e f) :
    FT X g (.Compare e [.In] [.Name x p] pos) (asB (fDin false i f)) := PT.imp (pt_cmpR (opd_din hp hw hu) he (pe_var hN hv hd hcd) rfl) (ttest_imp din_imp)
theorem fe_dnotin {i : Nat} {x : Str} {e : Expr} {p pos : Pos} {f : Rho → R W} (hp : g.prog = X.prog) (hw : g.wd = X.w) (hu : X.A.units + 64 < cLine) (hN : X.N[i]? = some x) (hv : Vis X.env.scope x) (hd : (x == ("__debug__" : Str)) = false) (hcd : (x == ("__classdict__" : Str)) = false) (he : FE X g e f) :
    FE X g (.Compare e [.NotIn] [.Name x p] pos) (fDin true i f) := PE.imp (pe_cmpR (opd_dnotin hp hw hu) he (pe_var hN hv hd hcd) rfl) din_imp
theorem ft_dnotin {i : Nat} {x : Str} {e : Expr} {p pos : Pos} {f : Rho → R W} (hp : g.prog = X.prog) (hw : g.wd = X.w) (hu : X.A.units + 64 < cLine) (hN : X.N[i]? = some x) (hv : Vis X.env.scope x) (hd : (x == ("__debug__" : Str)) = false) (hcd : (x == ("__classdict__" : Str)) = false) (he : FE X g e f) :
    FT X g (.Compare e [.NotIn] [.Name x p] pos) (asB (fDin true i f)) := PT.imp (pt_cmpR (opd_dnotin hp hw hu) he (pe_var hN hv hd hcd) rfl) (ttest_imp din_imp)
/-! ### d[k] = v -/
theorem Rel.frmMutG {F H : Hp} {ρ : Rho} {σ : L2.St} (r : Rel g F ρ σ H) {i : Nat} {s s' : S} {o : HO} {a : Addr} (e : ρ[i]? = some (some s)) (so : s.solo = true) (so' : s'.solo = true) (hs : σ[i]? = some (some (.ref a))) (d : SRel g.toZ F (upd H a o) (.ref a) s') :
    Frm σ F H ρ F (upd H a o) (ρ.set i (some s')) := by
  obtain ⟨v, h1, h2⟩ := r.slot i _ e
  rw [hs] at h1
  cases h1
  obtain ⟨a', ea, h3, ow⟩ := solo_addr so h2
  cases ea
  obtain ⟨a2, e2, _, ow'⟩ := solo_addr so' d
  cases e2
  exact ⟨.refl _, fun b o' h n => by
    rw [upd_ne (fun z => by subst z; exact n ⟨i, _, _, e, hs, (ow b).mpr rfl⟩)]
    exact h, fun b o' ⟨j, t, v, q1, q2, q3⟩ _ => by
    rcases get_set q1 with ⟨rfl, e', _⟩ | ⟨_, e'⟩
    · cases e'
      rw [hs] at q2
      cases q2
      exact ⟨j, _, _, e, hs, (ow b).mpr ((ow' b).mp q3)⟩
    · exact r.owned_upd ⟨j, t, v, e', q2, q3⟩, fun _ _ _ h => h, fun b o' h => by
    by_cases hb : b = a
    · subst hb
      exact ⟨_, upd_same⟩
    · exact ⟨o', by rw [upd_ne hb]; exact h⟩⟩
def tDPutX (z : Z) (tv : TE) (i : Nat) (tk : TE) : TS := fun D σ H => tv σ H fun y H1 => ∃ d, σ[i]? = some (some d) ∧ tk σ H1 fun x H2 => ∃ F a b xs kvs k kd, Sub F H2 ∧ d = .ref a ∧ x = .ref b ∧ H2 a = some (DctO z a xs) ∧ MAll F kvs xs ∧ xs.length ≤ 1000000 ∧ Dv F (.ref b) kd ∧ nkey kd = some k ∧ k.depth ≤ 8 ∧
  ∀ u, RelV y u → D.nx σ (upd H2 a (DctO z a (storedH xs k b u)))
theorem ps_dputX {z : Z} (hp : z.prog = X.prog) (hw : z.wd = X.w) (hu : X.A.units + 64 < cLine) {i : Nat} {x : Str} {k value : Expr} {p pos pos' : Pos} {tk tv : TE} (hN : X.N[i]? = some x) (hv : Vis X.env.scope x) (hd : (x == ("__debug__" : Str)) = false) (hcd : (x == ("__classdict__" : Str)) = false) (hk : PE X k tk) (hval : PE X value tv)
    (hs : swapsWith value (some (.Subscript (.Name x p) k pos')) pos.line X.env = pure false) : PS X (.Assign [.Subscript (.Name x p) k pos'] value pos) (tDPutX z tv i tk) := by
  refine ⟨fun pins s σ H D I h => ?_⟩
  refine wpAny_Assign_Subscript (thn (hval.run pins s σ H _ I h) fun r s1 ⟨v, H1, I1, rv, q1⟩ => ?_) hs
  obtain ⟨d, hd1, q1⟩ := q1
  refine thn ((pe_var (pos := p) hN hv hd hcd).run pins s1 σ H1 (fun y H1' => y = d ∧ H1' = H1) I1 ⟨d, hd1, rfl, rfl⟩) fun u s2 ⟨y, H2, I2, ry, e1, e2⟩ => ?_
  subst e1 e2
  refine thn (hk.run pins s2 σ _ _ I2 q1) fun iv s3 ⟨y', H3, I3, ry', F, a, b, xs, kvs, kk, kd, sub, ed, ex, hH, m, hl, dv, hkk, h8, q⟩ => ?_
  subst ed ex
  cases ry
  cases ry'
  have hdd := dct_at I3 sub hp hw hH m
  refine wpAny_setItem_heap (knd := nestedKind X.prog X.w) (hsz := lim_ok hl) (by show X.A.units + 1 + 8 < cLine; omega) ⟨nested_of I3 sub _ _ _ _ dv rfl hkk, h8⟩ hdd fun h' hd' hs' => ?_
  refine ⟨σ, upd H3 a (.ext (DctP X.prog X.w a (storedH xs kk b r))), ?_, ?_⟩
  · exact d_write I3 (by rw [hH]; exact True.intro) hs' (let ⟨o, _, _, h, _⟩ := hd'; ⟨o, h⟩) (dct_new hd')
  · rw [← dct_z hp hw]
    exact q r rv
def fDset (i : Nat) (fv fk : Rho → R W) : Rho → R Fl := fun ρ => (fv ρ).bind fun w ρ1 => match getM ρ1 i with
  | none => .bad
  | some _ => (fk ρ1).bind fun u ρ2 => (match w, u, getM ρ2 i with
    | .d v, .d x, some kvs => if nkOk x = true ∧ kvs.length ≤ 1000000 then .ok .nx (ρ2.set i (some (.m (dput kvs x v)))) else .bad
    | _, _, _ => .bad)
theorem fs_dset {i : Nat} {x : Str} {k value : Expr} {p pos pos' : Pos} {fk fv : Rho → R W} (hp : g.prog = X.prog) (hw : g.wd = X.w) (hu : X.A.units + 64 < cLine) (hN : X.N[i]? = some x) (hv : Vis X.env.scope x) (hd : (x == ("__debug__" : Str)) = false) (hcd : (x == ("__classdict__" : Str)) = false) (hk : FE X g k fk) (hval : FE X g value fv)
    (hs : swapsWith value (some (.Subscript (.Name x p) k pos')) pos.line X.env = pure false) : FS X g (.Assign [.Subscript (.Name x p) k pos'] value pos) (fDset i fv fk) := by
  refine PS.imp (ps_dputX (z := g.toZ) hp hw hu hN hv hd hcd hk hval hs) fun D σ H h => ?_
  obtain ⟨F, ρ, r, h⟩ := tsOf_iff.mp h
  refine ⟨F, ρ, r, ?_⟩
  unfold fDset at h
  cases e1 : fv ρ with
  | bad => rw [e1] at h; exact h
  | exc c ρ' => rw [e1] at h; exact fun H' F' r' => h _ H' F' r'
  | ok w ρ1 =>
    rw [e1] at h
    simp only [R.bind_ok] at h
    intro y H1 F1 r1 s1 w1
    cases e0 : getM ρ1 i with
    | none => rw [e0] at h; exact h.elim
    | some kvs0 =>
      rw [e0] at h
      simp only at h
      obtain ⟨d, q1, a, xs0, rfl, _⟩ := r1.slot i _ (getM_some e0)
      refine ⟨_, q1, F1, ρ1, r1, ?_⟩
      cases e2 : fk ρ1 with
      | bad => rw [e2] at h; exact h
      | exc c ρ' => rw [e2] at h; exact fun H' F' r' => h _ H' F' r'
      | ok u ρ2 =>
        rw [e2] at h
        simp only [R.bind_ok] at h
        intro x' H2 F2 r2 s2 w2
        cases w with
        | own _ => exact h.elim
        | d v0 =>
          cases u with
          | own _ => exact h.elim
          | d x0 =>
            cases e3 : getM ρ2 i with
            | none => rw [e3] at h; exact h.elim
            | some kvs =>
              rw [e3] at h
              simp only at h
              by_cases hc : nkOk x0 = true ∧ kvs.length ≤ 1000000
              · rw [if_pos hc] at h
                obtain ⟨kk, hk1, hk2⟩ := nkOk_some hc.1
                obtain ⟨b, rfl⟩ := nkOk_ref hc.1 w2
                obtain ⟨d', k1, a', xs, ed, k2, k3, k4, k5⟩ := r2.slot i _ (getM_some e3)
                subst ed
                rw [q1] at k1
                cases k1
                refine ⟨F2, a, b, xs, kvs, kk, x0, r2.sub, rfl, rfl, k2, k5, by rw [k5.len]; exact hc.2, w2, hk1, hk2, fun u0 ru => ?_⟩
                exact h σ _ F2 (r2.mutG (getM_some e3) rfl rfl q1 ⟨a, _, rfl, upd_same, k3, k4, k5.put hk1 hk2 w2 ru (dv_mono s2.f w1)⟩) (s1.f.trans s2.f)
              · rw [if_neg hc] at h
                exact h.elim
/-! ### list(d) -/
def fDlist (i : Nat) : Rho → R W := fun ρ => match getM ρ i with
  | some kvs => if kvs.length ≤ 1000000 then .ok (.d (.list (kvs.map (·.1)))) ρ else .bad
  | none => .bad
def rDlist (z : Z) : List V → Hp → VK → Prop := fun vs H Q => ∃ F a xs kvs, Sub F H ∧ vs = [.ref a] ∧ H a = some (DctO z a xs) ∧ (a == sysModules) = false ∧ MAll F kvs xs ∧ kvs.length ≤ 1000000 ∧ ∀ p, H p = none → Q (.ref p) (upd H p (.lst (xs.map fun x => V.ref x.2.1)))
theorem vals_keys : ∀ xs : List (NestedKey × Addr × Value), Vals (xs.map fun x => V.ref x.2.1) (xs.map fun x => Value.ref x.2.1)
  | [] => .nil
  | x :: xs => .cons rfl (vals_keys xs)
theorem cr_dlist (hp : g.prog = X.prog) (hw : g.wd = X.w) (hc : X.calm = true) : CallR X (.type "list") (rDlist g.toZ) := by
  intro pins s σ H vs us Q I r h
  obtain ⟨F, a, xs, kvs, sub, rfl, hH, hs, m, hl, q⟩ := h
  rw [Vals.ref1 r]
  obtain ⟨o, es, ep, h1, h2, h3, h4, h5, h6⟩ := dct_at I sub hp hw hH m
  have hsz : es.size = xs.length := size_of_entries h4
  refine PySem.W.kdl_call (KdlSrc.rawDict (es := es) (ep := ep) hs) (I.ok.hd hc) ⟨o, h1, h2, h3⟩ (by rw [hsz, m.len]; exact lim_ok hl) fun h' tk acc c hk hS hit => ?_
  have ea : acc = (xs.map fun x => Value.ref x.2.1).toArray := by
    apply Array.ext'
    rw [List.toList_toArray]
    refine List.ext_getElem? fun j => ?_
    obtain ⟨i1, i2⟩ := hit
    rw [Array.getElem?_toList, List.getElem?_map]
    by_cases hj : j < xs.length
    · have hja : j < acc.size := by rw [i1, hsz]; exact hj
      rw [Array.getElem?_eq_getElem hja]
      obtain ⟨hi, e⟩ := i2 j _ (Array.getElem?_eq_getElem hja)
      have e2 := entry_at h4 j
      rw [Array.getElem?_eq_getElem hi, List.getElem?_eq_getElem hj] at e2
      rw [e, List.getElem?_eq_getElem hj, Option.some.inj e2]
      rfl
    · rw [Array.getElem?_eq_none (by rw [i1, hsz]; omega), List.getElem?_eq_none (by omega)]
      rfl
  subst ea
  exact ⟨.ref _, _, I.laid (t' := tk) (o := .lst (xs.map fun x => V.ref x.2.1)) hk (Nat.le_refl _) ⟨by rw [List.length_map, m.len]; exact lim_ok hl, _, c, vals_keys xs, hS⟩, rfl, q _ I.fresh⟩
theorem fe_dlist {i : Nat} {x : Str} {p p2 pos : Pos} (hp : g.prog = X.prog) (hw : g.wd = X.w) (hc : X.calm = true) (hg : Gl X "list") (hm : X.mg "list" = none) (hN : X.N[i]? = some x) (hv : Vis X.env.scope x) (hd : (x == ("__debug__" : Str)) = false) (hcd : (x == ("__classdict__" : Str)) = false) :
    FE X g (.Call (.Name "list" p) [.Name x p2] [] pos) (fDlist i) := by
  refine PE.imp (pe_callTy (cr_dlist hp hw hc) hg hm (by decide +kernel) (pa_cons (pe_var hN hv hd hcd) pa_nil rfl) (by decide) (by decide) rfl rfl) ?_
  rintro σ H Q ⟨F, ρ, r, h⟩
  unfold fDlist at h
  cases e : getM ρ i with
  | none => rw [e] at h; exact h.elim
  | some kvs =>
    rw [e] at h
    simp only at h
    by_cases hl : kvs.length ≤ 1000000
    · rw [if_pos hl] at h
      obtain ⟨v, h1, a, xs, rfl, k1, k2, k3, k4⟩ := r.slot i _ (getM_some e)
      exact ⟨_, h1, F, a, xs, kvs, r.sub, rfl, k1, k3, k4, hl, fun q hq => h _ _ _ (r.ext (.new r.sub hq)) (r.frm (.new r.sub hq)) (mkL r.sub hq k4.items)⟩
    · rw [if_neg hl] at h
      exact h.elim
/-! ### x.pop() -/
def fPop (i : Nat) : Rho → R W := fun ρ => match getL ρ i with
  | some xs => (match xs.getLast? with
    | some x => .ok (.d x) (ρ.set i (some (.l xs.dropLast)))
    | none => .bad)
  | none => .bad
theorem DvAll.dropLast {F : Hp} {vs : List V} {ds : List D} (h : DvAll F vs ds) : DvAll F vs.dropLast ds.dropLast := by
  rw [List.dropLast_eq_take, List.dropLast_eq_take, h.len]
  exact h.take _
theorem fe_pop {i : Nat} {x : Str} {p apos cpos : Pos} (hN : X.N[i]? = some x) (hv : Vis X.env.scope x) (hd : (x == ("__debug__" : Str)) = false) (hcd : (x == ("__classdict__" : Str)) = false) (hline : (apos.endLine == cpos.line) = true) :
    FE X g (.Call (.Attribute (.Name x p) "pop" apos) [] [] cpos) (fPop i) := by
  refine PE.imp (pe_bm0 PySem.F.plainAttrs_list PySem.F.slot_list_pop PySem.F.type_list_pop mt_pop (pe_var hN hv hd hcd) rfl hline) ?_
  rintro σ H Q ⟨F, ρ, r, h⟩
  unfold fPop at h
  cases eg : getL ρ i with
  | none => rw [eg] at h; exact h.elim
  | some xs =>
    rw [eg] at h
    simp only at h
    obtain ⟨v, h1, a, vs, rfl, h2, h3, h4⟩ := r.slot i _ (getL_some eg)
    cases el : xs.getLast? with
    | none => rw [el] at h; exact h.elim
    | some y =>
      rw [el] at h
      simp only at h
      rw [List.getLast?_eq_getElem?] at el
      obtain ⟨u, q1, q2⟩ := h4.get el
      rw [← h4.len] at q1
      exact ⟨_, h1, .inl ⟨rfl, _, SqL.of h2⟩, a, vs, u, rfl, rfl, h2, q1, h _ _ F (r.mut (getL_some eg) h1 h4.dropLast) (r.frmMut (getL_some eg) h1) q2⟩
end
end FL

namespace FL
open PySem PySem.W PySem.Calls PyProof.Rows
section
variable {prog : Program} {w : World} {A : Around} {E : Value → Shared → Prop} {s : Shared}
/-- min(a, b) of two alike data: one of the two, as it stands -/
theorem min_pair {a b : Value} {x y : PyData} {as : List Addr} {Q : Value → Shared → Prop} (hh : A.handled = none) (hr : ReadsAll s.heap [a, b] [x, y] as) (ha : AlikeAll [x, y]) (hu : A.units + 1 + PyData.depthAll [x, y] < cLine)
    (h : ∀ (i : Nat) v h' tk bs, [a, b][i]? = some v → Reads h' v (minD x [y]) bs → (∀ c o, s.heap.get? c = some o → h'.get? c = some o) → Q v { s with heap := h', toks := tk }) : wpAny (model prog w) A (call (.builtin "min") [a, b]) Q E s := by
  have nm : (toString "min" ++ toString ".loop" : String) = "min.loop" := by decide
  refine call_function_tree F.kind_min F.plain_min F.entry_min (F.args_min2 _ _) ?_
  refine wpAny_bind (m := Builtin.Builtins.bindParams "min" ["key", "default"] 0 ⟨[], []⟩) (wpAny_of_eq (a := [none, none]) rfl ?_)
  show wpAny _ A.in1 (newTuple [a, b] >>= _) _ _ s
  refine wpAny_bind (wpAny_newObj_type ?_)
  have tup : ({ s with heap := s.heap.push { cls := .type "tuple", data := .seq #[a, b] } } : Shared).heap.IsTuple s.heap.objs.size #[a, b] := ⟨_, Heap.get?_push_size _ rfl, rfl, 0, rfl⟩
  refine wpAny_bind (iter_tupleW (A := A.in1) hh tup fun s₂ e W st hfp hw hk => ?_)
  have kp : ∀ c o, s.heap.get? c = some o → s₂.heap.get? c = some o := fun c o z => hk c o (Heap.get?_push_of_some _ z)
  refine wpAny_bind (wpAny_newObj_type ?_)
  rw [nm]
  have S0 := fun hm => Nat.lt_irrefl _ (hfp s₂.heap.objs.size hm)
  refine wpAny_pure ⟨plainId_quiet F.plain_min_loop _, codeAny_min_loop_firstH W s.heap (fun c o z => hw c o (Heap.get?_push_of_some _ z)) _ (cmpIn_lt (A := A.in1) (vs := #[a, b]) hr ha hu) s₂.heap.objs.size S0 (fresh_in kp) _ (Nat.succ_pos 1) (fun c o z => Heap.get?_push_of_some _ (kp c o z)) (W.frame 0 s₂ _ s₂.toks st (Nat.le_refl _) fun c _ o z => Heap.get?_push_of_some _ z) (Heap.get?_push_size _ rfl) fun v s' hP hm => ?_⟩
  obtain ⟨h', tk, rfl, hk'⟩ := moved_old e rfl (Moved.drop_new (tk := s₂.toks) hm (Nat.le_refl _))
  have kq : ∀ c o, s.heap.get? c = some o → h'.get? c = some o := fun c o z => hk' c o (Heap.get?_push_of_some _ z)
  obtain ⟨bs, r, _, _, _⟩ := readsAll_atA (vs := #[a, b]) hr _ v hP
  have e2 := (argBest_fold dataLt PyData.none x [y] 1 (Nat.le_refl _)).2
  refine h _ v h' tk bs (by simpa using hP) (reads_keeps kq ?_) kq
  unfold minD
  rw [show ([y] : List PyData) = [y].take 1 from rfl, ← e2]
  exact r
end
end FL

namespace FL
open PySem L2 PyProof.Rows

/-! ### tuple > tuple -/
section
variable {X : Cx}
theorem opd_gtT (hu : X.A.units + 64 < cLine) : OpD X (compareOp .Gt) gtD := by
  intro pins s σ H x y v u Q I rx ry h
  obtain ⟨F, a, b, z, sub, qa, qb, e, k⟩ := h
  cases a with
  | int i =>
    cases b with
    | int j =>
      cases e
      exact op_gt pins s σ H x y v u Q I rx ry ⟨i, j, qa.int, qb.int, k _ F H (.refl sub) (.bl _)⟩
    | _ => cases e
  | tuple xs =>
    cases b with
    | tuple ys =>
      have e' : (if shp 8 (.tuple xs) = true ∧ shp 8 (.tuple ys) = true ∧ PySem.W.alikeAll xs ys = true then some (PyData.bool (PySem.W.dataLt (.tuple ys) (.tuple xs))) else none) = some z := e
      split at e'
      · rename_i hc
        cases e'
        obtain ⟨as, r1⟩ := Dp.reads I _ x v ((qa.dv sub).dp _) rx
        obtain ⟨bs, r2⟩ := Dp.reads I _ y u ((qb.dv sub).dp _) ry
        have hd := (shp_lay 8 _ hc.1).2
        have key := PySem.W.rcGt_alike (.tuple xs) (.tuple ys) X.A s v u as bs r1 r2 (by simpa [PySem.W.alike] using hc.2.2) (by intro z; cases z) (by omega) X.prog X.w X.xe
        show wpAny _ _ (compareOp .Gt v u) _ _ _
        exact key _ ⟨.bl _, H, I, rfl, k _ F H (.refl sub) (.bl _)⟩
      · cases e'
    | _ => cases e
  | none => cases b <;> cases e
  | bool _ => cases b <;> cases e
  | str _ => cases b <;> cases e
  | list _ => cases b <;> cases e
  | dict _ => cases b <;> cases e
end
/-! ### min of a list -/
def minLD : List D → Option D
  | [.int i, .int j] => some (.int (if j < i then j else i))
  | [.tuple xs, .tuple ys] => if alikeB [.tuple xs, .tuple ys] = true ∧ shpAll 8 [.tuple xs, .tuple ys] = true then some (PySem.W.minD (.tuple xs) [.tuple ys]) else none
  | [.list (x :: xs)] => if alikeB (x :: xs) = true ∧ ((x :: xs).all fun d => !isN d) = true ∧ shpAll 8 (x :: xs) = true then some (PySem.W.minD x xs) else none
  | _ => none
theorem alikeAll_ok {xs : List D} (h : alikeB xs = true) (hn : (xs.all fun d => !isN d) = true) : PySem.W.AlikeAll xs := ⟨alikeB_ok h, fun d hd e => by
  subst e
  have := List.all_eq_true.mp hn _ hd
  simp [isN] at this⟩
theorem minD_mem (x : D) : ∀ xs : List D, PySem.W.minD x xs ∈ x :: xs := by
  intro xs
  unfold PySem.W.minD
  induction xs generalizing x with
  | nil => simp
  | cons y ys ih =>
    rw [List.foldl_cons]
    have := ih (if PySem.W.dataLt y x = true then y else x)
    rcases List.mem_cons.mp this with e | h
    · rw [e]; split <;> simp
    · simp [h]
theorem cd_min {X : Cx} (hc : X.calm = true) (hu : X.A.units + 64 < cLine) : CallD X (.builtin "min") minLD := by
  intro pins s σ H xs us Q I r h
  obtain ⟨F, ds, z, sub, q, e, k⟩ := h
  have hd : (∃ i j, ds = [.int i, .int j]) ∨ (∃ y ys, ds = [.list (y :: ys)]) ∨ ∃ a b, ds = [.tuple a, .tuple b] := by
    revert e
    unfold minLD
    split
    · intro _; exact .inl ⟨_, _, rfl⟩
    · intro _; exact .inr (.inr ⟨_, _, rfl⟩)
    · intro _; exact .inr (.inl ⟨_, _, rfl⟩)
    · intro e; cases e
  rcases hd with ⟨i, j, rfl⟩ | ⟨y, ys, rfl⟩ | ⟨a, b, rfl⟩
  · cases e
    cases q with
    | cons a b =>
      cases b with
      | cons b c =>
        cases c
        rw [a.int, b.int] at r
        exact call_min2 hc pins s σ H _ us Q I r ⟨i, j, rfl, k _ F H (.refl sub) (.int _)⟩
  · have e' : (if alikeB (y :: ys) = true ∧ ((y :: ys).all fun d => !isN d) = true ∧ shpAll 8 (y :: ys) = true then some (PySem.W.minD y ys) else none) = some z := e
    split at e'
    · rename_i hc2
      cases e'
      obtain ⟨v, rfl, a⟩ := q.one
      obtain ⟨p, vs, rfl, h1, a1⟩ := a.lst sub
      obtain ⟨its, rv, hl, hz⟩ := I.list (show SqL X.K H p vs from .inl h1)
      rw [Vals.ref1 r]
      obtain ⟨as, rd⟩ := Dp.readsAll I _ _ _ ((dvAll_mono sub a1).dp X.K) rv
      have hdep := (shpAll_lay 8 _ hc2.2.2).2
      refine PySem.W.min_list_data (I.ok.hd hc) hl.isList (by rw [List.toList_toArray]; exact rd) (alikeAll_ok hc2.1 hc2.2.1) (by omega) fun j v h' tk bs hv hr hk => ?_
      have hv' : its[j]? = some v := by simpa using hv
      have hjl : j < vs.length := by
        have := (List.getElem?_eq_some_iff.mp hv').1
        rw [rv.length]
        exact this
      obtain ⟨u, hu1, hu2⟩ := rv.get (List.getElem?_eq_getElem hjl)
      rw [hv'] at hu1
      cases hu1
      have hjd : j < (y :: ys).length := by rw [← a1.len]; exact hjl
      obtain ⟨w, hw1, hw2⟩ := a1.get (List.getElem?_eq_getElem hjd)
      rw [List.getElem?_eq_getElem hjl] at hw1
      cases hw1
      have same : (y :: ys)[j] = PySem.W.minD y ys := by
        obtain ⟨cs, r2⟩ := Dp.reads I _ _ _ ((dv_mono sub hw2).dp X.K) hu2
        have r2' := PySem.W.reads_keeps hk r2
        have p1 : ((y :: ys)[j]).canLay0 = true := (shp_lay 8 _ (shpAll_mem hc2.2.2 _ (List.getElem_mem hjd))).1
        have p2 : (PySem.W.minD y ys).canLay0 = true := (shp_lay 8 _ (shpAll_mem hc2.2.2 _ (minD_mem y ys))).1
        have e1 := SeqAt.readOf_plain (PyData.plain_of_canLay0 _ p1) r2'
        have e2 := SeqAt.readOf_plain (PyData.plain_of_canLay0 _ p2) hr
        rw [← e1, e2]
      exact ⟨_, H, I.kept (t' := tk) hk, hu2, k _ F H (.refl sub) (by rw [← same]; exact hw2)⟩
    · cases e'
  · have e' : (if alikeB [.tuple a, .tuple b] = true ∧ shpAll 8 [.tuple a, .tuple b] = true then some (PySem.W.minD (.tuple a) [.tuple b]) else none) = some z := e
    split at e'
    · rename_i hc2
      cases e'
      have hdep := (shpAll_lay 8 _ hc2.2).2
      cases q with
      | @cons v _ _ _ p1 q' =>
        cases q' with
        | @cons v2 _ _ _ p2 q'' =>
          cases q''
          have q1 := p1.tupF
          have q2 := p2.tupF
          obtain ⟨as, rd⟩ := Dp.readsAll I _ _ _ ((dvAll_mono sub (.cons q1 (.cons q2 .nil))).dp X.K) r
          obtain ⟨u1, u2, rfl, s1, s2⟩ := vals2 r
          refine min_pair (I.ok.hd hc) rd (alikeAll_ok hc2.1 rfl) (by omega) fun j u h' tk bs hv hr hk => ?_
          have pick : ∃ v0 d0, Dv F v0 d0 ∧ RelV v0 u ∧ d0 ∈ [PyData.tuple a, .tuple b] := by
            match j, hv with
            | 0, hv => cases hv; exact ⟨v, _, q1, s1, .head _⟩
            | 1, hv => cases hv; exact ⟨v2, _, q2, s2, .tail _ (.head _)⟩
          obtain ⟨v0, d0, w1, w2, w3⟩ := pick
          have same : d0 = PySem.W.minD (.tuple a) [.tuple b] := by
            obtain ⟨cs, r2⟩ := Dp.reads I _ _ _ ((dv_mono sub w1).dp X.K) w2
            have r2' := PySem.W.reads_keeps hk r2
            have p1 : d0.canLay0 = true := (shp_lay 8 _ (shpAll_mem hc2.2 _ w3)).1
            have p2 : (PySem.W.minD (.tuple a) [.tuple b]).canLay0 = true := (shp_lay 8 _ (shpAll_mem hc2.2 _ (minD_mem _ _))).1
            have e1 := SeqAt.readOf_plain (PyData.plain_of_canLay0 _ p1) r2'
            have e2 := SeqAt.readOf_plain (PyData.plain_of_canLay0 _ p2) hr
            rw [← e1, e2]
          exact ⟨_, H, I.kept (t' := tk) hk, w2, k _ F H (.refl sub) (by rw [← same]; exact w1)⟩
    · cases e'
/-! ### tuple * int -/
section
variable {X : Cx}
theorem tuple_mul1 (l : Addr) (items : Array Value) (n : Nat) (dd : Option Addr) (sl : Array (Option Value)) (x : Int) (u : Tok) (c0 : (decide (x < -(2 ^ 63)) || decide (x ≥ 2 ^ 63)) = false) (c1 : (items.isEmpty || x == 1) = true) :
    Meets (Builtin.«tuple.__mul__» ⟨[.ref l, .int x u], []⟩) (fun _ R s => s.heap.get? l = some { cls := .type "tuple", dict := dd, data := .seq items n, slots := sl } ∧ R (.ok (.ret (Value.ref l))) s) :=
  .of_wp fun prog w A R s h => by
    obtain ⟨hp, g, d, tk, os⟩ := s
    obtain ⟨hl, h⟩ := h
    have f1 := AutoSeq1.idx_int
    wp_walk using AutoSeq1.wpAny_loadPart' hl
    repeat (first
      | (refine wpAny_ite_false (decide_eq_false (by rw [c0]; exact Bool.false_ne_true)) ?_; wp_walk using AutoSeq1.wpAny_loadPart' hl)
      | (refine wpAny_ite_true (decide_eq_true c1) ?_; wp_walk using AutoSeq1.wpAny_loadPart' hl))
    exact ⟨_, rfl, h⟩
def rRepT1 (K : PySem.W.Frag) : R2 := fun x y H Q => ∃ l xs, x = .ref l ∧ y = .int 1 ∧ SqT K H l xs ∧ Q (.ref l) H
theorem op_repT1 : OpR X (binaryOp .Mult) (rRepT1 X.K) := by
  intro pins s σ H x y v u Q I rx ry h
  obtain ⟨l, xs, rfl, rfl, hT, q⟩ := h
  cases rx
  obtain ⟨t, rfl⟩ := ry
  obtain ⟨its, r, ⟨⟨cls, dd, data, sl⟩, ho, hc, n, hd⟩, hs⟩ := I.tuple hT
  simp only at hc hd
  subst hc hd
  refine wpAny_binaryOp_repeat_ref (T := "tuple") (U := "int") (by decide) ⟨_, ho, rfl⟩ (fun s' => typeIs_int s' 1 t) noFill_tuple_mul F.fills_int_mul F.slot_int_rmul repeat_tuple F.slot_int_index.lookup
    (call_meets F.slot_int_rmul (typeIs_int s 1 t) F.entry_int_rmul (F.args_int_rmul_2 _ _) (int_rmul_tuple 1 t l its.toArray n dd sl)
      ⟨ho, rfl, ⟨_, ho, rfl⟩, call_meets F.slot_tuple_mul ⟨_, ho, rfl⟩ F.entry_tuple_mul (F.args_tuple_mul_2 _ _) (tuple_mul1 l its.toArray n dd sl 1 t (by decide) (by rw [Bool.or_eq_true]; exact .inr rfl)) ⟨ho, ?_⟩⟩)
  exact ⟨.ref l, H, I, rfl, q⟩
/-- all products, with tuples -/
def mulD' : D → D → Option D
  | .tuple xs, .int k => if k = 1 then some (.tuple xs) else if 2 ≤ k ∧ k ≤ 1000 ∧ xs.length ≤ 1000 ∧ xs.isEmpty = false then some (.tuple (List.replicate k.toNat xs).flatten) else none
  | x, y => mulD x y
theorem opd_mul' : OpD X (binaryOp .Mult) mulD' := by
  intro pins s σ H x y v u Q I rx ry h
  obtain ⟨F, a, b, z, sub, qa, qb, e, k⟩ := h
  have other : mulD a b = some z → wpAny (model X.prog X.w) X.A (binaryOp .Mult v u) (EP X pins σ Q) X.xe s := fun e => opd_mul pins s σ H x y v u Q I rx ry ⟨F, a, b, z, sub, qa, qb, e, k⟩
  cases a with
  | tuple xs =>
    cases b with
    | int j =>
      have e' : (if j = 1 then some (PyData.tuple xs) else if 2 ≤ j ∧ j ≤ 1000 ∧ xs.length ≤ 1000 ∧ xs.isEmpty = false then some (PyData.tuple (List.replicate j.toNat xs).flatten) else none) = some z := e
      have tq := qa.tupF
      obtain ⟨p, vs, rfl, h1, a1⟩ := qa.tup sub
      have l1 := a1.len
      split at e'
      · rename_i hj
        cases e'
        subst hj
        exact op_repT1 pins s σ H _ _ v u Q I rx ry ⟨p, vs, rfl, qb.int, .inl h1, k _ F H (.refl sub) tq⟩
      · split at e'
        · rename_i hc
          cases e'
          refine op_repT pins s σ H _ _ v u Q I rx ry ⟨p, j, vs, rfl, qb.int, .inl h1, ?_, hc.1, hc.2.1, by rw [l1]; exact hc.2.2.1, fun r hr => k _ _ _ (.new sub hr) (mkT sub hr (a1.rep _))⟩
          intro z
          rw [z] at l1
          cases xs with
          | nil => exact absurd hc.2.2.2 (by decide)
          | cons _ _ => simp at l1
        · cases e'
    | _ => exact other (by cases e)
  | none => exact other e
  | bool _ => exact other e
  | int _ => exact other e
  | str _ => exact other e
  | list _ => exact other e
  | dict _ => exact other e
/-! ### x.count(e), x.index(e) -/
def dplace (xs : List D) (d : D) : Option Nat := xs.findIdx? fun y => PyData.eqv y d
def cntD (xs : List D) (d : D) : Option D := if shp 8 d = true ∧ shpAll 7 xs = true then some (.int ((xs.countP fun y => PyData.eqv y d : Nat) : Int)) else none
def rCntD (K : PySem.W.Frag) : V → List V → Hp → VK → Prop := fun x vs H Q => ∃ F a us ys d w, Sub F H ∧ x = .ref a ∧ vs = [w] ∧ Rd H a (.lst us) ∧ DvAll F us ys ∧ Dv F w d ∧ shp 8 d = true ∧ shpAll 7 ys = true ∧ Q (.int ((ys.countP fun y => PyData.eqv y d : Nat) : Int)) H
theorem mt_cntD (hu : X.A.units + 64 < cLine) : MtR X "list.count" (rCntD X.K) := by
  intro pins s σ H x xs v us Q I rx rxs h
  obtain ⟨F, a, ws, ys, d, w, sub, rfl, rfl, hr, ha, hd, h1, h2, q⟩ := h
  cases rx
  obtain ⟨u, rfl, ru⟩ := rxs.one
  obtain ⟨its, rv, hl, hz⟩ := I.list (show SqL X.K H a ws from .inl hr)
  obtain ⟨as, rd⟩ := Dp.readsAll I _ _ _ ((dvAll_mono sub ha).dp X.K) rv
  obtain ⟨bs, rd2⟩ := Dp.reads I _ _ _ ((dv_mono sub hd).dp X.K) ru
  have k1 := shpAll_lay 7 _ h2
  have k2 := shp_lay 8 _ h1
  refine SeqAt.count_list_data hl.isList (by rw [List.toList_toArray]; exact rd) rd2 (PyData.plainAll_of_canLay0 _ k1.1) (PyData.plain_of_canLay0 _ k2.1) (by omega) ?_
  exact ⟨.int _, H, I.tok _, ⟨_, rfl⟩, q⟩
def fCnt (i : Nat) (fs : Rho → R (List W)) : Rho → R W := fun ρ => match getL ρ i with
  | none => .bad
  | some _ => (fs ρ).bind fun ws ρ1 => match one? ws, getL ρ1 i with
    | some x, some xs => (match cntD xs x with
      | some z => .ok (.d z) ρ1
      | none => .bad)
    | _, _ => .bad
end
section
variable {X : Cx} {g : G}
theorem fe_cnt {i : Nat} {x : Str} {e : Expr} {p apos cpos : Pos} {fs : Rho → R (List W)} (hu : X.A.units + 64 < cLine) (hN : X.N[i]? = some x) (hv : Vis X.env.scope x) (hd : (x == ("__debug__" : Str)) = false) (hcd : (x == ("__classdict__" : Str)) = false) (he : FA X g [e] fs)
    (hfew : ((backTo cpos (starEach [e] X.env)).all (fun x => !x.1) && (backToKw cpos (keywordEach [] X.env)).all (fun x => x.1.isSome) && decide ([e].length + ([] : List Keyword).length + (if ([] : List Keyword).isEmpty then 0 else 1) < 30)) = true)
    (hline : (apos.endLine == cpos.line) = true) (hs : starEach [e] X.env = (false, eval e X.env) :: starEach [] X.env) :
    FE X g (.Call (.Attribute (.Name x p) "count" apos) [e] [] cpos) (fCnt i fs) := by
  refine PE.imp (pe_bm PySem.F.plainAttrs_list PySem.F.slot_list_count PySem.F.type_list_count (mt_cntD hu) (pe_var hN hv hd hcd) he rfl hfew hline hs rfl) ?_
  rintro σ H Q ⟨F, ρ, r, h⟩
  unfold fCnt at h
  cases eg : getL ρ i with
  | none => rw [eg] at h; exact h.elim
  | some xs0 =>
    rw [eg] at h
    simp only at h
    obtain ⟨v, h1, a, vs0, rfl, h2, h3, h4⟩ := r.slot i _ (getL_some eg)
    refine ⟨_, h1, .inl ⟨rfl, _, SqL.of h2⟩, F, ρ, r, ?_⟩
    cases e1 : fs ρ with
    | bad => rw [e1] at h; exact h
    | exc c ρ' => rw [e1] at h; exact h
    | ok ws ρ1 =>
      rw [e1] at h
      simp only [R.bind_ok] at h
      intro us H1 F1 r1 s1 w1
      cases ed : one? ws with
      | none => rw [ed] at h; exact h.elim
      | some x0 =>
        cases el : getL ρ1 i with
        | none => rw [ed, el] at h; exact h.elim
        | some xs =>
          rw [ed, el] at h
          simp only at h
          have ew := one?_some ed
          subst ew
          obtain ⟨v', q1, a', vs, ev, q2, q3, q4⟩ := r1.slot i _ (getL_some el)
          subst ev
          rw [h1] at q1
          cases q1
          cases w1 with
          | cons d1 d2 =>
            cases d2
            unfold cntD at h
            by_cases hc : shp 8 x0 = true ∧ shpAll 7 xs = true
            · rw [if_pos hc] at h
              exact ⟨F1, a, vs, xs, x0, _, r1.sub, rfl, rfl, .inl q2, q4, d1, hc.1, hc.2, h _ H1 F1 r1 s1 (.int _)⟩
            · rw [if_neg hc] at h
              exact h.elim
/-- x.index(True), of bools -/
def bplace : List D → Option Nat
  | [] => none
  | .bool true :: _ => some 0
  | .bool false :: r => (bplace r).map (· + 1)
  | _ => none
def allB : List D → Bool
  | [] => true
  | .bool _ :: r => allB r
  | _ => false
theorem bools_vs {F : Hp} : ∀ {vs : List V} {xs : List D}, DvAll F vs xs → allB xs = true → ∃ bs : List Bool, vs = bs.map V.bl ∧ xs = bs.map PyData.bool
  | _, _, .nil, _ => ⟨[], rfl, rfl⟩
  | _, _, .cons a b, h => by
    cases a with
    | bl c =>
      obtain ⟨bs, h1, h2⟩ := bools_vs b h
      exact ⟨c :: bs, by rw [h1]; rfl, by rw [h2]; rfl⟩
    | _ => cases h
theorem bplace_at : ∀ {bs : List Bool} {j : Nat}, bplace (bs.map PyData.bool) = some j → bs[j]? = some true ∧ ∀ m, m < j → bs[m]? = some false
  | [], _, h => by cases h
  | true :: r, j, h => by
    cases h
    exact ⟨rfl, fun m hm => absurd hm (Nat.not_lt_zero _)⟩
  | false :: r, j, h => by
    obtain ⟨k, hk, rfl⟩ := Option.map_eq_some_iff.mp (show (bplace (r.map PyData.bool)).map (· + 1) = some j from h)
    obtain ⟨h1, h2⟩ := bplace_at hk
    refine ⟨h1, fun m hm => ?_⟩
    cases m with
    | zero => rfl
    | succ m => exact h2 m (by omega)
def fIdxT (i : Nat) : Rho → R W := fun ρ => match getL ρ i with
  | none => .bad
  | some xs => if allB xs = true then (match bplace xs with
      | some j => .ok (.d (.int (j : Nat))) ρ
      | none => .bad) else .bad
theorem fe_idxT {i : Nat} {x : Str} {k : Nat} {p p2 apos cpos : Pos} (hK : X.K = g.K) (hN : X.N[i]? = some x) (hv : Vis X.env.scope x) (hd : (x == ("__debug__" : Str)) = false) (hcd : (x == ("__classdict__" : Str)) = false) (hline : (apos.endLine == cpos.line) = true) :
    FE X g (.Call (.Attribute (.Name x p) "index" apos) [.Constant (.bool true) k p2] [] cpos) (fIdxT i) := by
  refine PE.imp (pe_bm PySem.F.plainAttrs_list PySem.F.slot_list_index PySem.F.type_list_index mt_index (pe_var hN hv hd hcd) (pa_cons pe_bl pa_nil rfl) rfl rfl hline rfl rfl) ?_
  rintro σ H Q ⟨F, ρ, r, h⟩
  unfold fIdxT at h
  cases eg : getL ρ i with
  | none => rw [eg] at h; exact h.elim
  | some xs =>
    rw [eg] at h
    simp only at h
    obtain ⟨v, h1, a, vs, rfl, h2, h3, h4⟩ := r.slot i _ (getL_some eg)
    by_cases hb : allB xs = true
    · rw [if_pos hb] at h
      obtain ⟨bs, rfl, rfl⟩ := bools_vs h4 hb
      cases ej : bplace (bs.map PyData.bool) with
      | none => rw [ej] at h; exact h.elim
      | some j =>
        rw [ej] at h
        obtain ⟨k1, k2⟩ := bplace_at ej
        refine ⟨_, h1, .inl ⟨rfl, _, SqL.of h2⟩, a, bs.map V.bl, .bl true, j, .bl true, rfl, rfl, SqL.of h2, rfl, ?_, by rw [List.getElem?_map, k1]; rfl, rfl, fun m z' hm hz => ?_, h _ H F r (.refl _ _ _ _) (.int _)⟩
        · rw [List.all_map]
          exact List.all_eq_true.mpr fun b _ => rfl
        · rw [List.getElem?_map, k2 m hm] at hz
          cases hz
          rfl
    · rw [if_neg hb] at h
      exact h.elim
end
end FL

namespace FL
open PySem L2 PyProof.Rows

/-! ### the program's exception classes -/
def excB (K : PySem.W.Frag) (cl C : Addr) : Bool :=
  PySem.W.excIn K C [.type "ValueError", .type "Exception", .type "BaseException", .type "object"] "ValueError.__new__" && PySem.W.keepIn K (.ref C) && (PySem.W.subIn K (.ref C) (.type "BaseException") == some true) && (PySem.W.typeIn K (.ref C) == some (.type "type")) &&
  (PySem.W.findIn K (.ref C) "__getattribute__" == some (some (.builtin "BaseException.__getattribute__"))) && (PySem.W.findIn K (.ref C) "__getattr__" == some none) && PySem.W.hasDictIn K C && (PySem.W.findIn K (.ref C) "__class__" == some (some (.builtin "object.__class__"))) &&
  (PySem.W.specialIn K (.builtin "object.__class__") "__get__" == some (some (.builtin "getset_descriptor.__get__"))) && (PySem.W.takesIn K (.builtin "object.__class__") == some true) && (PySem.W.mroIn K C (.type "object") == some true) &&
  (PySem.W.exmOne K (.ref C) (.ref cl) == some true) && (PySem.W.kitOne K (.ref C) (.type "ValueError") == some true)
def excPB (K : PySem.W.Frag) (Cs : List Addr) : Bool := Cs.all fun C => Cs.all fun D => PySem.W.kitOne K (.ref C) (.ref D) == some (C == D)
def nodupA : List Addr → Bool
  | [] => true
  | x :: xs => !xs.contains x && nodupA xs
def excAllB (K : PySem.W.Frag) (cl : Addr) (Cs : List Addr) : Bool := decide (Cs.length = 10) && Cs.all (excB K cl) && excPB K Cs && nodupA Cs
def clsL (l : List Addr) (n : Nat) : Addr := l.getD n 0
structure ExcOne (K : PySem.W.Frag) (cl C : Addr) : Prop where
  ex : PySem.W.excIn K C [.type "ValueError", .type "Exception", .type "BaseException", .type "object"] "ValueError.__new__" = true
  kC : PySem.W.keepIn K (.ref C) = true
  bC : PySem.W.subIn K (.ref C) (.type "BaseException") = some true
  tC : PySem.W.typeIn K (.ref C) = some (.type "type")
  c : ExcC K C
  m : PySem.W.exmOne K (.ref C) (.ref cl) = some true
  v : PySem.W.kitOne K (.ref C) (.type "ValueError") = some true
theorem excB_ok {K : PySem.W.Frag} {cl C : Addr} (h : excB K cl C = true) : ExcOne K cl C := by
  unfold excB at h
  simp only [Bool.and_eq_true, beq_iff_eq] at h
  obtain ⟨⟨⟨⟨⟨⟨⟨⟨⟨⟨⟨⟨h1, h2⟩, h3⟩, h4⟩, h5⟩, h6⟩, h7⟩, h8⟩, h9⟩, h10⟩, h11⟩, h12⟩, h13⟩ := h
  exact ⟨h1, h2, h3, h4, ⟨h5, h6, h3, h7, h8, h9, h10, h11⟩, h12, h13⟩
structure ExcAllP (K : PySem.W.Frag) (cl : Addr) (cls : Nat → Addr) : Prop where
  one : ∀ n, n < 10 → ExcOne K cl (cls n)
  two : ∀ n m, n < 10 → m < 10 → PySem.W.kitOne K (.ref (cls n)) (.ref (cls m)) = some (decide (n = m))
theorem nodupA_ok : ∀ {l : List Addr}, nodupA l = true → l.Nodup
  | [], _ => List.nodup_nil
  | x :: xs, h => by
    rw [nodupA, Bool.and_eq_true] at h
    exact List.nodup_cons.mpr ⟨by simpa using h.1, nodupA_ok h.2⟩
theorem excAll_ok {K : PySem.W.Frag} {cl : Addr} {Cs : List Addr} (h : excAllB K cl Cs = true) : ExcAllP K cl (clsL Cs) := by
  unfold excAllB excPB at h
  simp only [Bool.and_eq_true, decide_eq_true_eq] at h
  obtain ⟨⟨⟨h1, h2⟩, h3⟩, h4⟩ := h
  have at_ : ∀ n, n < 10 → ∃ hn : n < Cs.length, clsL Cs n = Cs[n] := fun n hn => ⟨by omega, by unfold clsL; rw [List.getD_eq_getElem?_getD, List.getElem?_eq_getElem (by omega)]; rfl⟩
  refine ⟨fun n hn => ?_, fun n m hn hm => ?_⟩
  · obtain ⟨h, e⟩ := at_ n hn
    rw [e]
    exact excB_ok (List.all_eq_true.mp h2 _ (List.getElem_mem h))
  · obtain ⟨a, e1⟩ := at_ n hn
    obtain ⟨b, e2⟩ := at_ m hm
    have q := List.all_eq_true.mp (List.all_eq_true.mp h3 _ (List.getElem_mem a)) _ (List.getElem_mem b)
    rw [beq_iff_eq] at q
    rw [e1, e2, q]
    congr 1
    by_cases e : n = m
    · subst e; simp
    · rw [decide_eq_false e]
      refine beq_eq_false_iff_ne.mpr fun z => e ?_
      exact (List.getElem_inj (nodupA_ok h4)).mp z
/-! ### isinstance(e, C) of the caught error -/
/-- the error in hand -/
def ErrAt (X : Cx) (z : Z) : Prop := ∀ a c, z.ex = some (a, c) → c < 10 ∧ ∃ oe, (a, oe) ∈ X.pn ∧ Zc (.ref (z.cls c)) none oe ∧ (∃ vs, oe.data = .fields vs) ∧ ∃ cl, ExcAllP X.K cl z.cls
def getE (ρ : Rho) (i : Nat) : Option Nat := match ρ[i]? with
  | some (some (.e c)) => some c
  | _ => none
theorem getE_some {ρ : Rho} {i c : Nat} (h : getE ρ i = some c) : ρ[i]? = some (some (.e c)) := by
  unfold getE at h
  split at h
  · rename_i e
    cases h
    exact e
  · cases h
/-- n: the class's number; none: ValueError -/
def fIsE (n : Option Nat) (i : Nat) : Rho → R W := fun ρ => match getE ρ i with
  | some c => .ok (.d (.bool (match n with | some k => decide (c = k) | none => true))) ρ
  | none => .bad
section
variable {X : Cx} {g : G}
theorem call_isEP {a D : Addr} {oe : Obj} (C : ExcC X.K D) (hp : (a, oe) ∈ X.pn) (hz : Zc (.ref D) none oe) (hf : ∃ vs, oe.data = .fields vs) : CallR X (.builtin "isinstance") (rIsE X.K D a) := by
  intro pins s σ H xs us Q I r h
  obtain ⟨c, cv, b, rfl, hcv, e, q⟩ := h
  cases r with
  | cons rx rr =>
    cases rr with
    | cons rt rr =>
      cases rr
      cases rx
      have ec := hcv _ rt
      subst ec
      obtain ⟨hget, _⟩ := I.pin (a, oe) (List.mem_append.mpr (.inl hp))
      obtain ⟨vs, hv⟩ := hf
      have J : PySem.W.InstAt s.heap a oe D none := by
        obtain ⟨oc, od, oda, osl⟩ := oe
        obtain ⟨h1, h2⟩ := hz
        dsimp only at h1 h2 hv
        subst h1 h2 hv
        exact ⟨hget, rfl, rfl, trivial⟩
      exact PySem.W.kia_one (PySem.W.handS_kitx_exc C.hg C.hk C.hs C.hd C.ha C.hn C.ht C.hm) I.kIn J e (fun z => nomatch z) fun tk => ⟨.bl b, H, I.kept (t' := tk) fun _ _ z => z, rfl, q⟩
theorem fe_isE {i k : Nat} {x t : Str} {p p1 p2 pos : Pos} (hE : ErrAt X g.toZ) (hk : k < 10) (hg : Gl X "isinstance") (hm : X.mg "isinstance" = none) (hN : X.N[i]? = some x) (hv : Vis X.env.scope x) (hd : (x == ("__debug__" : Str)) = false) (hcd : (x == ("__classdict__" : Str)) = false)
    (hg2 : Gl X t) (hm2 : X.mg t = some (.ref (g.cls k))) (hdt : (t == ("__debug__" : Str)) = false) : FE X g (.Call (.Name "isinstance" p) [.Name x p1, .Name t p2] [] pos) (fIsE (some k) i) := by
  refine ⟨fun pins s σ H Q I h => ?_⟩
  obtain ⟨F, ρ, r, h⟩ := h
  unfold fIsE at h
  cases e : getE ρ i with
  | none => rw [e] at h; exact h.elim
  | some c =>
    rw [e] at h
    obtain ⟨v, h1, a, rfl, hz⟩ := r.slot i _ (getE_some e)
    obtain ⟨hc, oe, hp, z1, z2, cl, EA⟩ := hE a c hz
    refine (pe_callB (call_isEP (EA.one c hc).c hp z1 z2) hg hm (by decide +kernel) (pa_cons (pe_var hN hv hd hcd) (pa_cons (pe_glob (v := .ref (g.cls k)) hg2 hm2 rfl hdt) pa_nil rfl) rfl) (by decide) (by decide) rfl rfl).run pins s σ H Q I ?_
    refine ⟨_, h1, .ref (g.cls k), .ref (g.cls k), decide (c = k), rfl, fun u q => q, EA.two c k hc hk, h _ H F r (.refl _ _ _ _) (.bl _)⟩
theorem fe_isEV {i : Nat} {x : Str} {p p1 p2 pos : Pos} (hE : ErrAt X g.toZ) (hg : Gl X "isinstance") (hm : X.mg "isinstance" = none) (hN : X.N[i]? = some x) (hv : Vis X.env.scope x) (hd : (x == ("__debug__" : Str)) = false) (hcd : (x == ("__classdict__" : Str)) = false)
    (hg2 : Gl X "ValueError") (hm2 : X.mg "ValueError" = none) : FE X g (.Call (.Name "isinstance" p) [.Name x p1, .Name "ValueError" p2] [] pos) (fIsE none i) := by
  refine ⟨fun pins s σ H Q I h => ?_⟩
  obtain ⟨F, ρ, r, h⟩ := h
  unfold fIsE at h
  cases e : getE ρ i with
  | none => rw [e] at h; exact h.elim
  | some c =>
    rw [e] at h
    obtain ⟨v, h1, a, rfl, hz⟩ := r.slot i _ (getE_some e)
    obtain ⟨hc, oe, hp, z1, z2, cl, EA⟩ := hE a c hz
    refine (pe_callB (call_isEP (EA.one c hc).c hp z1 z2) hg hm (by decide +kernel) (pa_cons (pe_var hN hv hd hcd) (pa_cons (pe_bltn (v := .ty "ValueError") hg2 hm2 (by decide +kernel) rfl (by decide) (by decide)) pa_nil rfl) rfl) (by decide) (by decide) rfl rfl).run pins s σ H Q I ?_
    exact ⟨_, h1, .ty "ValueError", .type "ValueError", true, rfl, fun u q => q, (EA.one c hc).v, h _ H F r (.refl _ _ _ _) (.bl _)⟩
end
/-! ### a def that is called while an error is handled -/
open L2H in
structure FnE (P : Program) (w : World) (K : PySem.W.Frag) (mg : Str → Option Value) (base : Heap) (k : Nat) (f : Addr) (fd : FuncData) (ps : List Str) (p : Addr × Obj) (sp : Sp) : Prop where
  len : ∀ vs H Q E, sp vs H Q E → vs.length = ps.length
  run : ∀ (A : Around) (outer : List Env) (s : Shared) (H : Hp) (us : List Value) (vs : List V) (Q : VK) (E : XK), RoomH k A → PinOk outer H s p → Env0 P w K mg base A outer s H → BindsTo s fd ⟨us, []⟩ (ps.zip us) → Vals vs us → sp vs H Q E →
    codeAny (model P w) A (.call (.ref f) ⟨us, []⟩) (CR (L2.CX P w) outer P w H s Q E) s
open L2H in
theorem fn_ofE {P : Program} {w : World} {K : PySem.W.Frag} {mg : Str → Option Value} {base : Heap} {k : Nat} {f : Addr} {x qual : Str} {st : Stmt} {fd : FuncData} {N ps : List Str} {sp : Sp} {p : Addr × Obj} (Fn : Fun K x qual st f fd) (S : FnScope N ps (defScope st))
    (len : ∀ vs H Q E, sp vs H Q E → vs.length = ps.length)
    (hbody : ∀ (cdv : Value) (A : Around) (outer : List Env) (s : Shared) (H : Hp) (vs : List V) (Q : VK) (E : XK), RoomH k (A.deeper (envOfC qual (defScope st) s.heap.objs.size f cdv)) → sp vs H Q E →
      ∃ t, PSs (cxH (L2.CX P w) P w K mg base N qual (defScope st) f cdv A outer s H E p) (defBody st) t ∧ t { nx := fun _ H' => Q .non H', rt := Q } (L2.start N vs) H) :
    FnE P w K mg base (k + 1) f fd ps p sp := by
  obtain ⟨oc, od, kV, doc, pm, an, cdv, ct, osl, rfl, lk, hcd⟩ := Fn.ex
  refine ⟨len, fun A outer s H us vs Q E hr hpin e0 hb r hsp => ?_⟩
  have hl := len _ _ _ _ hsp
  have KX : K.In s.heap := e0.mod.kin.keeps fun b o e => (e0.bs b o e).1
  have lim : s.heap.NoLimit := e0.mod.nolimit.keeps fun b o e => (e0.bs b o e).1
  have hkind : ∀ y ∈ ps.zip us, (defScope st).names.lookup y.1 = some .local ∨ ((defScope st).names.lookup y.1 = some .cell ∧ ((cellsFrom (s.heap.objs.size + 1) (defScope st).names []).lookup y.1).isSome = true) := fun ⟨n, v⟩ hy => by
    rcases S.par n (List.of_mem_zip hy).1 with q | q
    · exact .inl q
    · exact .inr ⟨q, PySem.W.cellsFrom_some _ _ _ (.inl q)⟩
  refine codeAny_call_function hr.depth (KX _ _ lk) rfl S.co S.gen rfl (PySem.W.codeRec_of KX hcd) (hb _ _ _ _ ?_)
  refine wpAny_newFunctionEnv_cells S.kind hkind fun env he s1 x => ?_
  subst he
  refine ⟨lim.keeps x.toInCall.keep, codeAny_func ?_⟩
  obtain ⟨t, ht, hq⟩ := hbody cdv A outer s H vs Q E (hr.deeper _) hsp
  have I : Inv (cxH (L2.CX P w) P w K mg base N qual (defScope st) f cdv A outer s H E p) [] (L2.start N vs) H s1 := inv_startH S hpin e0 hl r x
  refine wpAny_mono (ht.run [] s1 (L2.start N vs) H _ I hq) (fun fl s' hs => ?_) fun e s' hs => hs
  have fin : ∀ {σ' : L2.St} {H' : Hp} {v : V} {u : Value}, Inv (cxH (L2.CX P w) P w K mg base N qual (defScope st) f cdv A outer s H E p) [] σ' H' s' → RelV v u → Q v H' → CE outer P w H s Q u s' :=
    fun {σ' H' v u} J rv q => ⟨v, H', J.os, J.bare, J.base, J.hok, rv, q⟩
  cases fl with
  | ret u =>
    obtain ⟨v, σ', H', J, rv, q⟩ := hs
    exact fin J rv q
  | next =>
    obtain ⟨σ', H', J, q⟩ := hs
    exact fin (v := V.non) (u := Value.none) J rfl q
  | brk =>
    obtain ⟨_, _, _, q⟩ := hs
    exact False.elim q
  | cont =>
    obtain ⟨_, _, _, q⟩ := hs
    exact False.elim q
open L2H in
/-- the same by a function -/
theorem fn_soundE {P : Program} {w : World} {K : PySem.W.Frag} {mg : Str → Option Value} {base : Heap} {x qual : Str} {st : Stmt} {f : Addr} {fd : FuncData} {N ps : List Str} {k : Nat} {z : Z} {body : List Nat → Rho → R Fl} {p : Addr × Obj}
    (Fn : Fun K x qual st f fd) (S : FnScope N ps (defScope st)) (hp : ps.length ≤ N.length)
    (hb : ∀ (cdv : Value) (A : Around) (outer : List Env) (s : Shared) (H : Hp) (E : XK) (g : G), g.toZ = z → g.W = (fun cls d _ H => E cls d H) → RoomH k (A.deeper (envOfC qual (defScope st) s.heap.objs.size f cdv)) →
      FSs (cxH (L2.CX P w) P w K mg base N qual (defScope st) f cdv A outer s H E p) g (defBody st) (body g.pins)) :
    FnE P w K mg base (k + 1) f fd ps p (spF z ps.length (runF N.length body)) := by
  refine fn_ofE Fn S (fun vs H Q E h => h.1) fun cdv A outer s H vs Q E hr h => ?_
  obtain ⟨hl, F, ss, a, h⟩ := h
  refine ⟨_, hb cdv A outer s H E (G.entry z E F H vs ss) rfl rfl hr, ?_⟩
  refine tsOf_iff.mpr ⟨F, _, entry_rel a (by rw [hl]; exact hp), ?_⟩
  have ep : (G.entry z E F H vs ss).pins = ownIdx 0 ss := pins_fst 0 vs ss a.len
  rw [ep]
  unfold runF at h
  cases e : body (ownIdx 0 ss) (rho0 N.length ss) with
  | bad => rw [e] at h; exact h
  | exc c ρ' => rw [e] at h; exact fun σ' H' F' r' => h H' F' (entry_post a r')
  | ok fl ρ' =>
    rw [e] at h
    cases fl with
    | nx => exact fun σ' H' F' r' _ => h .non H' F' (entry_post a r') .non
    | bk => exact h.elim
    | ct => exact h.elim
    | rt y => exact fun v σ' H' F' r' q => h v H' F' (entry_post a r') (entry_ret a r' q)
/-! ### try .. except LineError as e: return which(e) -/
def rsd (c : Nat) : D := .tuple [.str (Str.ofString "raised"), .int (c : Nat)]
structure HotW (X : Cx) (z : Z) (m : FM) : Prop where
  ex : ∃ (cl : Addr) (k : Nat) (f : Addr) (fd : FuncData), X.mg (Str.ofString "LineError") = some (.ref cl) ∧ ExcAllP X.K cl z.cls ∧ X.mg (Str.ofString "_law_which") = some (.ref f) ∧ PySem.W.keepIn X.K (.ref f) = true ∧ Binds X.K fd [Str.ofString "e"] [] ∧ Room k X.A ∧ (∀ c, c < 10 → m [.e c] = .ret (.d (rsd c)) [.e c]) ∧
    ∀ a oe c, c < 10 → Zc (.ref (z.cls c)) none oe → (∃ vs, oe.data = .fields vs) → FnE X.prog X.w X.K X.mg X.base k f fd [Str.ofString "e"] (a, oe) (spF { z with ex := some (a, c) } 1 m)
def fTry (i : Nat) (body : Rho → R Fl) : Rho → R Fl := fun ρ => match body ρ with
  | .exc c ρ' => if c < 10 ∧ i < ρ'.length then .ok (.rt (.d (rsd c))) ρ' else .bad
  | r => r
section
variable {X : Cx} {g : G}
open L2H in
theorem pe_callE {k i : Nat} {f a : Addr} {oe : Obj} {pn : List (Addr × Obj)} {fd : FuncData} {n : Str} {sp : Sp} {x : Str} {p p1 pos : Pos} (F : FnE X.prog X.w X.K X.mg X.base k f fd [n] (a, oe) sp) (hr : Room k X.A) (hg : Gl X x) (hm : X.mg x = some (.ref f)) (hk : PySem.W.keepIn X.K (.ref f) = true) (hb : Binds X.K fd [n] [])
    {y : Str} (hN : X.N[i]? = some y) (hv : Vis X.env.scope y) (hd : (y == ("__debug__" : Str)) = false) (hcd : (y == ("__classdict__" : Str)) = false) (hdb : (x == ("__debug__" : Str)) = false) :
    PE (X.suite a ((a, oe) :: pn)) (.Call (.Name x p) [.Name y p1] [] pos) (tCallS sp (fun _ _ _ _ => False) (tCons (tVar i) tNil)) := by
  have hr' : RoomH k (X.suite a ((a, oe) :: pn)).A := ⟨hr.dp, hr.un⟩
  refine ⟨fun pins s σ H Q I h => ?_⟩
  refine wpAny_Call_Name_kw (ld_glob I hg hm ?_ hdb)
  have ha : PA (X.suite a ((a, oe) :: pn)) [.Name y p1] (tCons (tVar i) tNil) := pa_cons (pe_var hN hv hd hcd) pa_nil rfl
  refine PySem.W.callWith_K (h₀ := X.base) I.ok.mod.kin hk (thn (ha.run pos pins s σ H _ I h) fun us s1 ⟨vs, H1, I1, r, q⟩ => ⟨I1.kIn, ?_⟩) rfl rfl
  have hl : us.length = [n].length := by rw [← r.length]; exact F.len _ _ _ _ q
  have b := hb s1 us I1.kIn (by rw [List.append_nil]; exact hl)
  rw [List.append_nil] at b
  have P1 := I1.pin (a, oe) (List.mem_append_left _ List.mem_cons_self)
  have hpin : PinOk X.stack H1 s1 (a, oe) := ⟨P1.1, P1.2.1, fun hm => (List.mem_cons.mp (I1.stkSub a hm)).elim P1.2.2.1 P1.2.2.2.1, P1.2.2.2.2⟩
  refine wpAny_call (codeAny_mono (F.run _ X.stack s1 H1 us vs Q (fun _ _ _ => False) hr' hpin I1.env0 b r q) fun r s' hq => ?_)
  cases r with
  | error e =>
    obtain ⟨_, _, _, _, _, _, _, _, _, _, _, _, z⟩ := hq
    exact z.elim
  | ok fl =>
    cases fl with
    | ret u => exact I1.after hq
    | next => exact False.elim hq
    | brk => exact False.elim hq
    | cont => exact False.elim hq
theorem fs_try {m : FM} {i : Nat} {n : Str} {body : List Stmt} {np p p1 p2 p3 pos pos' : Pos} {f : Rho → R Fl} (hw : HotW X g.toZ m) (hs : X.stack = X.env :: X.outer) (hf : X.env.frame = some X.env.locals) (hN : X.N.Nodup) (hi : X.N[i]? = some n) (hln : X.env.scope.names.lookup n = some .local)
    (hd : (n == ("__debug__" : Str)) = false) (hcd : (n == ("__classdict__" : Str)) = false) (hgl : Gl X (Str.ofString "LineError")) (hgw : Gl X (Str.ofString "_law_which")) (tk : Takes X g.W)
    (hb : ∀ (W : WX) (pn : List (Addr × Obj)) (xe : Value → Shared → Prop), Takes (X.tr pn xe) W → PassesOwn (model X.prog X.w) X.A X.env xe → FSs (X.tr pn xe) { g with W := W } body f) :
    FS X g (.Try body [.ExceptHandler (some (.Name (Str.ofString "LineError") np)) (some n) [.Return (some (.Call (.Name (Str.ofString "_law_which") p) [.Name n p1] [] p2)) p3] pos'] [] [] pos) (fTry i f) := by
  obtain ⟨cl, k, fw, fd, h1, EA, h2, h3, h4, h5, h6, h7⟩ := hw.ex
  have hsu : ∀ (a : Addr) (oe : Obj) (cls : Value) (d : Option Addr) (pn : List (Addr × Obj)), Zc cls d oe → (∃ vs, oe.data = .fields vs) →
      PSs (X.suite a ((a, oe) :: pn)) [.Return (some (.Call (.Name (Str.ofString "_law_which") p) [.Name n p1] [] p2)) p3] (fun D σ H => ∃ c, c < 10 ∧ cls = .ref (g.cls c) ∧ d = none ∧ tRet (tCallS (spF { g.toZ with ex := some (a, c) } 1 m) (fun _ _ _ _ => False) (tCons (tVar i) tNil)) D σ H) := by
    intro a oe cls d pn hz hv
    refine ⟨fun pins s σ H D I ⟨c, hc, e1, e2, h⟩ => ?_⟩
    subst e1 e2
    exact (pss_one (ps_ret (pe_callE (h7 a oe c hc hz hv) h5 hgw h2 h3 h4 hi (.inl hln) hd hcd (by decide)))).run pins s σ H D I h
  refine PS.imp (ps_try_as hs hf hN hi hln ⟨hgl, by decide, .inl h1⟩ tk hb hsu) fun D σ H h => ?_
  obtain ⟨F, ρ, r, h⟩ := tsOf_iff.mp h
  refine tsOf_iff.mpr ⟨F, ρ, ⟨r.sub, r.len, r.slot, r.sep, r.pin, r.new, r.e1, r.e2, r.e3, r.e4⟩, ?_⟩
  have un : ∀ {W : WX} {F' ρ' σ' H'}, Rel { g with W := W } F' ρ' σ' H' → Rel g F' ρ' σ' H' := fun r' => ⟨r'.sub, r'.len, r'.slot, r'.sep, r'.pin, r'.new, r'.e1, r'.e2, r'.e3, r'.e4⟩
  unfold fTry at h
  cases e : f ρ with
  | bad => rw [e] at h; exact h
  | ok fl ρ1 =>
    rw [e] at h
    cases fl with
    | nx => exact fun σ' H' F' r' s' => h σ' H' F' (un r') s'
    | bk => exact fun σ' H' F' r' s' => h σ' H' F' (un r') s'
    | ct => exact fun σ' H' F' r' s' => h σ' H' F' (un r') s'
    | rt x => exact fun v σ' H' F' r' q => h v σ' H' F' (un r') (by cases x <;> exact q)
  | exc c ρ1 =>
    rw [e] at h
    simp only at h
    by_cases hcl : c < 10 ∧ i < ρ1.length
    · rw [if_pos hcl] at h
      obtain ⟨hc, hil⟩ := hcl
      intro σ1 H1 F1 r1
      have r1' := un r1
      refine ⟨true, (EA.one c hc).m, fun _ a na => ⟨c, hc, rfl, rfl, .ref a, ?_, rfl, F1, [.e c], ⟨r1'.sub, rfl, fun j s hj => ?_, fun j l b ne ⟨s, v, q1, q2, q3⟩ => ?_⟩, ?_⟩, fun z => nomatch z⟩
      · exact List.getElem?_set_self (by rw [← r1'.len]; exact hil)
      · cases j with
        | zero => simp at hj; subst hj; exact ⟨_, rfl, a, rfl, rfl⟩
        | succ j => simp at hj
      · cases j with
        | zero => simp at q1; subst q1; exact q3.elim
        | succ j => simp at q1
      · rw [h6 c hc]
        intro v H2 F2 po dv
        have xt : Ext F1 H1 F2 H2 := ⟨fun b o hb => po.keep b o hb fun ⟨j, s, u, q1, q2, q3⟩ => by
          cases j with
          | zero => simp at q1; subst q1; exact q3.elim
          | succ j => simp at q1, po.f, po.args.sub, po.cold⟩
        exact h v σ1 H2 F2 (r1'.ext xt) dv
    · rw [if_neg hcl] at h
      exact h.elim
end
end FL

namespace FL
open PySem L2 PyProof.Rows

/-! ### [f, g, ..][i](args) -/
/-- a def of the program, at the address f -/
structure CalAt (X : Cx) (z : Z) (n : Nat) (m : FM) (f : Addr) : Prop where
  ex : ∃ (k : Nat) (fd : FuncData) (ps : List Str), FnOk X.prog X.w X.K X.mg X.base (L2.CX X.prog X.w) k f fd ps (spF z n m) ∧ Room k X.A ∧ PySem.W.keepIn X.K (.ref f) = true ∧ Binds X.K fd ps []
inductive Globs (X : Cx) (z : Z) (n : Nat) : List Expr → List FM → List Addr → Prop
  | nil : Globs X z n [] [] []
  | cons {x : Str} {p : Pos} {es : List Expr} {m : FM} {ms : List FM} {f : Addr} {fs : List Addr} : Gl X x → X.mg x = some (.ref f) → (x == ("__debug__" : Str)) = false → CalAt X z n m f → Globs X z n es ms fs → Globs X z n (.Name x p :: es) (m :: ms) (f :: fs)
def tRefs (fs : List Addr) : TA := fun _ H Q => Q (fs.map V.ref) H
section
variable {X : Cx} {g : G}
theorem pa_globs {z : Z} {n : Nat} : ∀ {es : List Expr} {ms : List FM} {fs : List Addr}, Globs X z n es ms fs → PA X es (tRefs fs)
  | _, _, _, .nil => PA.imp pa_nil fun σ H Q h => h
  | _, _, _, .cons (f := f) a b c d e => PA.imp (pa_cons (pe_glob (v := .ref f) a b rfl c) (pa_globs e) rfl) fun σ H Q h => h
theorem Globs.at {z : Z} {n : Nat} : ∀ {es : List Expr} {ms : List FM} {fs : List Addr}, Globs X z n es ms fs → ∀ {j : Nat} {m : FM}, ms[j]? = some m → ∃ f, fs[j]? = some f ∧ CalAt X z n m f
  | _, _, _, .nil, j, m, h => by simp at h
  | _, _, _, .cons a b c d e, 0, m, h => by simp at h; subst h; exact ⟨_, rfl, d⟩
  | _, _, _, .cons a b c d e, j + 1, m, h => by
    obtain ⟨f, h1, h2⟩ := e.at (j := j) (by simpa using h)
    exact ⟨f, by simpa using h1, h2⟩
theorem Globs.len {z : Z} {n : Nat} : ∀ {es : List Expr} {ms : List FM} {fs : List Addr}, Globs X z n es ms fs → fs.length = ms.length ∧ ms.length = es.length
  | _, _, _, .nil => ⟨rfl, rfl⟩
  | _, _, _, .cons a b c d e => by obtain ⟨h1, h2⟩ := e.len; simp [h1, h2]
def fTab (ms : List FM) (fi : Rho → R W) (fas : Rho → R (List W)) : Rho → R W := fun ρ => if ms.length ≤ 1000 then (fi ρ).bind fun w ρ1 => match w with
  | .d (.int k) => (match atI ms k with
    | some m => fCall m fas ρ1
    | none => .bad)
  | _ => .bad else .bad
theorem fe_tab {n : Nat} {names : List Expr} {ms : List FM} {fs : List Addr} {ix e : Expr} {es : List Expr} {lp sp pos : Pos} {fi : Rho → R W} {fas : Rho → R (List W)} (G : Globs X g.toZ n names ms fs) (hi : FE X g ix fi) (ha : FA X g (e :: es) fas) (hn : ∀ ρ ws ρ1, fas ρ = .ok ws ρ1 → ws.length = n)
    (hs : PlainIx ix) (tk : Takes X g.W) (he : starEach (e :: es) X.env = (false, eval e X.env) :: starEach es X.env) (hpl : (backTo pos (starEach es X.env)).any (·.1) = false) :
    FE X g (.Call (.Subscript (.List names lp) ix sp) (e :: es) [] pos) (fTab ms fi fas) := by
  refine ⟨fun pins s σ H Q I h => ?_⟩
  obtain ⟨F, ρ, r, h⟩ := h
  show wpAny _ _ (do callWith pos (← eval (.Subscript (.List names lp) ix sp) X.env) [] (backTo pos (starEach (e :: es) X.env)) (backToKw pos (keywordEach [] X.env))) _ _ _
  unfold fTab at h
  by_cases hl : ms.length ≤ 1000
  · rw [if_pos hl] at h
    have hsub : PE X (.Subscript (.List names lp) ix sp) _ := pe_ix ix_list (pe_lst (pa_globs G)) hi hs
    refine wpAny_bind (thn (hsub.run pins s σ H (fun v H1 => ∃ f m, v = .ref f ∧ CalAt X g.toZ n m f ∧ tOf g (fCall m fas) σ H1 Q) I ?_) fun u s1 ⟨v, H1, I1, r1, f, m, ev, C, q⟩ => ?_)
    · refine ⟨by rw [List.length_map, G.len.1]; exact lim_ok (by omega), fun p hp => ?_⟩
      have xt : Ext F H F (upd H p (.lst (fs.map V.ref))) := .raw r.sub hp
      obtain ⟨h0, hno⟩ := r.fresh0 hp
      have hno' : ¬ Owned ρ σ (upd H p (.lst (fs.map V.ref))) p := fun q => hno (r.owned_upd q)
      refine ⟨F, ρ, r.ext xt, ?_⟩
      cases e1 : fi ρ with
      | bad => rw [e1] at h; exact h
      | exc c ρ' => rw [e1] at h; exact h
      | ok w ρ1 =>
        rw [e1] at h
        simp only [R.bind_ok] at h
        intro v H1 F1 r1 s1 w1
        cases w with
        | own j => exact h.elim
        | d x =>
          cases x with
          | int k =>
            simp only at h
            cases e2 : atI ms k with
            | none => rw [e2] at h; exact h.elim
            | some m =>
              rw [e2] at h
              cases w1
              have hH1 : H1 p = some (.lst (fs.map V.ref)) := s1.keep p _ upd_same hno'
              obtain ⟨j, hj, hm⟩ : ∃ j, ixN ms.length k = some j ∧ ms[j]? = some m := by
                unfold atI at e2
                exact Option.bind_eq_some_iff.mp e2
              obtain ⟨f, hf, C⟩ := G.at hm
              have hat : atI (fs.map V.ref) k = some (.ref f) := by
                unfold atI
                rw [List.length_map, G.len.1, hj]
                show (fs.map V.ref)[j]? = _
                rw [List.getElem?_map, hf]
                rfl
              exact ⟨p, _, k, .ref f, rfl, rfl, SqL.of hH1, hat, f, m, rfl, C, tOf_from r1 ((r.frm xt).trans s1) h⟩
          | none => exact h.elim
          | bool _ => exact h.elim
          | str _ => exact h.elim
          | list _ => exact h.elim
          | tuple _ => exact h.elim
          | dict _ => exact h.elim
    · subst ev
      cases r1
      obtain ⟨k, fd, ps, C1, C2, C3, C4⟩ := C.ex
      have q' := call_imp (n := n) hn σ H1 Q q
      refine PySem.W.callWith_K (h₀ := X.base) I.ok.mod.kin C3 (thn (ha.run pos pins s1 σ H1 _ I1 q') fun us s2 ⟨vs, H2, I2, r2, q2⟩ => ⟨I2.kIn, ?_⟩) he hpl
      exact run_fnS C1 C2 C4 (passAt tk σ) I2 r2 q2
  · rw [if_neg hl] at h
    exact h.elim
end
/-! ### f() -/
def fCall0 (m : FM) : Rho → R W := fun ρ => match m [] with
  | .ret (.d x) _ => .ok (.d x) ρ
  | .exc c _ => .exc c ρ
  | _ => .bad
section
variable {X : Cx} {g : G}
theorem fe_call0 {m : FM} {f : Addr} {x : Str} {p pos : Pos} (C : CalAt X g.toZ 0 m f) (hg : Gl X x) (hm : X.mg x = some (.ref f)) (hdb : (x == ("__debug__" : Str)) = false) (tk : Takes X g.W) : FE X g (.Call (.Name x p) [] [] pos) (fCall0 m) := by
  obtain ⟨k, fd, ps, C1, C2, C3, C4⟩ := C.ex
  refine ⟨fun pins s σ H Q I h => ?_⟩
  obtain ⟨F, ρ, r, h⟩ := h
  refine wpAny_Call_Name_kw (ld_glob I hg hm ?_ hdb)
  refine PySem.W.callWith_K0 (first := []) I.kIn C3 ?_
  refine run_fnS C1 C2 C4 (passAt tk σ) I .nil (us := []) (vs := []) ?_
  refine ⟨rfl, F, [], ⟨r.sub, rfl, fun i s e => by simp at e, fun i j a ne ⟨s, v, q1, _⟩ => by simp at q1⟩, ?_⟩
  have back : ∀ {F' H' ss'}, Post g.toZ F H [] [] F' H' ss' → Ext F H F' H' := fun po => ⟨fun b o hb => po.keep b o hb fun ⟨j, s, u, q1, _⟩ => by simp at q1, po.f, po.args.sub, po.cold⟩
  unfold fCall0 at h
  cases em : m [] with
  | bad => rw [em] at h; exact h
  | exc c ss' =>
    rw [em] at h
    exact fun H' F' po => h H' F' (r.ext (back po))
  | ret x ss' =>
    rw [em] at h
    cases x with
    | d y => exact fun v H' F' po d => h v H' F' (r.ext (back po)) (r.frm (back po)) d
    | l _ => exact h.elim
    | m _ => exact h.elim
    | t _ _ _ => exact h.elim
    | e _ => exact h.elim
    | z _ => exact h.elim
end
/-! ### while -/
section
variable {X : Cx} {g : G}
theorem fs_while {c : Expr} {body : List Stmt} {pos : Pos} {fc : Rho → R Bool} {fb : Rho → R Fl} {n : Nat} (hp : PassesOwn (model X.prog X.w) X.A X.env X.xe) (hc : FT X g c fc) (hb : FSs X g body fb) : FS X g (.While c body [] pos) (whileF fc fb n) :=
  PS.imp (ps_while hp hc hb) while_imp
end
end FL

namespace FL
open PySem PySem.Spec PyProof.Rows HT
section
variable {prog : Program} {w : World} {A : Around} {E : Value → Shared → Prop} {s : Shared}
theorem adj_rev (n : Nat) : Builtin.Slice.sliceAdjust none none (-1) (n : Int) = ((n : Int) - 1, -1) := by
  unfold Builtin.Slice.sliceAdjust
  simp
theorem places_rev (n : Nat) : Builtin.Slice.slicePlaces ((n : Int) - 1) (-1) (-1) = n := by
  unfold Builtin.Slice.slicePlaces
  rw [if_neg (by decide)]
  by_cases h : n = 0
  · subst h
    rfl
  · rw [if_pos (by omega), show (- -1 : Int) = 1 from rfl, Int.ediv_one]
    omega
theorem pick_rev (xs : Array Value) : ((List.range xs.size).filterMap fun (m : Nat) => xs[(((xs.size : Int) - 1) + (m : Int) * (-1)).toNat]?).toArray = xs.toList.reverse.toArray := by
  congr 1
  apply List.ext_getElem?
  intro i
  by_cases hi : i < xs.size
  · have e : ∀ l : List Nat, (∀ m ∈ l, m < xs.size) → (l.filterMap fun (m : Nat) => xs[(((xs.size : Int) - 1) + (m : Int) * (-1)).toNat]?) = l.map fun m => xs.toList.getD (xs.size - 1 - m) .none := by
      intro l hl
      induction l with
      | nil => rfl
      | cons m l ih =>
        have hm := hl m (.head _)
        have ix : (((xs.size : Int) - 1) + (m : Int) * (-1)).toNat = xs.size - 1 - m := by omega
        have g : xs[xs.size - 1 - m]? = some (xs.toList.getD (xs.size - 1 - m) .none) := by
          have hlt : xs.size - 1 - m < xs.size := by omega
          rw [Array.getElem?_eq_getElem hlt]
          simp [List.getD, hlt]
        rw [List.filterMap_cons, ix, g]
        simp only
        rw [ih fun k hk => hl k (.tail _ hk), List.map_cons]
    rw [e _ fun m hm => List.mem_range.mp hm, List.getElem?_map, List.getElem?_range hi, List.getElem?_reverse (by simpa using hi)]
    have hlt : xs.size - 1 - i < xs.size := by omega
    simp [List.getD, hlt]
  · have h1 : ((List.range xs.size).filterMap fun (m : Nat) => xs[(((xs.size : Int) - 1) + (m : Int) * (-1)).toNat]?).length ≤ xs.size := by
      refine Nat.le_trans (List.length_filterMap_le _ _) ?_
      rw [List.length_range]
      exact Nat.le_refl _
    rw [List.getElem?_eq_none (by omega), List.getElem?_eq_none (by simp; omega)]
theorem applied_rev {sl : Addr} {vk : Value} {n : Nat} {Q : Int × Int × Nat → Shared → Prop} (hs : s.heap.IsSliceOf sl .none .none vk) (pk : IsPart vk (some (-1))) (h : Q ((n : Int) - 1, -1, n) s) : wpAny (model prog w) A (Builtin.Slice.sliceApplied (.ref sl) (pure (n : Int))) Q E s := by
  obtain ⟨o, h1, h2, h3⟩ := id hs
  unfold Builtin.Slice.sliceApplied Builtin.Slice.sliceFields
  refine wpAny_bind (wpAny_bind (wpAny_field h1 h3 (x := .none) rfl (wpAny_bind (wpAny_field h1 h3 (x := .none) rfl (wpAny_bind (wpAny_field h1 h3 (x := vk) rfl (wpAny_pure ?_)))))))
  refine wpAny_bind (slicePart_ pk ?_)
  show wpAny _ _ (if ((-1 : Int) == 0) = true then _ else _) _ _ s
  rw [if_neg (by decide)]
  refine wpAny_bind (slicePart_none (wpAny_bind (slicePart_none (wpAny_bind (wpAny_pure ?_)))))
  show wpAny _ _ (match Builtin.Slice.sliceAdjust none none (-1) (n : Int) with | (lo, hi) => pure (lo, (-1 : Int), Builtin.Slice.slicePlaces lo hi (-1))) _ _ s
  rw [adj_rev]
  show wpAny _ _ (pure ((n : Int) - 1, (-1 : Int), Builtin.Slice.slicePlaces ((n : Int) - 1) (-1) (-1))) _ _ s
  rw [places_rev]
  exact wpAny_pure h
theorem getItem_rev {t sl : Addr} {items : Array Value} {vk : Value} {Q : Value → Shared → Prop} (ht : IsTup s.heap t items) (hs : s.heap.IsSliceOf sl .none .none vk) (pk : IsPart vk (some (-1))) (hz : items.size ≤ sizeLine)
    (h : Q (.ref s.heap.objs.size) { s with heap := s.heap.push { cls := .type "tuple", data := .seq items.toList.reverse.toArray } }) : wpAny (model prog w) A (getItem (.ref t) (.ref sl)) Q E s := by
  have fit : sizeOk (.seq items.toList.reverse.toArray) := by
    show items.toList.reverse.toArray.size ≤ sizeLine
    simpa using hz
  obtain ⟨o, h1, h2, h3⟩ := id hs
  have ty : s.TypeIs (.ref sl) "slice" := ⟨o, h1, h2⟩
  unfold getItem
  try with_reducible refine wpAny_holding ?_
  first | refine wpAny_bind (wpAny_pure ?_) | skip
  refine wpAny_bind (wpAny_sequenceKey ht.typeIs (by decide) ?_)
  refine wpAny_bind (wpAny_callSpecial?_slot (name := Str.ofString "__getitem__") ht.typeIs slot_tuple_getitem (wpAny_call_entry slot_tuple_getitem ht.typeIs entry_tuple_getitem ?_ (args_tuple_getitem _ _)))
  refine wpAny_bind (m := Builtin.Tuple.tupleItemsOf (.ref t)) (tupleItemsOf_ ht (wpAny_bind (wpAny_typeOf ty ?_)))
  rw [if_pos (by decide)]
  refine wpAny_bind (applied_rev (n := items.size) hs pk ?_)
  have no : ¬ (((((items.size : Int) - 1 == 0) && ((-1 : Int) == 1)) && items.size == items.size) = true) := by simp
  show wpAny _ _ (if ((((items.size : Int) - 1 == 0) && ((-1 : Int) == 1)) && items.size == items.size) = true then _ else _) _ _ s
  rw [if_neg no, pick_rev]
  first
    | exact wpAny_bind (m := Builtin.Tuple.tupleExact _) (wpAny_newObj_type (wpAny_pure ⟨_, rfl, wpAny_pure h⟩) fit)
    | exact wpAny_bind (m := Builtin.Tuple.tupleExact _) (wpAny_newObj_type (wpAny_bind (wpAny_pure (wpAny_pure ⟨_, rfl, wpAny_pure h⟩))) fit)
    | exact wpAny_bind (wpAny_bind (m := Builtin.Tuple.tupleExact _) (wpAny_newObj_type (wpAny_pure (wpAny_pure ⟨_, rfl, wpAny_pure h⟩)) fit))
    | exact wpAny_bind (wpAny_bind (m := Builtin.Tuple.tupleExact _) (wpAny_newObj_type (wpAny_pure ⟨_, rfl, wpAny_pure h⟩) fit))
end
section
open L2
variable {X : Cx} {g : G}
def tRev (K : PySem.W.Frag) (te : TE) (tk : TO) : TE := fun σ H Q => te σ H fun x H1 => tk σ H1 fun k H2 => k = some (-1) ∧ ∃ a xs, x = .ref a ∧ SqT K H2 a xs ∧ ∀ p, H2 p = none → Q (.ref p) (upd H2 p (.tup xs.reverse))
theorem vals_rev : ∀ {xs : List V} {us : List Value}, Vals xs us → Vals xs.reverse us.reverse
  | _, _, .nil => .nil
  | _, _, .cons (a := x) (b := u) (l₁ := xs) (l₂ := us) h t => by
    rw [List.reverse_cons, List.reverse_cons]
    exact (vals_rev t).append (.cons h .nil)
theorem pe_rev {e st : Expr} {p2 pos : Pos} {te : TE} {tk : TO} (he : PE X e te) (hk : PO X (some st) tk) : PE X (.Subscript e (.Slice none none (some st) p2) pos) (tRev X.K te tk) := by
  refine ⟨fun pins s σ H Q I h => ?_⟩
  refine Subscript_ (thn (he.run pins s σ H _ I h) fun v s1 ⟨x, H1, I1, r1, q1⟩ => ?_)
  refine wpAny_Slice (thn (po_none.run pins s1 σ H1 (fun l H2 => l = none ∧ H2 = H1) I1 ⟨rfl, rfl⟩) fun vl s2 ⟨l, H2, I2, pl, q2⟩ => thn (po_none.run pins s2 σ H2 (fun l H3 => l = none ∧ H3 = H2) I2 ⟨rfl, rfl⟩) fun vu s3 ⟨u, H3, I3, pu, q3⟩ => ?_)
  obtain ⟨rfl, rfl⟩ := q2
  obtain ⟨rfl, rfl⟩ := q3
  refine thn (hk.run pins s3 σ H3 _ I3 q1) fun vk s4 ⟨k, H4, I4, pk, q4⟩ => ?_
  obtain ⟨rfl, a, xs, rfl, hT, q⟩ := q4
  cases pl
  cases pu
  cases r1
  let s5 : Shared := { s4 with heap := s4.heap.push { cls := .type "slice", data := .fields #[.none, .none, vk] } }
  have I5 : Inv X pins σ H4 s5 := I4.kept (t' := s4.toks) fun b ob z => Heap.get?_push_of_some _ z
  obtain ⟨its, rv, ht, hz⟩ := I5.tuple hT
  have hn : H4 s5.heap.objs.size = none := I5.hok.fresh (Nat.le_refl _)
  have gi : wpAny (model X.prog X.w) X.A (getItem (.ref a) (.ref s4.heap.objs.size)) (EP X pins σ Q) X.xe s5 := by
    refine getItem_rev ht (Heap.IsSliceOf.new ..) pk (by rw [List.size_toArray, ← rv.length]; exact hz) ?_
    refine ⟨.ref s5.heap.objs.size, _, I5.laid (t' := s5.toks) (o := .tup xs.reverse) (fun b ob z => Heap.get?_push_of_some _ z) (Nat.le_refl _) ?_, rfl, q _ hn⟩
    refine ⟨by rw [List.length_reverse]; exact hz, its.reverse, vals_rev rv, ?_⟩
    rw [List.toList_toArray]
    exact IsTup.new _ _
  show wpAny (model X.prog X.w) X.A (subscriptTail e (.Slice none none (some st) p2) (.ref a) (.ref s4.heap.objs.size)) (EP X pins σ Q) X.xe s5
  exact tail_any (ops := [.ref a, .ref s4.heap.objs.size]) ht.typeIs slot_tuple_getitem.lookup gi (by with_unfolding_all rfl)
def fRev (fa : Rho → R W) (fk : Rho → R (Option Int)) : Rho → R W := fun ρ => (fa ρ).bind fun w ρ1 => (fk ρ1).bind fun k ρ2 => if k = some (-1) then (match look ρ2 w with
  | some (.tuple xs) => .ok (.d (.tuple xs.reverse)) ρ2
  | _ => .bad) else .bad
theorem dvAll_snoc {F : Hp} : ∀ {vs : List V} {ds : List D} {v : V} {d : D}, DvAll F vs ds → Dv F v d → DvAll F (vs ++ [v]) (ds ++ [d])
  | _, _, _, _, .nil, h => .cons h .nil
  | _, _, _, _, .cons a b, h => .cons a (dvAll_snoc b h)
theorem dvAll_rev {F : Hp} : ∀ {vs : List V} {ds : List D}, DvAll F vs ds → DvAll F vs.reverse ds.reverse
  | _, _, .nil => .nil
  | _, _, .cons a b => by
    rw [List.reverse_cons, List.reverse_cons]
    exact dvAll_snoc (dvAll_rev b) a
theorem fe_rev {e st : Expr} {p2 pos : Pos} {fa : Rho → R W} {fk : Rho → R (Option Int)} (hK : X.K = g.K) (ha : FE X g e fa) (hk : FO X g (some st) fk) : FE X g (.Subscript e (.Slice none none (some st) p2) pos) (fRev fa fk) := by
  refine PE.imp (pe_rev ha hk) ?_
  rintro σ H Q ⟨F, ρ, r, h⟩
  refine ⟨F, ρ, r, ?_⟩
  unfold fRev at h
  cases e1 : fa ρ with
  | bad => rw [e1] at h; exact h
  | exc c ρ' => rw [e1] at h; exact h
  | ok w ρ1 =>
    rw [e1] at h
    simp only [R.bind_ok] at h
    intro v H1 F1 r1 s1 w1
    refine ⟨F1, ρ1, r1, ?_⟩
    cases e2 : fk ρ1 with
    | bad => rw [e2] at h; exact h
    | exc c ρ' => rw [e2] at h; exact h
    | ok k ρ2 =>
      rw [e2] at h
      simp only [R.bind_ok] at h
      intro H2 F2 r2 s2
      by_cases hk1 : k = some (-1)
      · rw [if_pos hk1] at h
        refine ⟨hk1, ?_⟩
        cases e3 : look ρ2 w with
        | none => rw [e3] at h; exact h.elim
        | some x =>
          rw [e3] at h
          cases x with
          | tuple xs =>
            simp only at h
            have dq := r2.look (w1.mono s2.f) e3
            obtain ⟨a, vs, rfl, h1, a1⟩ := dq.tup r2.sub
            refine ⟨a, vs, rfl, .inl h1, fun p hp => ?_⟩
            have xt : Ext F2 H2 (upd F2 p (.tup vs.reverse)) (upd H2 p (.tup vs.reverse)) := .new r2.sub hp
            exact h _ _ _ (r2.ext xt) ((s1.trans s2).trans (r2.frm xt)) (mkT r2.sub hp (dvAll_rev a1))
          | _ => exact h.elim
      · rw [if_neg hk1] at h
        exact h.elim
end
end FL

namespace FL
open PySem L2 PyProof.Rows

/-! ### what is known of a body before it runs -/
structure SC where
  N : List Str
  sc : Scope
  all : Bool
  orig : Scope
  cal : List (Str × Nat × FM)
  exc : List (Str × Nat)
  calm : Bool
  dn : List Str
  tr : Option FM
def SC.fn (c : SC) (x : Str) : Bool := c.all || c.orig.names.lookup x == some .cell
def ixOf (x : Str) : List Str → Option Nat
  | [] => none
  | y :: ys => if x = y then some 0 else (ixOf x ys).map (· + 1)
theorem ixOf_get {x : Str} : ∀ {N : List Str} {i : Nat}, ixOf x N = some i → N[i]? = some x
  | [], _, h => by cases h
  | y :: ys, i, h => by
    unfold ixOf at h
    split at h
    · rename_i e
      cases h
      rw [e]
      rfl
    · obtain ⟨j, hj, rfl⟩ := Option.map_eq_some_iff.mp h
      simpa using ixOf_get hj
def visB (sc : Scope) (x : Str) : Bool := match sc.names.lookup x with
  | some .local => true
  | some .cell => true
  | some .free => true
  | _ => false
def locB (sc : Scope) (x : Str) : Bool := match sc.names.lookup x with
  | some .local => true
  | some .cell => true
  | _ => false
def lclB (sc : Scope) (x : Str) : Bool := match sc.names.lookup x with
  | some .local => true
  | _ => false
def glB (sc : Scope) (x : Str) : Bool := match sc.names.lookup x with
  | some .globalImplicit => true
  | _ => false
theorem visB_ok {sc : Scope} {x : Str} (h : visB sc x = true) : Vis sc x := by
  unfold visB at h
  split at h
  · rename_i e; exact .inl e
  · rename_i e; exact .inr (.inl e)
  · rename_i e; exact .inr (.inr e)
  · cases h
theorem locB_ok {sc : Scope} {x : Str} (h : locB sc x = true) : Loc sc x := by
  unfold locB at h
  split at h
  · rename_i e; exact .inl e
  · rename_i e; exact .inr e
  · cases h
theorem lclB_ok {sc : Scope} {x : Str} (h : lclB sc x = true) : sc.names.lookup x = some .local := by
  unfold lclB at h
  split at h
  · rename_i e; exact e
  · cases h
theorem glB_ok {sc : Scope} {x : Str} (h : glB sc x = true) : sc.names.lookup x = some .globalImplicit := by
  unfold glB at h
  split at h
  · rename_i e; exact e
  · cases h
def plainN (x : Str) : Bool := !(x == ("__debug__" : Str)) && !(x == ("__classdict__" : Str))
theorem plainN_ok {x : Str} (h : plainN x = true) : (x == ("__debug__" : Str)) = false ∧ (x == ("__classdict__" : Str)) = false := by
  unfold plainN at h
  rw [Bool.and_eq_true] at h
  exact ⟨by simpa using h.1, by simpa using h.2⟩
/-- the slot of a name that is read -/
def rdIx (c : SC) (x : Str) : Option Nat := if visB c.sc x = true ∧ plainN x = true then ixOf x c.N else none
/-- the slot of a name that is written -/
def wrIx (c : SC) (x : Str) : Option Nat := if locB c.sc x = true ∧ (c.fn x || lclB c.sc x) = true then ixOf x c.N else none
def bnames : List Str := ["len", "list", "tuple", "all", "sum", "min", "max", "sorted", "isinstance", "int", "bool", "str", "set", "range", "enumerate", "zip", "ValueError"]
structure Callee (X : Cx) (z : Z) (x : Str) (n : Nat) (m : FM) : Prop where
  ex : ∃ (k : Nat) (f : Addr) (fd : FuncData) (ps : List Str), FnOk X.prog X.w X.K X.mg X.base (L2.CX X.prog X.w) k f fd ps (spF z n m) ∧ Room k X.A ∧ X.mg x = some (.ref f) ∧ PySem.W.keepIn X.K (.ref f) = true ∧ Binds X.K fd ps []
/-- an exception class of the program, by its number -/
structure ExcAt (K : PySem.W.Frag) (mg : Str → Option Value) (z : Z) (x : Str) (n : Nat) : Prop where
  gC : mg x = some (.ref (z.cls n))
  lt : n < 10
  one : ∃ cl, ExcOne K cl (z.cls n)
structure Okx (c : SC) (X : Cx) (g : G) : Prop where
  N : X.N = c.N
  nd : X.N.Nodup
  sc : X.env.scope = c.sc
  kd : X.env.scope.kind = .function
  fn : ∀ x, c.fn x = true → X.fn x = true
  calm : c.calm = true → X.calm = true
  prog : g.prog = X.prog
  wd : g.wd = X.w
  err : c.calm = false → ErrAt X g.toZ
  hot : ∀ m, c.tr = some m → HotW X g.toZ m
  K : X.K = g.K
  un : X.A.units + 65 < cLine
  bn : ∀ x, bnames.contains x = true → X.mg x = none
  cal : ∀ x n m, (x, n, m) ∈ c.cal → Callee X g.toZ x n m
  exc : ∀ x n, (x, n) ∈ c.exc → ExcAt X.K X.mg g.toZ x n
  tk : Takes X g.W
structure Pas (X : Cx) : Prop where
  po : PassesOwn (model X.prog X.w) X.A X.env X.xe
  stk : X.stack = X.env :: X.outer
  frm : X.env.frame = some X.env.locals
section
variable {c : SC} {X : Cx} {g : G}
theorem Okx.gl (o : Okx c X g) {x : Str} (h : glB c.sc x = true) : Gl X x := by
  show X.env.scope.names.lookup x = _
  rw [o.sc]
  exact glB_ok h
theorem Okx.rd (o : Okx c X g) {x : Str} {i : Nat} (h : rdIx c x = some i) : X.N[i]? = some x ∧ Vis X.env.scope x ∧ (x == ("__debug__" : Str)) = false ∧ (x == ("__classdict__" : Str)) = false := by
  unfold rdIx at h
  split at h
  · rename_i hc
    refine ⟨by rw [o.N]; exact ixOf_get h, by rw [o.sc]; exact visB_ok hc.1, plainN_ok hc.2⟩
  · cases h
theorem Okx.wr (o : Okx c X g) {x : Str} {i : Nat} (h : wrIx c x = some i) : X.N[i]? = some x ∧ Loc X.env.scope x ∧ (X.fn x = true ∨ X.env.scope.names.lookup x = some .local) := by
  unfold wrIx at h
  split at h
  · rename_i hc
    refine ⟨by rw [o.N]; exact ixOf_get h, by rw [o.sc]; exact locB_ok hc.1, ?_⟩
    have h2 := hc.2
    rw [Bool.or_eq_true] at h2
    rcases h2 with h2 | h2
    · exact .inl (o.fn x h2)
    · exact .inr (by rw [o.sc]; exact lclB_ok h2)
  · cases h
theorem pinO_Z {q : Option (Nat × Addr)} : (g.pinO q).toZ = g.toZ := by cases q <;> rfl
theorem Okx.pinO (o : Okx c X g) (q : Option (Nat × Addr)) : Okx c X (g.pinO q) where
  N := o.N
  nd := o.nd
  sc := o.sc
  kd := o.kd
  fn := o.fn
  calm := o.calm
  prog := by rw [show (g.pinO q).prog = g.prog from congrArg Z.prog (pinO_Z (g := g) (q := q))]; exact o.prog
  wd := by rw [show (g.pinO q).wd = g.wd from congrArg Z.wd (pinO_Z (g := g) (q := q))]; exact o.wd
  err := by rw [pinO_Z]; exact o.err
  hot := by rw [pinO_Z]; exact o.hot
  K := by rw [pinO_K]; exact o.K
  un := o.un
  bn := o.bn
  cal := by rw [pinO_Z]; exact o.cal
  exc := by rw [pinO_Z]; exact o.exc
  tk := by rw [pinO_W]; exact o.tk
def relabelS (scope sc : Scope) : Scope := { scope with names := scope.names.map fun (n, k) => if (k == .free && sc.kind == .function && sc.names.lookup n == some .cell) then (n, .cell) else (n, k) }
theorem relabel_eq (scope : Scope) (env : Env) : relabel scope env = relabelS scope env.scope := rfl
def SC.blk (c : SC) (scope : Scope) : SC := { c with sc := relabelS scope c.sc, all := false, orig := scope, tr := none }
theorem Okx.blk (o : Okx c X g) (hcalm : c.calm = true) {scope : Scope} (hk : scope.kind = .function) (s : Shared) (H : Hp) (C : Addr) (cl : List (Str × Addr)) (fp : List Addr) : Okx (c.blk scope) (X.blk s H scope (compEnvC scope cl C X.env) fp) g.blk where
  N := o.N
  nd := o.nd
  sc := by
    show relabel scope X.env = relabelS scope c.sc
    rw [relabel_eq, o.sc]
  kd := hk
  fn := fun x h => by simpa [SC.fn, SC.blk] using h
  calm := o.calm
  prog := o.prog
  wd := o.wd
  err := fun h => absurd (hcalm.symm.trans h) (by decide)
  hot := fun m h => by cases h
  K := o.K
  un := o.un
  bn := o.bn
  cal := fun x n m h => ⟨(o.cal x n m h).ex⟩
  exc := o.exc
  tk := fun u s' ⟨a, B, sI, pins, σ, H, cls, d, e, I, nb, up, sky, na, os, ag, w⟩ => w.elim
theorem Okx.tr (o : Okx c X g) (hcalm : c.calm = true) (W : WX) (pn : List (Addr × Obj)) (xe : Value → Shared → Prop) (tk : Takes (X.tr pn xe) W) : Okx c (X.tr pn xe) { g with W := W } where
  N := o.N
  nd := o.nd
  sc := o.sc
  kd := o.kd
  fn := o.fn
  calm := o.calm
  prog := o.prog
  wd := o.wd
  err := fun h => absurd (hcalm.symm.trans h) (by decide)
  hot := fun m h => ⟨(o.hot m h).ex⟩
  K := o.K
  un := o.un
  bn := o.bn
  cal := fun x n m h => ⟨(o.cal x n m h).ex⟩
  exc := o.exc
  tk := tk
end
/-! ### syntax that is plain -/
def notStar : Expr → Bool
  | .Starred .. => false
  | _ => true
theorem star_cons {e : Expr} {es : List Expr} {env : Env} (h : notStar e = true) : starEach (e :: es) env = (false, eval e env) :: starEach es env := by
  cases e <;> first | rfl | cases h
theorem star_any {pos : Pos} {env : Env} : ∀ {es : List Expr}, es.all notStar = true → (backTo pos (starEach es env)).any (·.1) = false
  | [], _ => rfl
  | e :: es, h => by
    rw [List.all_cons, Bool.and_eq_true] at h
    rw [star_cons h.1]
    exact star_any (es := es) h.2
def notSlice : Expr → Bool
  | .Slice .. => false
  | _ => true
theorem plain_ix {b : Expr} (h : notSlice b = true) : PlainIx b := by
  intro o i
  cases b <;> first | rfl | cases h
def notComp : Expr → Bool
  | .ListComp .. => false
  | .SetComp .. => false
  | .DictComp .. => false
  | _ => true
theorem no_swap {e : Expr} {t : Option Expr} {n : Nat} {env : Env} (h : notComp e = true) : swapsWith e t n env = pure false := by
  cases e <;> first | rfl | cases h
def notSet : Expr → Bool
  | .Set .. => false
  | _ => true
/-! ### the compiler -/
structure CF where
  E : SC → Expr → Option (Rho → R W)
  A : SC → List Expr → Option (Rho → R (List W))
  T : SC → Expr → Option (Rho → R Bool)
  I : SC → Expr → Expr → Option (Rho → R (List D × Dep))
  S : SC → Stmt → Option (List Nat → Rho → R Fl)
  B : SC → List Stmt → Option (List Nat → Rho → R Fl)
def cConst : Const → Option (Rho → R W)
  | .int i => some (fD (.int i))
  | .bool b => some (fD (.bool b))
  | .none => some (fD .none)
  | .str x => some (fD (.str x))
  | _ => none
def cBin : Operator → Option (D → D → Option D)
  | .Add => some addD
  | .Sub => some subD
  | .Mult => some mulD'
  | .FloorDiv => some fdivD
  | .Mod => some modD
  | .Pow => some powD
  | _ => none
def cCmp : CmpOp → Option (D → D → Option D)
  | .Eq => some eqD
  | .NotEq => some neD
  | .Lt => some ltD
  | .LtE => some leD
  | .Gt => some gtD
  | .GtE => some geD
  | .In => some inD
  | .NotIn => some notInD
  | .Is => some isD
  | .IsNot => some isNotD
def sBool (r : CF) (c : SC) (op : BoolOp) : List Expr → Option (Rho → R W)
  | [] => none
  | [a] => r.E c a
  | a :: rest => (r.E c a).bind fun fa => (sBool r c op rest).bind fun fb => match op with
    | .And => some (fAnd fa fb)
    | .Or => some (fOr fa fb)
def sTBool (r : CF) (c : SC) (op : BoolOp) : List Expr → Option (Rho → R Bool)
  | [] => none
  | [a] => r.T c a
  | a :: rest => (r.T c a).bind fun fa => (sTBool r c op rest).bind fun fb => match op with
    | .And => some (tfAnd fa fb)
    | .Or => some (tfOr fa fb)
def scriptIx (c : SC) : Expr → Option Nat
  | .Name x _ => if x = "script" then rdIx c x else none
  | _ => none
/-- the slot of a name that holds a dict -/
def dictIx (c : SC) : Expr → Option Nat
  | .Name x _ => if c.dn.contains x = true then rdIx c x else none
  | _ => none
def nilL : Expr → Bool
  | .List [] _ => true
  | _ => false
/-- a comparison -/
def sCmp (r : CF) (c : SC) (a : Expr) (ops : List CmpOp) (cs : List Expr) : Option (Rho → R W) := match ops, cs with
  | [op], [b] => (match scriptIx c a, dictIx c b with
    | some i, _ => if op = .Eq ∧ nilL b = true then some (fZnil i) else none
    | none, some i => if op = .In then (r.E c a).map (fDin false i) else if op = .NotIn then (r.E c a).map (fDin true i) else none
    | none, none => (cCmp op).bind fun o => (r.E c a).bind fun fa => (r.E c b).bind fun fb => if behindInMarks op b = false then some (fBin o fa fb) else none)
  | [op, op'], [b, d] => (cCmp op).bind fun o => (cCmp op').bind fun o' => (r.E c a).bind fun fa => (r.E c b).bind fun fb => (r.E c d).bind fun fd => if lastMarks [op, op'] [b, d] = false then some (fChain o o' fa fb fd) else none
  | _, _ => none
def sPart (r : CF) (c : SC) : Option Expr → Option (Rho → R (Option Int))
  | none => some fNoPart
  | some e => (r.E c e).map fPart
def sSub (r : CF) (c : SC) (a b : Expr) : Option (Rho → R W) := match b with
  | .Slice lo hi st _ => (match st with
    | none => (r.E c a).bind fun fa => (sPart r c lo).bind fun fl => (sPart r c hi).bind fun fh => some (fSl fa fl fh)
    | some k => (match lo, hi with
      | none, none => (r.E c a).bind fun fa => (r.E c k).map fun fk => fRev fa (fPart fk)
      | _, _ => none))
  | b => if notSlice b = true then (match scriptIx c a with
    | some i => (r.E c b).map (fZidx i)
    | none => (r.E c a).bind fun fa => (r.E c b).bind fun fb => some (fBin idxD fa fb)) else none
def bCall (calm : Bool) (x : Str) : Option (List D → Option D) :=
  if x = "len" then some lenD else if x = "list" then some listD else if x = "tuple" then some tupleD else if x = "sorted" then some sortD else if calm = true then
    (if x = "all" then some allD else if x = "sum" then some sumD else if x = "min" then some minLD else if x = "max" then some maxD else none) else none
def tyOf (t : Str) : Option Ty := if t = "int" then some .int else if t = "bool" then some .bool else if t = "tuple" then some .tuple else if t = "str" then some .str else if t = "list" then some .list else none
def nameOf : Expr → Option Str
  | .Name x _ => some x
  | _ => none
def excOf (x : Str) : List (Str × Nat) → Option Nat
  | [] => none
  | (y, n) :: r => if x = y then some n else excOf x r
/-- isinstance of the caught error -/
def sIsE (c : SC) : List Expr → Option (Rho → R W)
  | [.Name y _, .Name t _] => (rdIx c y).bind fun i => if glB c.sc t = true ∧ glB c.sc "isinstance" = true ∧ plainN t = true then (if t = "ValueError" then some (fIsE none i) else (excOf t c.exc).map fun k => fIsE (some k) i) else none
  | _ => none
def sIsi (r : CF) (c : SC) : List Expr → Option (Rho → R W)
  | [e, .Name t _] => (tyOf t).bind fun T => if glB c.sc t = true ∧ glB c.sc "isinstance" = true ∧ notStar e = true then (r.E c e).map (fIsi T) else none
  | _ => none
def setArg : Expr → Option Expr
  | .Call (.Name s _) [b] [] _ => if s = "set" then some b else none
  | _ => none
def scriptArg (c : SC) : List Expr → Option Nat
  | [a] => scriptIx c a
  | _ => none
def dictArg (c : SC) : List Expr → Option Nat
  | [a] => dictIx c a
  | _ => none
def setArgs : List Expr → Option Expr
  | [a] => setArg a
  | _ => none
def calOf (x : Str) : List (Str × Nat × FM) → Option (Nat × FM)
  | [] => none
  | (y, nm) :: r => if x = y then some nm else calOf x r
def isNil {α : Type} : List α → Bool
  | [] => true
  | _ => false
def sName (r : CF) (c : SC) (x : Str) (args : List Expr) : Option (Rho → R W) :=
  if glB c.sc x = true ∧ isNil args = false ∧ args.all notStar = true then
    if x = "isinstance" then (if c.calm = true then sIsi r c args else sIsE c args)
    else if x = "len" then (match scriptArg c args, setArgs args with
      | some i, _ => some (fZlen i)
      | none, some b => if glB c.sc "set" = true ∧ notStar b = true ∧ c.calm = true then (r.E c b).map fLenSet else none
      | none, none => (r.A c args).map (fCB lenD))
    else if x = "list" ∧ (dictArg c args).isSome = true then (if c.calm = true then (dictArg c args).map fDlist else none)
    else if x = "sorted" ∧ (setArgs args).isSome = true then (setArgs args).bind fun b => (if glB c.sc "set" = true ∧ notStar b = true ∧ c.calm = true then (r.E c b).map fSortSet else none)
    else (match bCall c.calm x with
      | some o => (r.A c args).map (fCB o)
      | none => (calOf x c.cal).bind fun nm => if args.length = nm.1 ∧ plainN x = true then (r.A c args).map (fCall nm.2) else none)
  else if glB c.sc x = true ∧ isNil args = true ∧ plainN x = true then (calOf x c.cal).bind fun nm => (if nm.1 = 0 then some (fCall0 nm.2) else none)
  else none
def isTrueC : Expr → Bool
  | .Constant (.bool true) _ _ => true
  | _ => false
def sMeth (r : CF) (c : SC) (o : Expr) (attr : Str) (apos : Pos) (args : List Expr) (pos : Pos) : Option (Rho → R W) := match o, args with
  | .Name y _, [e] => if (apos.endLine == pos.line) = true ∧ notStar e = true then (rdIx c y).bind fun i =>
      (if attr = "append" then (r.A c [e]).map (fApp i) else if attr = "extend" then (r.A c [e]).map (fExt i) else if attr = "count" then (r.A c [e]).map (fCnt i)
       else if attr = "index" ∧ isTrueC e = true then some (fIdxT i) else none) else none
  | .Name y _, [] => if (apos.endLine == pos.line) = true ∧ attr = "pop" then (rdIx c y).map fPop else none
  | _, _ => none
/-- the defs of a table -/
def sTabs (c : SC) (n : Nat) : List Expr → Option (List FM)
  | [] => some []
  | .Name x _ :: es => (calOf x c.cal).bind fun nm => if nm.1 = n ∧ glB c.sc x = true ∧ plainN x = true then (sTabs c n es).map (nm.2 :: ·) else none
  | _ => none
def sTab (r : CF) (c : SC) (f : Expr) (args : List Expr) : Option (Rho → R W) := match f with
  | .Subscript (.List names _) ix _ => if notSlice ix = true ∧ isNil args = false ∧ args.all notStar = true then (sTabs c args.length names).bind fun ms => (r.E c ix).bind fun fi => (r.A c args).map fun fas => fTab ms fi fas else none
  | _ => none
def sCall (r : CF) (c : SC) (f : Expr) (args : List Expr) (kws : List Keyword) (pos : Pos) : Option (Rho → R W) := match kws with
  | [] => (match f with
    | .Name x _ => sName r c x args
    | .Attribute o attr apos => sMeth r c o attr apos args pos
    | f => sTab r c f args)
  | _ => none
def sTg (c : SC) : Expr → Option Tg
  | .Name x _ => (wrIx c x).map .n
  | .Tuple [.Name x _, .Name y _] _ _ => if c.calm = true then (wrIx c x).bind fun i => (wrIx c y).bind fun j => some (.p i j) else none
  | _ => none
def ownOf (N : List Str) : List (Str × NameKind) → List (Str × Nat)
  | [] => []
  | (x, k) :: r => if k = .local ∨ k = .cell then (match ixOf x N with
      | some i => (x, i) :: ownOf N r
      | none => ownOf N r) else ownOf N r
def fYes : Rho → R Bool := fun ρ => .ok true ρ
def sIfs (r : CF) (c : SC) : List Expr → Option (Rho → R Bool)
  | [] => some fYes
  | [t] => r.T c t
  | _ => none
def sLc (r : CF) (c : SC) (elt : Expr) (gs : List Comprehension) (scope : Scope) : Option (Rho → R W) := match gs with
  | [g] => if c.calm = true ∧ g.is_async = 0 ∧ notSet g.iter = true ∧ blkC c.N c.sc scope (ownOf c.N scope.names) = true then
      (r.I c g.target g.iter).bind fun fsrc => (sTg (c.blk scope) g.target).bind fun tg => (sIfs r (c.blk scope) g.ifs).bind fun cond => (r.E (c.blk scope) elt).bind fun fe =>
        some (fLc fsrc tg ((ownOf c.N scope.names).map (·.2)) cond fe) else none
  | _ => none
def sE (r : CF) (c : SC) (e : Expr) : Option (Rho → R W) := match e with
  | .Name x _ => (rdIx c x).map fVar
  | .Constant v _ _ => cConst v
  | .BinOp a op b _ => (cBin op).bind fun o => (r.E c a).bind fun fa => (r.E c b).bind fun fb => some (fBin o fa fb)
  | .UnaryOp op a _ => (match op with
    | .Not => (r.E c a).map fNot
    | .USub => (r.E c a).map fNeg
    | _ => none)
  | .BoolOp op vs _ => sBool r c op vs
  | .IfExp t a b _ => (r.T c t).bind fun ft => (r.E c a).bind fun fa => (r.E c b).bind fun fb => some (fIf ft fa fb)
  | .Compare a ops cs _ => sCmp r c a ops cs
  | .Tuple es _ _ => (r.A c es).map fTup
  | .List es _ => (r.A c es).map fLst
  | .Subscript a b _ => sSub r c a b
  | .ListComp elt gs scope _ => sLc r c elt gs scope
  | .Call f args kws pos => sCall r c f args kws pos
  | _ => none
def sA (r : CF) (c : SC) : List Expr → Option (Rho → R (List W))
  | [] => some fNil
  | e :: es => if notStar e = true then (r.E c e).bind fun f => (sA r c es).bind fun fs => some (fCons f fs) else none
def valT : Expr → Bool
  | .UnaryOp .Not _ _ => false
  | .BoolOp .. => false
  | .IfExp .. => false
  | .Compare .. => false
  | _ => true
theorem valT_ok {e : Expr} {env : Env} {whole : Sem Value} (h : valT e = true) : isTrue e env whole = (do let v ← whole; standAt e.pos; holding [v] (truthy v)) := by
  cases e with
  | UnaryOp op a p => cases op <;> first | rfl | cases h
  | _ => first | rfl | cases h
def sT (r : CF) (c : SC) (e : Expr) : Option (Rho → R Bool) := match e with
  | .UnaryOp .Not a _ => (r.T c a).map tfNot
  | .BoolOp op vs _ => sTBool r c op vs
  | .Compare a ops cs _ => (sCmp r c a ops cs).map asB
  | e => if valT e = true then (r.E c e).map asB else none
def isTup : Expr → Bool
  | .Tuple .. => true
  | _ => false
/-- name(args) of an iteration -/
def iterCall : Expr → Option (Str × List Expr)
  | .Call (.Name x _) args [] _ => some (x, args)
  | _ => none
def sSrcCall (r : CF) (c : SC) (tg : Expr) (x : Str) (args : List Expr) : Option (Rho → R (List D × Dep)) := match args with
  | [a] => if x = "range" then (if glB c.sc x = true ∧ notStar a = true then (r.A c [a]).map (fSrcs fun _ => rangeOf) else none)
    else if x = "enumerate" then (if glB c.sc x = true ∧ notStar a = true ∧ isTup tg = true then (r.A c [a]).map (fSrcs enumOf) else none) else none
  | [a, b] => if x = "zip" then (if glB c.sc x = true ∧ notStar a = true ∧ notStar b = true ∧ isTup tg = true then (r.A c [a, b]).map (fSrcs fun _ => zipOf) else none) else none
  | _ => none
def isSrc (x : Str) : Bool := x = "range" || x = "enumerate" || x = "zip"
def sI (r : CF) (c : SC) (tg e : Expr) : Option (Rho → R (List D × Dep)) := match iterCall e with
  | some (x, args) => if isSrc x = true then sSrcCall r c tg x args else (r.E c e).map fSrc
  | none => (r.E c e).map fSrc
def asList : Expr → Option (List Expr)
  | .List es _ => some es
  | _ => none
def listCall : Expr → Option Expr
  | .Call (.Name x _) [e] [] _ => if x = "list" then some e else none
  | _ => none
def lcOf : Expr → Option (Expr × List Comprehension × Scope × Pos)
  | .ListComp elt gs scope p => some (elt, gs, scope, p)
  | _ => none
def swapB (c : SC) (y : Str) (py : Pos) (scope : Scope) (p : Pos) : Bool := lclB c.sc y && (py.line == p.line) && !(scope.names.any fun (n, k) => n == y && (k == .local || k == .cell))
/-- a new thing -/
inductive NwK where
  | lst (es : List Expr) | d0 | d1 (k v : Expr) | dat
def nwK : Expr → NwK
  | .List es _ => .lst es
  | .Dict [] [] _ => .d0
  | .Dict [some k] [v] _ => .d1 k v
  | _ => .dat
def isDct : Expr → Bool
  | .Dict .. => true
  | _ => false
def sN (r : CF) (c : SC) (e : Expr) : Option (Rho → R S) := match nwK e with
  | .lst es => (r.A c es).map nLst
  | .d0 => some nDct0
  | .d1 k v => (r.E c k).bind fun fk => (r.E c v).bind fun fv => some (nDct1 fk fv)
  | .dat => (r.E c e).map toS
def sAsg1 (r : CF) (c : SC) (x : Str) (px : Pos) (v : Expr) : Option (List Nat → Rho → R Fl) := (wrIx c x).bind fun i =>
  if isDct v = true then (sN r c v).map fun f P => fAsgN P i f else
  match asList v, listCall v, lcOf v with
  | some es, _, _ => (r.A c es).map fun fs P => fOwn P i fs
  | none, some e, _ => if glB c.sc "list" = true ∧ notStar e = true then (r.A c [e]).map fun fs P => fOwnL P i fs else none
  | none, none, some (_, _, scope, p) => if swapB c x px scope p = true then (r.E c v).map fun f P => fAsg P i f else none
  | none, none, none => if notComp v = true then (r.E c v).map fun f P => fAsg P i f else none
def swB (c : SC) (x y : Str) (px py : Pos) (a b : Expr) : Bool := (px.line == py.line) && !(x == y) && !(foldedForSure 8 a && foldedForSure 8 b) && !(constantsAlone 8 a && constantsAlone 8 b)
def sPar (r : CF) (c : SC) (x y : Str) (px py : Pos) (a b : Expr) : Option (List Nat → Rho → R Fl) :=
  if lclB c.sc x = true ∧ lclB c.sc y = true ∧ notStar a = true ∧ notStar b = true ∧ swB c x y px py a b = true ∧ c.calm = true then
    (wrIx c x).bind fun i => (wrIx c y).bind fun j => if i = j then none else if isDct a = true ∨ isDct b = true then (sN r c a).bind fun f1 => (sN r c b).bind fun f2 => some (fun P => fParN P i j f1 f2) else (match asList b with
      | some es => (r.E c a).bind fun f => (r.A c es).bind fun fs => some fun P => fParO P i j f fs
      | none => (r.A c [a, b]).map fun fs P => fPar P i j fs)
  else none
def sAsg (r : CF) (c : SC) (ts : List Expr) (v : Expr) : Option (List Nat → Rho → R Fl) := match ts with
  | [.Name x px] => sAsg1 r c x px v
  | [.Tuple [.Name x px, .Name y py] _ _] => (match v with
    | .Tuple [a, b] _ _ => sPar r c x y px py a b
    | _ => none)
  | [.Subscript d k _] => (dictIx c d).bind fun i => if notComp v = true then (r.E c v).bind fun fv => (r.E c k).bind fun fk => some (fun _ => fDset i fv fk) else none
  | _ => none
def fRaise (n : Nat) : Rho → R Fl := fun ρ => .exc n ρ
/-- raise X('..') -/
def raised : Option Expr → Option Expr → Option Str
  | some (.Call (.Name x _) [.Constant (.str _) _ _] [] _), none => some x
  | _, _ => none
def sRaise (c : SC) (e k : Option Expr) : Option (List Nat → Rho → R Fl) := (raised e k).bind fun x => if glB c.sc x = true ∧ plainN x = true ∧ c.calm = true then (excOf x c.exc).map fun n _ => fRaise n else none
/-- except LineError as n: return _law_which(n) -/
def handOf : List ExceptHandler → Option Str
  | [.ExceptHandler (some (.Name x _)) (some n) [.Return (some (.Call (.Name w _) [.Name n' _] [] _)) _] _] => if x = Str.ofString "LineError" ∧ w = Str.ofString "_law_which" ∧ n' = n then some n else none
  | _ => none
def sS (r : CF) (c : SC) (s : Stmt) : Option (List Nat → Rho → R Fl) := match s with
  | .Return (some e) _ => (r.E c e).map fun f P => fRet P f
  | .Pass _ => some fun _ => fNext
  | .Expr e _ => if notComp e = true then (r.E c e).map fun f _ => fDrop f else none
  | .If t a b _ => (r.T c t).bind fun ft => (r.B c a).bind fun fa => (r.B c b).bind fun fb => some fun P => fIfS ft (fa P) (fb P)
  | .While t body orelse _ => if isNil orelse = true then (r.T c t).bind fun ft => (r.B c body).bind fun fb => some fun P => whileF ft (fb P) 100000 else none
  | .Try body hs orelse fin _ => if isNil orelse = true ∧ isNil fin = true ∧ c.calm = true ∧ c.tr.isSome = true ∧ glB c.sc (Str.ofString "LineError") = true ∧ glB c.sc (Str.ofString "_law_which") = true then
      (handOf hs).bind fun n => if lclB c.sc n = true ∧ plainN n = true then (ixOf n c.N).bind fun i => (r.B c body).bind fun fb => some fun P => fTry i (fb P) else none else none
  | .For tg iter body orelse _ => if isNil orelse = true ∧ notSet iter = true ∧ c.calm = true then (r.I c tg iter).bind fun fsrc => (sTg c tg).bind fun t => (r.B c body).bind fun fb => some fun P => fFor fsrc t fb P else none
  | .Assign ts v _ => sAsg r c ts v
  | .AugAssign (.Name x _) .Add e _ => (wrIx c x).bind fun i => (r.E c e).map fun f P => fAug P i f
  | .Raise e k _ => sRaise c e k
  | _ => none
def sB (r : CF) (c : SC) : List Stmt → Option (List Nat → Rho → R Fl)
  | [] => some fun _ => fNext
  | s :: ss => (r.S c s).bind fun f => (sB r c ss).bind fun g => some fun P => fSeq (f P) (g P)
def CF.step (r : CF) : CF := ⟨sE r, sA r, sT r, sI r, sS r, sB r⟩
def cf : Nat → CF
  | 0 => ⟨fun _ _ => none, fun _ _ => none, fun _ _ => none, fun _ _ _ => none, fun _ _ => none, fun _ _ => none⟩
  | k + 1 => (cf k).step
end FL

namespace FL
open PySem L2 PyProof.Rows

structure Snd (r : CF) : Prop where
  E : ∀ c e f, r.E c e = some f → ∀ X g, Okx c X g → FE X g e f
  A : ∀ c e f, r.A c e = some f → ∀ X g, Okx c X g → FA X g e f
  L : ∀ c e f, r.A c e = some f → ∀ ρ ws ρ1, f ρ = .ok ws ρ1 → ws.length = e.length
  T : ∀ c e f, r.T c e = some f → ∀ X g, Okx c X g → FT X g e f
  I : ∀ c tg e f, r.I c tg e = some f → ∀ X g, Okx c X g → FI X g tg e f
  S : ∀ c s f, r.S c s = some f → ∀ X g, Okx c X g → Pas X → FS X g s (f g.pins)
  B : ∀ c s f, r.B c s = some f → ∀ X g, Okx c X g → Pas X → FSs X g s (f g.pins)
section
variable {r : CF} (sd : Snd r) {c : SC} {X : Cx} {g : G} (o : Okx c X g)
include sd o
omit sd in
theorem snd_const {v : Const} {j} {pos : Pos} {f : Rho → R W} (h : cConst v = some f) : FE X g (.Constant v j pos) f := by
  cases v <;> first | (cases h; done) | skip
  · cases h; exact fe_non
  · cases h; exact fe_bl
  · cases h; exact fe_int
  · cases h; exact fe_str
omit sd in
theorem snd_bin {op : Operator} {q : D → D → Option D} (h : cBin op = some q) : OpD X (binaryOp op) q := by
  cases op <;> first | (cases h; done) | skip
  · cases h; exact opd_add
  · cases h; exact opd_sub
  · cases h; exact opd_mul'
  · cases h; exact opd_mod
  · cases h; exact opd_pow
  · cases h; exact opd_fdiv
omit sd in
theorem snd_cmp {op : CmpOp} {q : D → D → Option D} (h : cCmp op = some q) : OpD X (compareOp op) q := by
  have hu := o.un
  cases op <;> cases h
  · exact opd_eq (by omega)
  · exact opd_ne (by omega)
  · exact opd_lt (by omega)
  · exact opd_le
  · exact opd_gtT (by omega)
  · exact opd_ge
  · exact opd_is
  · exact opd_isNot
  · exact opd_in (by omega)
  · exact opd_notIn (by omega)
theorem snd_bool {op : BoolOp} {pos : Pos} : ∀ {vs : List Expr} {f : Rho → R W}, sBool r c op vs = some f → FE X g (.BoolOp op vs pos) f
  | [], _, h => by cases h
  | [a], f, h => fe_one (sd.E c a f h X g o)
  | a :: b :: rest, f, h => by
    have h' : ((r.E c a).bind fun fa => (sBool r c op (b :: rest)).bind fun fb => match op with | .And => some (fAnd fa fb) | .Or => some (fOr fa fb)) = some f := h
    obtain ⟨fa, ha, h'⟩ := Option.bind_eq_some_iff.mp h'
    obtain ⟨fb, hb, h'⟩ := Option.bind_eq_some_iff.mp h'
    cases op with
    | And => cases h'; exact fe_and (sd.E c a fa ha X g o) (snd_bool hb)
    | Or => cases h'; exact fe_or (sd.E c a fa ha X g o) (snd_bool hb)
theorem snd_tbool {op : BoolOp} {pos : Pos} : ∀ {vs : List Expr} {f : Rho → R Bool}, sTBool r c op vs = some f → FW X g (.BoolOp op vs pos) f
  | [], _, h => by cases h
  | [a], f, h => by
    cases op with
    | And => exact fw_and1 (sd.T c a f h X g o)
    | Or => exact fw_or1 (sd.T c a f h X g o)
  | a :: b :: rest, f, h => by
    have h' : ((r.T c a).bind fun fa => (sTBool r c op (b :: rest)).bind fun fb => match op with | .And => some (tfAnd fa fb) | .Or => some (tfOr fa fb)) = some f := h
    obtain ⟨fa, ha, h'⟩ := Option.bind_eq_some_iff.mp h'
    obtain ⟨fb, hb, h'⟩ := Option.bind_eq_some_iff.mp h'
    cases op with
    | And => cases h'; exact fw_and (sd.T c a fa ha X g o) (snd_tbool hb)
    | Or => cases h'; exact fw_or (sd.T c a fa ha X g o) (snd_tbool hb)
omit sd o in
theorem scriptIx_some {a : Expr} {i : Nat} (h : scriptIx c a = some i) : ∃ x p, a = .Name x p ∧ rdIx c x = some i := by
  unfold scriptIx at h
  split at h
  · split at h
    · exact ⟨_, _, rfl, h⟩
    · cases h
  · cases h
omit sd o in
theorem nilL_some {a : Expr} (h : nilL a = true) : ∃ p, a = .List [] p := by
  unfold nilL at h
  split at h
  · exact ⟨_, rfl⟩
  · cases h
omit sd o in
theorem dictIx_some {a : Expr} {i : Nat} (h : dictIx c a = some i) : ∃ x p, a = .Name x p ∧ rdIx c x = some i := by
  unfold dictIx at h
  split at h
  · split at h
    · exact ⟨_, _, rfl, h⟩
    · cases h
  · cases h
/-- a comparison as a value and as a test -/
theorem snd_cmps {a : Expr} {ops : List CmpOp} {cs : List Expr} {pos : Pos} {f : Rho → R W} (h : sCmp r c a ops cs = some f) : FE X g (.Compare a ops cs pos) f ∧ FT X g (.Compare a ops cs pos) (asB f) := by
  unfold sCmp at h
  split at h
  · rename_i op b
    split at h
    · rename_i i ei
      split at h
      · rename_i hc
        cases h
        obtain ⟨x, p, rfl, hx⟩ := scriptIx_some ei
        obtain ⟨p2, rfl⟩ := nilL_some hc.2
        obtain ⟨h1, h2, h3, h4⟩ := o.rd hx
        have e := hc.1
        subst e
        have hu := o.un
        exact ⟨fe_znil o.K (by omega) h1 h2 h3 h4, ft_znil o.K (by omega) h1 h2 h3 h4⟩
      · cases h
    · rename_i i _ ei
      obtain ⟨x, p, rfl, hx⟩ := dictIx_some ei
      obtain ⟨h1, h2, h3, h4⟩ := o.rd hx
      have hu := o.un
      split at h
      · rename_i eo
        subst eo
        obtain ⟨fa, ha, rfl⟩ := Option.map_eq_some_iff.mp h
        exact ⟨fe_din o.prog o.wd (by omega) h1 h2 h3 h4 (sd.E c a fa ha X g o), ft_din o.prog o.wd (by omega) h1 h2 h3 h4 (sd.E c a fa ha X g o)⟩
      split at h
      · rename_i eo
        subst eo
        obtain ⟨fa, ha, rfl⟩ := Option.map_eq_some_iff.mp h
        exact ⟨fe_dnotin o.prog o.wd (by omega) h1 h2 h3 h4 (sd.E c a fa ha X g o), ft_dnotin o.prog o.wd (by omega) h1 h2 h3 h4 (sd.E c a fa ha X g o)⟩
      · cases h
    · obtain ⟨q, hq, h⟩ := Option.bind_eq_some_iff.mp h
      obtain ⟨fa, ha, h⟩ := Option.bind_eq_some_iff.mp h
      obtain ⟨fb, hb, h⟩ := Option.bind_eq_some_iff.mp h
      split at h
      · rename_i hm
        cases h
        exact ⟨fe_cmp (snd_cmp o hq) (sd.E c a fa ha X g o) (sd.E c b fb hb X g o) hm, ft_cmp (snd_cmp o hq) (sd.E c a fa ha X g o) (sd.E c b fb hb X g o) hm⟩
      · cases h
  · rename_i op op' b d
    obtain ⟨q, hq, h⟩ := Option.bind_eq_some_iff.mp h
    obtain ⟨q', hq', h⟩ := Option.bind_eq_some_iff.mp h
    obtain ⟨fa, ha, h⟩ := Option.bind_eq_some_iff.mp h
    obtain ⟨fb, hb, h⟩ := Option.bind_eq_some_iff.mp h
    obtain ⟨fd, hd, h⟩ := Option.bind_eq_some_iff.mp h
    split at h
    · rename_i hm
      cases h
      exact ⟨fe_chain (snd_cmp o hq) (snd_cmp o hq') (sd.E c a fa ha X g o) (sd.E c b fb hb X g o) (sd.E c d fd hd X g o) hm, ft_chain (snd_cmp o hq) (snd_cmp o hq') (sd.E c a fa ha X g o) (sd.E c b fb hb X g o) (sd.E c d fd hd X g o) hm⟩
    · cases h
  · cases h
theorem snd_part {e : Option Expr} {f : Rho → R (Option Int)} (h : sPart r c e = some f) : FO X g e f := by
  cases e with
  | none => cases h; exact fo_none
  | some e =>
    obtain ⟨fe, he, rfl⟩ := Option.map_eq_some_iff.mp (show (r.E c e).map fPart = some f from h)
    exact fo_some (sd.E c e fe he X g o)
theorem snd_sub {a b : Expr} {pos : Pos} {f : Rho → R W} (h : sSub r c a b = some f) : FE X g (.Subscript a b pos) f := by
  unfold sSub at h
  split at h
  · rename_i lo hi st p2
    split at h
    · obtain ⟨fa, ha, h⟩ := Option.bind_eq_some_iff.mp h
      obtain ⟨fl, hl, h⟩ := Option.bind_eq_some_iff.mp h
      obtain ⟨fh, hh, h⟩ := Option.bind_eq_some_iff.mp h
      cases h
      exact fe_slice (sd.E c a fa ha X g o) (snd_part sd o hl) (snd_part sd o hh)
    · split at h
      · obtain ⟨fa, ha, h⟩ := Option.bind_eq_some_iff.mp h
        obtain ⟨fk, hk, rfl⟩ := Option.map_eq_some_iff.mp h
        exact fe_rev o.K (sd.E c a fa ha X g o) (fo_some (sd.E c _ fk hk X g o))
      · cases h
  · split at h
    · rename_i hs
      split at h
      · rename_i i ei
        obtain ⟨fb, hb, rfl⟩ := Option.map_eq_some_iff.mp h
        obtain ⟨x, p, rfl, hx⟩ := scriptIx_some ei
        obtain ⟨h1, h2, h3, h4⟩ := o.rd hx
        exact fe_zidx o.K h1 h2 h3 h4 (sd.E c b fb hb X g o) (plain_ix hs)
      · obtain ⟨fa, ha, h⟩ := Option.bind_eq_some_iff.mp h
        obtain ⟨fb, hb, h⟩ := Option.bind_eq_some_iff.mp h
        cases h
        exact fe_idx ixd (sd.E c a fa ha X g o) (sd.E c b fb hb X g o) (plain_ix hs)
    · cases h
omit sd in
theorem snd_bcall {x : Str} {q : List D → Option D} {e : Expr} {es : List Expr} {p pos : Pos} {fas : Rho → R (List W)} (h : bCall c.calm x = some q) (hg : Gl X x) (ha : FA X g (e :: es) fas) (hs : (e :: es).all notStar = true) :
    FE X g (.Call (.Name x p) (e :: es) [] pos) (fCB q fas) := by
  rw [List.all_cons, Bool.and_eq_true] at hs
  have hst := star_cons (es := es) (env := X.env) hs.1
  have hpl := star_any (pos := pos) (env := X.env) hs.2
  have hu := o.un
  unfold bCall at h
  split at h
  · rename_i ex; subst ex; cases h
    exact fe_callB cd_len hg (o.bn _ (by decide +kernel)) (by decide +kernel) ha (by decide) (by decide) hst hpl
  split at h
  · rename_i ex; subst ex; cases h
    exact fe_callTy cd_list hg (o.bn _ (by decide +kernel)) (by decide +kernel) ha (by decide) (by decide) hst hpl
  split at h
  · rename_i ex; subst ex; cases h
    exact fe_callTy cd_tuple hg (o.bn _ (by decide +kernel)) (by decide +kernel) ha (by decide) (by decide) hst hpl
  split at h
  · rename_i ex; subst ex; cases h
    exact fe_callB (cd_sorted (by omega)) hg (o.bn _ (by decide +kernel)) (by decide +kernel) ha (by decide) (by decide) hst hpl
  split at h
  · rename_i hcm
    have cm := o.calm hcm
    split at h
    · rename_i ex; subst ex; cases h
      exact fe_callB (cd_all cm) hg (o.bn _ (by decide +kernel)) (by decide +kernel) ha (by decide) (by decide) hst hpl
    split at h
    · rename_i ex; subst ex; cases h
      exact fe_callB (cd_sum cm) hg (o.bn _ (by decide +kernel)) (by decide +kernel) ha (by decide) (by decide) hst hpl
    split at h
    · rename_i ex; subst ex; cases h
      exact fe_callB (cd_min cm (by omega)) hg (o.bn _ (by decide +kernel)) (by decide +kernel) ha (by decide) (by decide) hst hpl
    split at h
    · rename_i ex; subst ex; cases h
      exact fe_callB (cd_max cm) hg (o.bn _ (by decide +kernel)) (by decide +kernel) ha (by decide) (by decide) hst hpl
    · cases h
  · cases h
omit sd o in
theorem tyOf_some {t : Str} {T : Ty} (h : tyOf t = some T) : bnames.contains t = true ∧ bootBuiltins t = some (.type T.nm) ∧ t ≠ "__name__" ∧ (t == ("__debug__" : Str)) = false := by
  unfold tyOf at h
  split at h
  · rename_i e; subst e; cases h; exact ⟨by decide +kernel, by decide +kernel, by decide +kernel, by decide +kernel⟩
  split at h
  · rename_i e; subst e; cases h; exact ⟨by decide +kernel, by decide +kernel, by decide +kernel, by decide +kernel⟩
  split at h
  · rename_i e; subst e; cases h; exact ⟨by decide +kernel, by decide +kernel, by decide +kernel, by decide +kernel⟩
  split at h
  · rename_i e; subst e; cases h; exact ⟨by decide +kernel, by decide +kernel, by decide +kernel, by decide +kernel⟩
  split at h
  · rename_i e; subst e; cases h; exact ⟨by decide +kernel, by decide +kernel, by decide +kernel, by decide +kernel⟩
  · cases h
theorem snd_isi {args : List Expr} {p pos : Pos} {f : Rho → R W} (h : sIsi r c args = some f) : FE X g (.Call (.Name "isinstance" p) args [] pos) f := by
  unfold sIsi at h
  split at h
  · rename_i e t p2
    obtain ⟨T, hT, h⟩ := Option.bind_eq_some_iff.mp h
    split at h
    · rename_i hc
      obtain ⟨fe, he, rfl⟩ := Option.map_eq_some_iff.mp h
      obtain ⟨h1, h2, h3, h4⟩ := tyOf_some hT
      exact fe_isi o.K (o.gl hc.2.1) (o.bn _ (by decide +kernel)) (o.gl hc.1) (o.bn _ h1) h2 h3 h4 (sd.E c e fe he X g o) (star_cons hc.2.2)
    · cases h
  · cases h
omit sd o in
theorem excOf_mem {x : Str} {n : Nat} : ∀ {l : List (Str × Nat)}, excOf x l = some n → (x, n) ∈ l
  | [], h => by cases h
  | (y, m) :: l, h => by
    unfold excOf at h
    split at h
    · rename_i e
      cases h
      rw [e]
      exact List.mem_cons_self
    · exact List.mem_cons_of_mem _ (excOf_mem h)
omit sd in
theorem snd_isE {args : List Expr} {p pos : Pos} {f : Rho → R W} (hcm : ¬ c.calm = true) (h : sIsE c args = some f) : FE X g (.Call (.Name "isinstance" p) args [] pos) f := by
  unfold sIsE at h
  split at h
  · rename_i y p1 t p2
    obtain ⟨i, hi, hh⟩ := Option.bind_eq_some_iff.mp h
    clear h
    obtain ⟨h1, h2, h3, h4⟩ := o.rd hi
    have E := o.err (by simpa using hcm)
    split at hh
    · rename_i hc
      split at hh
      · rename_i et
        subst et
        cases hh
        exact fe_isEV E (o.gl hc.2.1) (o.bn _ (by decide +kernel)) h1 h2 h3 h4 (o.gl hc.1) (o.bn _ (by decide +kernel))
      · obtain ⟨k, hk, rfl⟩ := Option.map_eq_some_iff.mp hh
        have A := o.exc t k (excOf_mem hk)
        exact fe_isE E A.lt (o.gl hc.2.1) (o.bn _ (by decide +kernel)) h1 h2 h3 h4 (o.gl hc.1) A.gC (plainN_ok hc.2.2).1
    · cases hh
  · cases h
omit sd o in
theorem setArgs_some {args : List Expr} {b : Expr} (h : setArgs args = some b) : ∃ a, args = [a] ∧ setArg a = some b := by
  unfold setArgs at h
  split at h
  · exact ⟨_, rfl, h⟩
  · cases h
omit sd o in
theorem dictArg_some {args : List Expr} {i : Nat} (h : dictArg c args = some i) : ∃ a, args = [a] ∧ dictIx c a = some i := by
  unfold dictArg at h
  split at h
  · exact ⟨_, rfl, h⟩
  · cases h
omit sd o in
theorem setArg_some {a b : Expr} (h : setArg a = some b) : ∃ p q, a = .Call (.Name "set" p) [b] [] q := by
  unfold setArg at h
  split at h
  · split at h
    · rename_i e
      cases h
      subst e
      exact ⟨_, _, rfl⟩
    · cases h
  · cases h
omit sd o in
theorem calOf_mem {x : Str} {nm : Nat × FM} : ∀ {l : List (Str × Nat × FM)}, calOf x l = some nm → (x, nm.1, nm.2) ∈ l
  | [], h => by cases h
  | (y, nm') :: l, h => by
    unfold calOf at h
    split at h
    · rename_i e
      cases h
      rw [e]
      exact List.mem_cons_self
    · exact List.mem_cons_of_mem _ (calOf_mem h)
theorem snd_name {x : Str} {args : List Expr} {p pos : Pos} {f : Rho → R W} (h : sName r c x args = some f) : FE X g (.Call (.Name x p) args [] pos) f := by
  unfold sName at h
  split at h
  · rename_i hc
    have hg := o.gl hc.1
    have hs := hc.2.2
    cases args with
    | nil => exact absurd hc.2.1 (by simp [isNil])
    | cons e es =>
      split at h
      · rename_i ex
        subst ex
        split at h
        · exact snd_isi sd o h
        · rename_i hcm
          exact snd_isE o hcm h
      split at h
      · rename_i ex
        subst ex
        split at h
        · rename_i i ei
          cases h
          unfold scriptArg at ei
          split at ei
          · obtain ⟨y, p2, rfl, hy⟩ := scriptIx_some ei
            rename_i hl
            obtain ⟨h1, h2, h3, h4⟩ := o.rd hy
            cases hl
            exact fe_zlen o.K hg (o.bn _ (by decide +kernel)) h1 h2 h3 h4
          · cases ei
        · rename_i b hn hb
          split at h
          · rename_i hc2
            obtain ⟨fb, hfb, rfl⟩ := Option.map_eq_some_iff.mp h
            unfold setArgs at hb
            split at hb
            · rename_i a hl
              obtain ⟨p1, q1, ea⟩ := setArg_some hb
              cases hl
              subst ea
              exact fe_lenSet hg (o.bn _ (by decide +kernel)) (o.gl hc2.1) (o.bn _ (by decide +kernel)) (sd.E c b fb hfb X g o) (o.calm hc2.2.2) (star_cons hc2.2.1)
            · cases hb
          · cases h
        · obtain ⟨fa, hfa, rfl⟩ := Option.map_eq_some_iff.mp h
          exact snd_bcall o (if_pos rfl) hg (sd.A c _ fa hfa X g o) hs
      split at h
      · rename_i ex
        obtain ⟨ex, hsome⟩ := ex
        subst ex
        split at h
        · rename_i hcm
          obtain ⟨i, hi, rfl⟩ := Option.map_eq_some_iff.mp h
          obtain ⟨a, ea, ha⟩ := dictArg_some hi
          obtain ⟨x, p2, rfl, hx⟩ := dictIx_some ha
          cases ea
          obtain ⟨h1, h2, h3, h4⟩ := o.rd hx
          exact fe_dlist o.prog o.wd (o.calm hcm) hg (o.bn _ (by decide +kernel)) h1 h2 h3 h4
        · cases h
      split at h
      · rename_i ex
        obtain ⟨ex, hsome⟩ := ex
        subst ex
        obtain ⟨b, hb, hh⟩ := Option.bind_eq_some_iff.mp h
        clear h
        split at hh
        · rename_i hc2
          obtain ⟨fb, hfb, rfl⟩ := Option.map_eq_some_iff.mp hh
          obtain ⟨a, ea, hsa⟩ := setArgs_some hb
          obtain ⟨p1, q1, ea2⟩ := setArg_some hsa
          cases ea
          subst ea2
          exact fe_sortSet o.K hg (o.bn _ (by decide +kernel)) (o.gl hc2.1) (o.bn _ (by decide +kernel)) (sd.E c b fb hfb X g o) (o.calm hc2.2.2) (star_cons hc2.2.1)
        · cases hh
      · split at h
        · rename_i q hq
          obtain ⟨fa, hfa, rfl⟩ := Option.map_eq_some_iff.mp h
          exact snd_bcall o hq hg (sd.A c _ fa hfa X g o) hs
        · obtain ⟨nm, hnm, h⟩ := Option.bind_eq_some_iff.mp h
          split at h
          · rename_i hl
            obtain ⟨fa, hfa, rfl⟩ := Option.map_eq_some_iff.mp h
            obtain ⟨k, fn, fd, ps, q1, q2, q3, q4, q5⟩ := (o.cal x nm.1 nm.2 (calOf_mem hnm)).ex
            have hs' := hs
            rw [List.all_cons, Bool.and_eq_true] at hs'
            exact fe_call q1 q2 hg q3 q4 q5 o.tk (sd.A c _ fa hfa X g o) (fun ρ ws ρ1 e1 => by rw [sd.L c _ fa hfa ρ ws ρ1 e1, hl.1]) (plainN_ok hl.2).1 (star_cons hs'.1) (star_any hs'.2)
          · cases h
  · split at h
    · rename_i hc
      obtain ⟨nm, hnm, hh⟩ := Option.bind_eq_some_iff.mp h
      clear h
      split at hh
      · rename_i hl
        cases hh
        obtain ⟨k, fn, fd, ps, q1, q2, q3, q4, q5⟩ := (o.cal x nm.1 nm.2 (calOf_mem hnm)).ex
        rw [hl] at q1
        have ea : args = [] := by
          cases args with
          | nil => rfl
          | cons a b => exact absurd hc.2.1 (by simp [isNil])
        subst ea
        exact fe_call0 ⟨k, fd, ps, q1, q2, q4, q5⟩ (o.gl hc.1) q3 (plainN_ok hc.2.2).1 o.tk
      · cases hh
    · cases h
theorem snd_meth {e0 : Expr} {attr : Str} {apos : Pos} {args : List Expr} {pos : Pos} {f : Rho → R W} (h : sMeth r c e0 attr apos args pos = some f) : FE X g (.Call (.Attribute e0 attr apos) args [] pos) f := by
  unfold sMeth at h
  split at h
  · rename_i y p e
    split at h
    · rename_i hc
      obtain ⟨i, hi, hh⟩ := Option.bind_eq_some_iff.mp h
      clear h
      obtain ⟨h1, h2, h3, h4⟩ := o.rd hi
      have hst := star_cons (es := []) (env := X.env) hc.2
      split at hh
      · rename_i ea
        subst ea
        obtain ⟨fa, hfa, rfl⟩ := Option.map_eq_some_iff.mp hh
        exact fe_app h1 h2 h3 h4 (sd.A c _ fa hfa X g o) rfl (by rw [hst]; rfl) hc.1 hst rfl
      split at hh
      · rename_i ea
        subst ea
        obtain ⟨fa, hfa, rfl⟩ := Option.map_eq_some_iff.mp hh
        exact fe_ext h1 h2 h3 h4 (sd.A c _ fa hfa X g o) rfl (by rw [hst]; rfl) hc.1 hst rfl
      split at hh
      · rename_i ea
        subst ea
        obtain ⟨fa, hfa, rfl⟩ := Option.map_eq_some_iff.mp hh
        have hu := o.un
        exact fe_cnt (by omega) h1 h2 h3 h4 (sd.A c _ fa hfa X g o) (by rw [hst]; rfl) hc.1 hst
      split at hh
      · rename_i ea
        obtain ⟨ea, et⟩ := ea
        subst ea
        cases hh
        unfold isTrueC at et
        split at et
        · exact fe_idxT o.K h1 h2 h3 h4 hc.1
        · cases et
      · cases hh
    · cases h
  · rename_i y p
    split at h
    · rename_i hc
      obtain ⟨i, hi, rfl⟩ := Option.map_eq_some_iff.mp h
      obtain ⟨h1, h2, h3, h4⟩ := o.rd hi
      obtain ⟨h5, ea⟩ := hc
      subst ea
      exact fe_pop h1 h2 h3 h4 h5
    · cases h
  · cases h
omit sd in
theorem snd_tabs {n : Nat} : ∀ {es : List Expr} {ms : List FM}, sTabs c n es = some ms → ∃ fs, Globs X g.toZ n es ms fs
  | [], ms, h => by cases h; exact ⟨[], .nil⟩
  | e :: es, ms, h => by
    unfold sTabs at h
    split at h
    · rename_i heq
      cases heq
    · rename_i x p es' heq
      cases heq
      obtain ⟨nm, hnm, hh⟩ := Option.bind_eq_some_iff.mp h
      clear h
      split at hh
      · rename_i hc
        obtain ⟨ms', hms, rfl⟩ := Option.map_eq_some_iff.mp hh
        obtain ⟨fs, G⟩ := snd_tabs hms
        obtain ⟨k, fn, fd, ps, q1, q2, q3, q4, q5⟩ := (o.cal x nm.1 nm.2 (calOf_mem hnm)).ex
        rw [hc.1] at q1
        exact ⟨fn :: fs, .cons (o.gl hc.2.1) q3 (plainN_ok hc.2.2).1 ⟨k, fd, ps, q1, q2, q4, q5⟩ G⟩
      · cases hh
    · cases h
theorem snd_tab {fn : Expr} {args : List Expr} {pos : Pos} {f : Rho → R W} (h : sTab r c fn args = some f) : FE X g (.Call fn args [] pos) f := by
  unfold sTab at h
  split at h
  · rename_i names lp ix sp
    split at h
    · rename_i hc
      obtain ⟨ms, hms, hh⟩ := Option.bind_eq_some_iff.mp h
      obtain ⟨fi, hfi, hh⟩ := Option.bind_eq_some_iff.mp hh
      obtain ⟨fas, hfa, rfl⟩ := Option.map_eq_some_iff.mp hh
      obtain ⟨fs, G⟩ := snd_tabs o hms
      cases args with
      | nil => exact absurd hc.2.1 (by simp [isNil])
      | cons e es =>
        have hs := hc.2.2
        rw [List.all_cons, Bool.and_eq_true] at hs
        exact fe_tab G (sd.E c ix fi hfi X g o) (sd.A c _ fas hfa X g o) (fun ρ ws ρ1 e1 => sd.L c _ fas hfa ρ ws ρ1 e1) (plain_ix hc.1) o.tk (star_cons hs.1) (star_any hs.2)
    · cases h
  · cases h
theorem snd_call {fn : Expr} {args : List Expr} {kws : List Keyword} {pos : Pos} {f : Rho → R W} (h : sCall r c fn args kws pos = some f) : FE X g (.Call fn args kws pos) f := by
  unfold sCall at h
  split at h
  · split at h
    · exact snd_name sd o h
    · exact snd_meth sd o h
    · exact snd_tab sd o h
  · cases h
omit sd in
theorem snd_tg {e : Expr} {t : Tg} (h : sTg c e = some t) : PG X e (t.g g.K) := by
  unfold sTg at h
  split at h
  · obtain ⟨i, hi, rfl⟩ := Option.map_eq_some_iff.mp h
    obtain ⟨h1, h2, h3⟩ := o.wr hi
    exact pg_name o.nd h1 h2 h3
  · split at h
    rotate_left
    · cases h
    rename_i hcm
    obtain ⟨i, hi, h⟩ := Option.bind_eq_some_iff.mp h
    obtain ⟨j, hj, h⟩ := Option.bind_eq_some_iff.mp h
    cases h
    obtain ⟨h1, h2, h3⟩ := o.wr hi
    obtain ⟨k1, k2, k3⟩ := o.wr hj
    show PG X _ (gTup g.K 2 _)
    rw [← o.K]
    exact pg_tup (o.calm hcm) (pgs_cons (pg_name o.nd h1 h2 h3) (pgs_cons (pg_name o.nd k1 k2 k3) pgs_nil)) rfl rfl
  · cases h
omit sd o in
theorem folded_plain {e : Expr} {env : Env} (h : notSet e = true) : ∀ x, foldedSetIterable e env x = pure x := by
  intro x
  cases e <;> first | rfl | cases h
theorem snd_ifs {ifs : List Expr} {f : Rho → R Bool} (h : sIfs r c ifs = some f) : PTs X ifs (ttOf g f) := by
  unfold sIfs at h
  split at h
  · cases h
    refine ⟨fun pins s σ H Q I ⟨F, ρ, rr, hq⟩ => pts_nil.run pins s σ H Q I ?_⟩
    exact hq H F rr (.refl _ _ _ _)
  · exact pts_one (sd.T c _ f h X g o)
  · cases h
theorem snd_lcparts {elt : Expr} {gs : List Comprehension} {scope : Scope} {f : Rho → R W} (h : sLc r c elt gs scope = some f) :
    ∃ tg iter ifs fsrc t cond fe, gs = [⟨tg, iter, ifs, 0⟩] ∧ f = fLc fsrc t ((ownOf c.N scope.names).map (·.2)) cond fe ∧ notSet iter = true ∧ BlkOk X.N X.env.scope scope (ownOf c.N scope.names) ∧ FI X g tg iter fsrc ∧
      (∀ (s : Shared) (H : Hp) (C : Addr) (cl : List (Str × Addr)) (fp : List Addr), PG (X.blk s H scope (compEnvC scope cl C X.env) fp) tg (t.g g.K)) ∧
      (∀ (s : Shared) (H : Hp) (C : Addr) (cl : List (Str × Addr)) (fp : List Addr), PTs (X.blk s H scope (compEnvC scope cl C X.env) fp) ifs (ttOf g.blk cond)) ∧
      (∀ (s : Shared) (H : Hp) (C : Addr) (cl : List (Str × Addr)) (fp : List Addr), PE (X.blk s H scope (compEnvC scope cl C X.env) fp) elt (tOf g.blk fe)) ∧ c.calm = true := by
  unfold sLc at h
  split at h
  · rename_i gn
    split at h
    · rename_i hc
      obtain ⟨fsrc, h1, h⟩ := Option.bind_eq_some_iff.mp h
      obtain ⟨t, h2, h⟩ := Option.bind_eq_some_iff.mp h
      obtain ⟨cond, h3, h⟩ := Option.bind_eq_some_iff.mp h
      obtain ⟨fe, h4, h⟩ := Option.bind_eq_some_iff.mp h
      cases h
      have ok : BlkOk X.N X.env.scope scope (ownOf c.N scope.names) := by
        rw [o.N, o.sc]
        exact blkOk_by hc.2.2.2
      obtain ⟨tg, iter, ifs, as⟩ := gn
      have ea : as = 0 := hc.2.1
      subst ea
      exact ⟨tg, iter, ifs, fsrc, t, cond, fe, rfl, rfl, hc.2.2.1, ok, sd.I c _ _ _ h1 X g o, (fun s H C cl fp => snd_tg (g := g.blk) (o.blk hc.1 ok.kind s H C cl fp) h2), (fun s H C cl fp => snd_ifs sd (o.blk hc.1 ok.kind s H C cl fp) h3), (fun s H C cl fp => sd.E _ _ _ h4 _ _ (o.blk hc.1 ok.kind s H C cl fp)), hc.1⟩
    · cases h
  · cases h
theorem snd_lc {elt : Expr} {gs : List Comprehension} {scope : Scope} {pos : Pos} {f : Rho → R W} (h : sLc r c elt gs scope = some f) : FE X g (.ListComp elt gs scope pos) f := by
  obtain ⟨tg, iter, ifs, fsrc, t, cond, fe, rfl, rfl, h1, h2, h3, h4, h5, h6, h7⟩ := snd_lcparts sd o h
  exact PE.imp (pe_lc (o.calm h7) o.nd h3 h2 h4 h5 h6 (folded_plain h1)) lc_imp
theorem snd_E {e : Expr} {f : Rho → R W} (h : sE r c e = some f) : FE X g e f := by
  unfold sE at h
  split at h
  · obtain ⟨i, hi, rfl⟩ := Option.map_eq_some_iff.mp h
    obtain ⟨h1, h2, h3, h4⟩ := o.rd hi
    exact fe_var h1 h2 h3 h4
  · exact snd_const o h
  · obtain ⟨q, hq, h⟩ := Option.bind_eq_some_iff.mp h
    obtain ⟨fa, ha, h⟩ := Option.bind_eq_some_iff.mp h
    obtain ⟨fb, hb, h⟩ := Option.bind_eq_some_iff.mp h
    cases h
    exact fe_bin (snd_bin o hq) (sd.E c _ fa ha X g o) (sd.E c _ fb hb X g o)
  · split at h
    · obtain ⟨fa, ha, rfl⟩ := Option.map_eq_some_iff.mp h
      exact fe_not (sd.E c _ fa ha X g o)
    · obtain ⟨fa, ha, rfl⟩ := Option.map_eq_some_iff.mp h
      exact fe_neg (sd.E c _ fa ha X g o)
    · cases h
  · exact snd_bool sd o h
  · obtain ⟨ft, ht, h⟩ := Option.bind_eq_some_iff.mp h
    obtain ⟨fa, ha, h⟩ := Option.bind_eq_some_iff.mp h
    obtain ⟨fb, hb, h⟩ := Option.bind_eq_some_iff.mp h
    cases h
    exact fe_if (sd.T c _ ft ht X g o) (sd.E c _ fa ha X g o) (sd.E c _ fb hb X g o)
  · exact (snd_cmps sd o h).1
  · obtain ⟨fa, ha, rfl⟩ := Option.map_eq_some_iff.mp h
    exact fe_tup (sd.A c _ fa ha X g o)
  · obtain ⟨fa, ha, rfl⟩ := Option.map_eq_some_iff.mp h
    exact fe_lst (sd.A c _ fa ha X g o)
  · exact snd_sub sd o h
  · exact snd_lc sd o h
  · exact snd_call sd o h
  · cases h
theorem snd_A : ∀ {es : List Expr} {f : Rho → R (List W)}, sA r c es = some f → FA X g es f
  | [], f, h => by cases h; exact fa_nil
  | e :: es, f, h => by
    unfold sA at h
    split at h
    · rename_i hs
      obtain ⟨fe, he, h⟩ := Option.bind_eq_some_iff.mp h
      obtain ⟨fs, hfs, h⟩ := Option.bind_eq_some_iff.mp h
      cases h
      exact fa_cons (sd.E c _ fe he X g o) (snd_A hfs) (star_cons hs)
    · cases h
omit sd o in
theorem snd_L : ∀ {es : List Expr} {f : Rho → R (List W)}, sA r c es = some f → ∀ ρ ws ρ1, f ρ = .ok ws ρ1 → ws.length = es.length
  | [], f, h => by
    intro ρ ws ρ1 e
    cases h
    cases e
    rfl
  | e :: es, f, h => by
    intro ρ ws ρ1 e1
    unfold sA at h
    split at h
    · obtain ⟨fe, he, h⟩ := Option.bind_eq_some_iff.mp h
      obtain ⟨fs, hfs, h⟩ := Option.bind_eq_some_iff.mp h
      cases h
      unfold fCons at e1
      cases e2 : fe ρ with
      | bad => rw [e2] at e1; cases e1
      | exc c' ρ' => rw [e2] at e1; cases e1
      | ok w ρ2 =>
        rw [e2] at e1
        simp only [R.bind_ok] at e1
        cases e3 : fs ρ2 with
        | bad => rw [e3] at e1; cases e1
        | exc c' ρ' => rw [e3] at e1; cases e1
        | ok us ρ3 =>
          rw [e3] at e1
          cases e1
          rw [List.length_cons, List.length_cons, snd_L hfs ρ2 us _ e3]
    · cases h
theorem snd_T {e : Expr} {f : Rho → R Bool} (h : sT r c e = some f) : FT X g e f := by
  unfold sT at h
  split at h
  · obtain ⟨fa, ha, rfl⟩ := Option.map_eq_some_iff.mp h
    exact ft_not (sd.T c _ fa ha X g o)
  · exact (snd_tbool sd o h).pt
  · obtain ⟨fa, ha, rfl⟩ := Option.map_eq_some_iff.mp h
    exact (snd_cmps sd o ha).2
  · split at h
    · rename_i hv
      obtain ⟨fa, ha, rfl⟩ := Option.map_eq_some_iff.mp h
      exact ft_val (sd.E c _ fa ha X g o) fun w => valT_ok hv
    · cases h
omit sd o in
theorem iterCall_some {e : Expr} {x : Str} {args : List Expr} (h : iterCall e = some (x, args)) : ∃ p pos, e = .Call (.Name x p) args [] pos := by
  unfold iterCall at h
  split at h
  · cases h; exact ⟨_, _, rfl⟩
  · cases h
omit sd o in
theorem isTup_some {e : Expr} (h : isTup e = true) : ∃ es k p, e = .Tuple es k p := by
  unfold isTup at h
  split at h
  · exact ⟨_, _, _, rfl⟩
  · cases h
theorem snd_I {tg e : Expr} {f : Rho → R (List D × Dep)} (h : sI r c tg e = some f) : FI X g tg e f := by
  unfold sI at h
  split at h
  · rename_i x args ei
    obtain ⟨p, pos, rfl⟩ := iterCall_some ei
    split at h
    · unfold sSrcCall at h
      split at h
      · rename_i a
        split at h
        · rename_i ex
          subst ex
          split at h
          · rename_i hc
            obtain ⟨fa, ha, rfl⟩ := Option.map_eq_some_iff.mp h
            exact fi_range (o.gl hc.1) (o.bn _ (by decide +kernel)) (sd.A c _ fa ha X g o) (star_cons hc.2)
          · cases h
        split at h
        · rename_i ex
          subst ex
          split at h
          · rename_i hc
            obtain ⟨fa, ha, rfl⟩ := Option.map_eq_some_iff.mp h
            obtain ⟨es, k, tp, rfl⟩ := isTup_some hc.2.2
            exact fi_enum (o.gl hc.1) (o.bn _ (by decide +kernel)) (sd.A c _ fa ha X g o) (star_cons hc.2.1)
          · cases h
        · cases h
      · rename_i a b
        split at h
        · rename_i ex
          subst ex
          split at h
          · rename_i hc
            obtain ⟨fa, ha, rfl⟩ := Option.map_eq_some_iff.mp h
            obtain ⟨es, k, tp, rfl⟩ := isTup_some hc.2.2.2
            exact fi_zip (o.gl hc.1) (o.bn _ (by decide +kernel)) (sd.A c _ fa ha X g o) (star_cons hc.2.1) (star_any (by simp [hc.2.2.1]))
          · cases h
        · cases h
      · cases h
    · obtain ⟨fa, ha, rfl⟩ := Option.map_eq_some_iff.mp h
      exact fi_any (sd.E c _ fa ha X g o)
  · obtain ⟨fa, ha, rfl⟩ := Option.map_eq_some_iff.mp h
    exact fi_any (sd.E c _ fa ha X g o)
end
end FL

namespace FL
open PySem L2 PyProof.Rows

theorem not_star_any (a : Expr) : notStar a = true → (fun e : Expr => match e with | .Starred .. => true | _ => false) a = false := by
  intro h
  cases a <;> first | rfl | cases h
theorem fm2 {α β : Type} (F : α → Option β) {a b : α} {x y : β} (h1 : F a = some x) (h2 : F b = some y) : [a, b].filterMap F = [x, y] := by simp [h1, h2]
theorem dups2 {x y : Str} (h : (x == y) = false) : ([x, y] : List Str).eraseDups.length = 2 := by
  have h2 : x ≠ y := by simpa using h
  simp [List.eraseDups_cons, h2.symm]
theorem swap_ok {x y : Str} {px py pt pt2 : Pos} {kt k2 : Nat} {a b : Expr} {env : Env} {c : SC} (hk : env.scope.kind = .function) (hx : env.scope.names.lookup x = some .local) (hy : env.scope.names.lookup y = some .local) (na : notStar a = true) (nb : notStar b = true) (h : swB c x y px py a b = true) :
    swappedStores [.Tuple [.Name x px, .Name y py] kt pt] (.Tuple [a, b] k2 pt2) env = pure (some [x, y]) := by
  unfold swB at h
  rw [Bool.and_eq_true, Bool.and_eq_true, Bool.and_eq_true] at h
  obtain ⟨⟨⟨h1, h2⟩, h3⟩, h4⟩ := h
  have h2' : (x == y) = false := by simpa using h2
  have hb : env.blockKind = .function := by unfold Env.blockKind; rw [hk]; rfl
  have kx : env.kindOf x = some .local := hx
  have ky : env.kindOf y = some .local := hy
  have e1 : (py.line == px.line) = true := by rw [beq_iff_eq] at h1 ⊢; exact h1.symm
  have hf : [a, b].all (foldedForSure 8) = false := by
    cases e : foldedForSure 8 a <;> cases e' : foldedForSure 8 b <;> simp_all
  have hc : [a, b].all (constantsAlone 8) = false := by
    cases e : constantsAlone 8 a <;> cases e' : constantsAlone 8 b <;> simp_all
  have hst : ([a, b].any fun | .Starred .. => true | _ => false) = false := by
    simp only [List.any_cons, List.any_nil, Bool.or_false, Bool.or_eq_false_iff]
    exact ⟨not_star_any a na, not_star_any b nb⟩
  have nx : (if (env.kindOf x == some .local && px.line == px.line) = true then some x else none) = some x := by
    rw [kx]; simp
  have ny : (if (env.kindOf y == some .local && py.line == px.line) = true then some y else none) = some y := by
    rw [ky, e1]; rfl
  have en : List.filterMap (fun
      | .Name id pos => if env.kindOf id == some .local && pos.line == (Option.map (fun e : Expr => e.pos.line) ([Expr.Name x px, Expr.Name y py].head?)).getD 0 then some id else none
      | _ => none) [Expr.Name x px, Expr.Name y py] = [x, y] := by
    exact fm2 _ nx ny
  unfold swappedStores
  simp only [hb]
  refine (if_neg (show ¬ (false = true) from Bool.false_ne_true)).trans ?_
  refine (if_neg (fun z => absurd (z.symm.trans hst) (by decide))).trans ?_
  refine (if_neg (fun z => ?_)).trans ?_
  · have z' : ([x, y].length != 2 || [x, y].eraseDups.length != [x, y].length) = true := by
      rw [← en]; exact z
    rw [dups2 h2'] at z'
    exact Bool.false_ne_true z'
  refine (if_neg (by rw [hf]; decide)).trans ?_
  refine (if_neg (by rw [hc]; decide)).trans ?_
  exact congrArg (fun l => pure (some l)) en
section
variable {r : CF} (sd : Snd r) {c : SC} {X : Cx} {g : G} (o : Okx c X g)
include sd o
omit sd o in
theorem asList_some {e : Expr} {es : List Expr} (h : asList e = some es) : ∃ p, e = .List es p := by
  unfold asList at h
  split at h
  · cases h; exact ⟨_, rfl⟩
  · cases h
omit sd o in
theorem listCall_some {a b : Expr} (h : listCall a = some b) : ∃ p q, a = .Call (.Name "list" p) [b] [] q := by
  unfold listCall at h
  split at h
  · split at h
    · rename_i e
      cases h
      subst e
      exact ⟨_, _, rfl⟩
    · cases h
  · cases h
omit sd o in
theorem lcOf_some {e elt : Expr} {gs : List Comprehension} {scope : Scope} {p : Pos} (h : lcOf e = some (elt, gs, scope, p)) : e = .ListComp elt gs scope p := by
  unfold lcOf at h
  split at h
  · cases h; rfl
  · cases h
theorem snd_N {e : Expr} {f : Rho → R S} (h : sN r c e = some f) : FN X g e f := by
  have hu := o.un
  unfold sN at h
  split at h
  · rename_i es ek
    obtain ⟨fs, hfs, rfl⟩ := Option.map_eq_some_iff.mp h
    unfold nwK at ek
    split at ek <;> first | (cases ek; done) | skip
    cases ek
    exact fn_lst (sd.A c _ fs hfs X g o)
  · rename_i ek
    cases h
    unfold nwK at ek
    split at ek <;> first | (cases ek; done) | skip
    exact fn_dct0 o.prog o.wd
  · rename_i k v ek
    obtain ⟨fk, hk, h⟩ := Option.bind_eq_some_iff.mp h
    obtain ⟨fv, hv, h⟩ := Option.bind_eq_some_iff.mp h
    cases h
    unfold nwK at ek
    split at ek <;> first | (cases ek; done) | skip
    cases ek
    exact fn_dct1 o.prog o.wd (by omega) (sd.E c _ fk hk X g o) (sd.E c _ fv hv X g o)
  · obtain ⟨fe, he, rfl⟩ := Option.map_eq_some_iff.mp h
    exact fn_d (sd.E c _ fe he X g o)
theorem snd_asg1 (hE : r = r) {x : Str} {px pos : Pos} {v : Expr} {f : List Nat → Rho → R Fl} (hlc : ∀ elt gs scope p fl, r.E c (.ListComp elt gs scope p) = some fl → ∃ r', Snd r' ∧ sLc r' c elt gs scope = some fl) (h : sAsg1 r c x px v = some f) : FS X g (.Assign [.Name x px] v pos) (f g.pins) := by
  unfold sAsg1 at h
  obtain ⟨i, hi, hh⟩ := Option.bind_eq_some_iff.mp h
  clear h
  obtain ⟨h1, h2, h3⟩ := o.wr hi
  split at hh
  · rename_i hdc
    obtain ⟨fv, hv, rfl⟩ := Option.map_eq_some_iff.mp hh
    refine fs_asgN o.nd h1 h2 (snd_N sd o hv) (no_swap ?_) h3
    cases v <;> first | rfl | cases hdc
  split at hh
  · rename_i es _ _ ee
    obtain ⟨p, rfl⟩ := asList_some ee
    obtain ⟨fs, hfs, rfl⟩ := Option.map_eq_some_iff.mp hh
    exact fs_own o.nd h1 h2 (sd.A c _ fs hfs X g o) rfl h3
  · rename_i e _ _ ee
    obtain ⟨p, q, rfl⟩ := listCall_some ee
    split at hh
    · rename_i hc
      obtain ⟨fs, hfs, rfl⟩ := Option.map_eq_some_iff.mp hh
      exact fs_ownL o.nd h1 h2 (o.gl hc.1) (o.bn _ (by decide +kernel)) (sd.A c _ fs hfs X g o) (star_cons hc.2) rfl rfl h3
    · cases hh
  · rename_i elt gs scope p _ _ ee
    have ev := lcOf_some ee
    subst ev
    split at hh
    · rename_i hs
      obtain ⟨fl, hfl, rfl⟩ := Option.map_eq_some_iff.mp hh
      obtain ⟨r', sd', hfl'⟩ := hlc _ _ _ _ _ hfl
      obtain ⟨tg, iter, ifs, fsrc, t, cond, fe, rfl, rfl, k1, k2, k3, k4, k5, k6, k7⟩ := snd_lcparts sd' o hfl'
      unfold swapB at hs
      rw [Bool.and_eq_true, Bool.and_eq_true] at hs
      have hl : X.env.scope.names.lookup x = some .local := by rw [o.sc]; exact lclB_ok hs.1.1
      refine PS.imp (ps_setLc (o.calm k7) o.nd h1 hl (sw_true o.kd hl hs.1.2 (by simpa using hs.2)) k3 k2 k4 k5 k6 (folded_plain k1)) fun D σ H h => ?_
      exact lc_imp _ _ _ (asg_imp D σ H h)
    · cases hh
  · split at hh
    · rename_i hn
      obtain ⟨fv, hv, rfl⟩ := Option.map_eq_some_iff.mp hh
      exact fs_asg o.nd h1 h2 (sd.E c _ fv hv X g o) (no_swap hn) h3
    · cases hh
theorem snd_par {x y : Str} {px py pt pt2 pos : Pos} {kt k2 : Nat} {a b : Expr} {f : List Nat → Rho → R Fl} (h : sPar r c x y px py a b = some f) : FS X g (.Assign [.Tuple [.Name x px, .Name y py] kt pt] (.Tuple [a, b] k2 pt2) pos) (f g.pins) := by
  unfold sPar at h
  split at h
  · rename_i hc
    obtain ⟨i, hi, hh0⟩ := Option.bind_eq_some_iff.mp h
    obtain ⟨j, hj, hh⟩ := Option.bind_eq_some_iff.mp hh0
    clear h hh0
    split at hh
    · cases hh
    · rename_i hij
      obtain ⟨h1, h2, h3⟩ := o.wr hi
      obtain ⟨k1, k2', k3⟩ := o.wr hj
      have lx : X.env.scope.names.lookup x = some .local := by rw [o.sc]; exact lclB_ok hc.1
      have ly : X.env.scope.names.lookup y = some .local := by rw [o.sc]; exact lclB_ok hc.2.1
      have sw := swap_ok (kt := kt) (k2 := k2) (pt := pt) (pt2 := pt2) (env := X.env) o.kd lx ly hc.2.2.1 hc.2.2.2.1 hc.2.2.2.2.1
      have cm := o.calm hc.2.2.2.2.2
      split at hh
      · obtain ⟨f1, hf1, hh⟩ := Option.bind_eq_some_iff.mp hh
        obtain ⟨f2, hf2, hh⟩ := Option.bind_eq_some_iff.mp hh
        cases hh
        exact fs_parN cm o.nd h1 k1 hij lx ly (snd_N sd o hf1) (snd_N sd o hf2) (star_cons hc.2.2.1) (star_cons hc.2.2.2.1) sw
      split at hh
      · rename_i es ee
        obtain ⟨p, rfl⟩ := asList_some ee
        obtain ⟨fa, ha, hh⟩ := Option.bind_eq_some_iff.mp hh
        obtain ⟨fs, hfs, hh⟩ := Option.bind_eq_some_iff.mp hh
        cases hh
        exact fs_parO cm o.nd h1 k1 hij lx ly (sd.E c _ fa ha X g o) (sd.A c _ fs hfs X g o) (star_cons hc.2.2.1) sw
      · obtain ⟨fs, hfs, rfl⟩ := Option.map_eq_some_iff.mp hh
        exact fs_par cm o.nd h1 k1 hij lx ly (sd.A c _ fs hfs X g o) sw
  · cases h
omit sd o in
theorem raised_some {e k : Option Expr} {x : Str} (h : raised e k = some x) : ∃ p m j p2 q, e = some (.Call (.Name x p) [.Constant (.str m) j p2] [] q) ∧ k = none := by
  unfold raised at h
  split at h
  · cases h; exact ⟨_, _, _, _, _, rfl, rfl⟩
  · cases h
omit sd in
theorem snd_raise {e k : Option Expr} {pos : Pos} {f : List Nat → Rho → R Fl} (h : sRaise c e k = some f) : FS X g (.Raise e k pos) (f g.pins) := by
  unfold sRaise at h
  obtain ⟨x, hx, hh⟩ := Option.bind_eq_some_iff.mp h
  clear h
  obtain ⟨p, m, j, p2, q, rfl, rfl⟩ := raised_some hx
  split at hh
  · rename_i hc
    obtain ⟨n, hn, rfl⟩ := Option.map_eq_some_iff.mp hh
    have E := o.exc x n (excOf_mem hn)
    obtain ⟨cl, E1⟩ := E.one
    refine PS.imp (ps_raise (o.calm hc.2.2) o.tk (pmk_own PySem.F.excBase_ValueError E1.ex E.gC E1.kC (raises_own E1.bC E1.tC) (o.gl hc.1) (plainN_ok hc.2.1).1)) fun D σ H h => ?_
    obtain ⟨F, ρ, rr, hq⟩ := h
    exact hq σ H F rr
  · cases hh
theorem snd_S (hlc : ∀ elt gs scope p fl, r.E c (.ListComp elt gs scope p) = some fl → ∃ r', Snd r' ∧ sLc r' c elt gs scope = some fl) (hp : Pas X) {s : Stmt} {f : List Nat → Rho → R Fl} (h : sS r c s = some f) : FS X g s (f g.pins) := by
  unfold sS at h
  split at h
  · obtain ⟨fe, he, rfl⟩ := Option.map_eq_some_iff.mp h
    exact fs_ret (sd.E c _ fe he X g o)
  · cases h
    exact fs_pass
  · split at h
    · rename_i hn
      obtain ⟨fe, he, rfl⟩ := Option.map_eq_some_iff.mp h
      exact fs_expr (sd.E c _ fe he X g o) (no_swap hn)
    · cases h
  · obtain ⟨ft, ht, h⟩ := Option.bind_eq_some_iff.mp h
    obtain ⟨fa, ha, h⟩ := Option.bind_eq_some_iff.mp h
    obtain ⟨fb, hb, h⟩ := Option.bind_eq_some_iff.mp h
    cases h
    exact fs_if (sd.T c _ ft ht X g o) (sd.B c _ fa ha X g o hp) (sd.B c _ fb hb X g o hp)
  · rename_i tst body orelse pos
    split at h
    · rename_i hc
      obtain ⟨ft, ht, h⟩ := Option.bind_eq_some_iff.mp h
      obtain ⟨fb, hb, h⟩ := Option.bind_eq_some_iff.mp h
      cases h
      have eo : orelse = [] := by
        cases orelse with
        | nil => rfl
        | cons a b => exact absurd hc (by simp [isNil])
      subst eo
      exact fs_while hp.po (sd.T c _ ft ht X g o) (sd.B c _ fb hb X g o hp)
    · cases h
  · rename_i body hs orelse fin pos
    split at h
    · rename_i hc
      obtain ⟨n, hn, h⟩ := Option.bind_eq_some_iff.mp h
      split at h
      · rename_i hn2
        obtain ⟨i, hi, h⟩ := Option.bind_eq_some_iff.mp h
        obtain ⟨fb, hb, h⟩ := Option.bind_eq_some_iff.mp h
        cases h
        have eo : orelse = [] := by
          cases orelse with
          | nil => rfl
          | cons a b => exact absurd hc.1 (by simp [isNil])
        have ef : fin = [] := by
          cases fin with
          | nil => rfl
          | cons a b => exact absurd hc.2.1 (by simp [isNil])
        subst eo ef
        unfold handOf at hn
        split at hn
        · split at hn
          · rename_i hq
            obtain ⟨e1, e2, e3⟩ := hq
            cases hn
            subst e1 e2 e3
            obtain ⟨m, hm⟩ := Option.isSome_iff_exists.mp hc.2.2.2.1
            obtain ⟨pl1, pl2⟩ := plainN_ok hn2.2
            refine fs_try (o.hot m hm) hp.stk hp.frm o.nd (by rw [o.N]; exact ixOf_get hi) (by rw [o.sc]; exact lclB_ok hn2.1) pl1 pl2 (o.gl hc.2.2.2.2.1) (o.gl hc.2.2.2.2.2) o.tk fun W pn xe tk po => ?_
            exact sd.B c _ fb hb (X.tr pn xe) { g with W := W } (o.tr hc.2.2.1 W pn xe tk) ⟨po, hp.stk, hp.frm⟩
          · cases hn
        · cases hn
      · cases h
    · cases h
  · rename_i tg iter body orelse pos
    split at h
    · rename_i hc
      obtain ⟨fsrc, hs, h⟩ := Option.bind_eq_some_iff.mp h
      obtain ⟨t, ht, h⟩ := Option.bind_eq_some_iff.mp h
      obtain ⟨fb, hb, h⟩ := Option.bind_eq_some_iff.mp h
      cases h
      have eo : orelse = [] := by
        cases orelse with
        | nil => rfl
        | cons a b => exact absurd hc.1 (by simp [isNil])
      subst eo
      refine PS.imp (ps_for hp.po (o.calm hc.2.2) (sd.I c _ _ fsrc hs X g o) (snd_tg o ht) (PSs.ex (α := Option (Nat × Addr)) fun q => sd.B c _ fb hb X (g.pinO q) (o.pinO q) hp) (folded_plain hc.2.1)) for_imp
    · cases h
  · unfold sAsg at h
    split at h
    · exact snd_asg1 sd o rfl hlc h
    · split at h
      · exact snd_par sd o h
      · cases h
    · obtain ⟨i, hi, hh⟩ := Option.bind_eq_some_iff.mp h
      clear h
      split at hh
      · rename_i hnc
        obtain ⟨fv, hv, hh⟩ := Option.bind_eq_some_iff.mp hh
        obtain ⟨fk, hk, hh⟩ := Option.bind_eq_some_iff.mp hh
        cases hh
        obtain ⟨x, p, rfl, hx⟩ := dictIx_some hi
        obtain ⟨h1, h2, h3, h4⟩ := o.rd hx
        have hu := o.un
        exact fs_dset o.prog o.wd (by omega) h1 h2 h3 h4 (sd.E c _ fk hk X g o) (sd.E c _ fv hv X g o) (no_swap hnc)
      · cases hh
    · cases h
  · obtain ⟨i, hi, h⟩ := Option.bind_eq_some_iff.mp h
    obtain ⟨fe, he, rfl⟩ := Option.map_eq_some_iff.mp h
    obtain ⟨h1, h2, h3⟩ := o.wr hi
    exact fs_aug o.nd h1 h2 (sd.E c _ fe he X g o) h3
  · exact snd_raise o h
  · cases h
theorem snd_B (hp : Pas X) : ∀ {ss : List Stmt} {f : List Nat → Rho → R Fl}, sB r c ss = some f → FSs X g ss (f g.pins)
  | [], f, h => by cases h; exact fss_nil
  | s :: ss, f, h => by
    obtain ⟨f1, h1, h⟩ := Option.bind_eq_some_iff.mp (show ((r.S c s).bind fun f => (sB r c ss).bind fun g => some fun P => fSeq (f P) (g P)) = some f from h)
    obtain ⟨f2, h2, h⟩ := Option.bind_eq_some_iff.mp h
    cases h
    exact fss_cons (sd.S c _ f1 h1 X g o hp) (snd_B hp h2)
end
theorem snd_lcE : ∀ k c elt gs scope p fl, (cf k).E c (.ListComp elt gs scope p) = some fl → (∀ j, j < k → Snd (cf j)) → ∃ r', Snd r' ∧ sLc r' c elt gs scope = some fl
  | 0, _, _, _, _, _, _, h, _ => by cases h
  | k + 1, c, elt, gs, scope, p, fl, h, hs => ⟨cf k, hs k (Nat.lt_succ_self k), h⟩
theorem snd_cf : ∀ k, Snd (cf k) := by
  intro k
  induction k using Nat.strongRecOn with
  | ind k ih =>
    cases k with
    | zero =>
      exact ⟨fun _ _ _ h => (by cases h), fun _ _ _ h => (by cases h), fun _ _ _ h => (by cases h), fun _ _ _ h => (by cases h), fun _ _ _ _ h => (by cases h), fun _ _ _ h => (by cases h), fun _ _ _ h => (by cases h)⟩
    | succ k =>
      have sd := ih k (Nat.lt_succ_self k)
      exact ⟨fun c e f h X g o => snd_E sd o h, fun c e f h X g o => snd_A sd o h, fun c e f h => snd_L h, fun c e f h X g o => snd_T sd o h, fun c tg e f h X g o => snd_I sd o h,
        fun c s f h X g o hp => snd_S sd o (fun elt gs scope p fl hfl => snd_lcE k c elt gs scope p fl hfl fun j hj => ih j (Nat.lt_succ_of_lt hj)) hp h, fun c s f h X g o hp => snd_B sd o hp h⟩
end FL

namespace FL
open PySem L2 PyProof.Rows

structure Known (P : Program) (w : World) (K : PySem.W.Frag) (mg : Str → Option Value) (base : Heap) (z : Z) (k : Nat) (x : Str) (n : Nat) (m : FM) : Prop where
  ex : ∃ (k' : Nat) (f : Addr) (fd : FuncData) (ps : List Str), k' ≤ k ∧ FnOk P w K mg base (L2.CX P w) k' f fd ps (spF z n m) ∧ mg x = some (.ref f) ∧ PySem.W.keepIn K (.ref f) = true ∧ Binds K fd ps []
def KnownAll (P : Program) (w : World) (K : PySem.W.Frag) (mg : Str → Option Value) (base : Heap) (z : Z) (k : Nat) : List (Str × Nat × FM) → Prop
  | [] => True
  | (x, n, m) :: r => Known P w K mg base z k x n m ∧ KnownAll P w K mg base z k r
def ExcAll (K : PySem.W.Frag) (mg : Str → Option Value) (z : Z) : List (Str × Nat) → Prop
  | [] => True
  | (x, n) :: r => ExcAt K mg z x n ∧ ExcAll K mg z r
theorem ExcAll.mem {K : PySem.W.Frag} {mg : Str → Option Value} {z : Z} : ∀ {l : List (Str × Nat)}, ExcAll K mg z l → ∀ x n, (x, n) ∈ l → ExcAt K mg z x n
  | [], _, _, _, h => by cases h
  | (y, n') :: r, ⟨h1, h2⟩, x, n, h => by
    rcases List.mem_cons.mp h with e | h
    · cases e; exact h1
    · exact ExcAll.mem h2 x n h
section
variable {P : Program} {w : World} {K : PySem.W.Frag} {mg : Str → Option Value} {base : Heap} {z : Z} {k : Nat}
theorem Known.up {k' : Nat} {x : Str} {n : Nat} {m : FM} (h : Known P w K mg base z k x n m) (hk : k ≤ k' := by decide) : Known P w K mg base z k' x n m := by
  obtain ⟨j, f, fd, ps, h1, h2⟩ := h.ex
  exact ⟨j, f, fd, ps, Nat.le_trans h1 hk, h2⟩
theorem KnownAll.mem : ∀ {l : List (Str × Nat × FM)}, KnownAll P w K mg base z k l → ∀ x n m, (x, n, m) ∈ l → Known P w K mg base z k x n m
  | [], _, _, _, _, h => by cases h
  | (y, n', m') :: r, ⟨h1, h2⟩, x, n, m, h => by
    rcases List.mem_cons.mp h with e | h
    · cases e; exact h1
    · exact KnownAll.mem h2 x n m h
/-- what a def that catches errors leans on -/
structure HotK (P : Program) (w : World) (K : PySem.W.Frag) (mg : Str → Option Value) (base : Heap) (z : Z) (k : Nat) (m : FM) : Prop where
  ex : ∃ (cl : Addr) (j : Nat) (f : Addr) (fd : FuncData), j ≤ k ∧ mg (Str.ofString "LineError") = some (.ref cl) ∧ ExcAllP K cl z.cls ∧ mg (Str.ofString "_law_which") = some (.ref f) ∧ PySem.W.keepIn K (.ref f) = true ∧ Binds K fd [Str.ofString "e"] [] ∧ (∀ c, c < 10 → m [.e c] = .ret (.d (rsd c)) [.e c]) ∧
    ∀ a oe c, c < 10 → Zc (.ref (z.cls c)) none oe → (∃ vs, oe.data = .fields vs) → FnE P w K mg base j f fd [Str.ofString "e"] (a, oe) (spF { z with ex := some (a, c) } 1 m)
theorem HotK.up {k' : Nat} {m : FM} (h : HotK P w K mg base z k m) (hk : k ≤ k' := by decide) : HotK P w K mg base z k' m := by
  obtain ⟨cl, j, f, fd, h1, h2⟩ := h.ex
  exact ⟨cl, j, f, fd, Nat.le_trans h1 hk, h2⟩
def HotO (P : Program) (w : World) (K : PySem.W.Frag) (mg : Str → Option Value) (base : Heap) (z : Z) (k : Nat) : Option FM → Prop
  | none => True
  | some m => HotK P w K mg base z k m
/-- a def of the text, by what the compiler made of it -/
theorem def_ok {x qual : Str} {st : Stmt} {f : Addr} {fd : FuncData} {N ps : List Str} {cal : List (Str × Nat × FM)} {exc : List (Str × Nat)} {dn : List Str} {tr : Option FM} {body : List Nat → Rho → R Fl} (q : Nat) (Fn : Fun K x qual st f fd) (S : FnScope N ps (defScope st))
    (hc : (cf q).B ⟨N, defScope st, true, defScope st, cal, exc, true, dn, tr⟩ (defBody st) = some body) (hK : K = z.K) (hP : z.prog = P) (hW' : z.wd = w) (bn : ∀ y, bnames.contains y = true → mg y = none) (ca : KnownAll P w K mg base z k cal) (ea : ExcAll K mg z exc) (ha : HotO P w K mg base z k tr) :
    FnOk P w K mg base (L2.CX P w) (k + 1) f fd ps (spF z ps.length (runF N.length body)) := by
  have hpl : ps.length ≤ N.length := by have := congrArg List.length S.pre; rw [List.length_take] at this; omega
  refine fn_sound Fn S hpl fun cdv A outer s H E g hz hW hr => ?_
  refine (snd_cf q).B _ _ _ hc _ g ⟨rfl, S.nd, rfl, S.kind, fun _ _ => rfl, fun _ => rfl, (by rw [show g.prog = z.prog from congrArg Z.prog hz]; exact hP), (by rw [show g.wd = z.wd from congrArg Z.wd hz]; exact hW'), (fun h => by cases h), ?_, (by rw [hz]; exact hK), ?_, bn, ?_, ?_, ?_⟩ ⟨passes_of rfl, rfl, rfl⟩
  · intro m hm
    rw [hz]
    have hm' : tr = some m := hm
    subst hm'
    obtain ⟨cl, j, fw, fdw, h1, h2, h3, h4, h5, h6, h7, h8⟩ := (show HotK P w K mg base z k m from ha).ex
    exact ⟨cl, j, fw, fdw, h2, h3, h4, h5, h6, hr.mono h1, h7, h8⟩
  · have := hr.un
    show (A.deeper (envOfC qual (defScope st) s.heap.objs.size f cdv)).units + 65 < cLine
    omega
  · intro y n m hm
    obtain ⟨j, f', fd', ps', h1, h2, h3, h4, h5⟩ := (ca.mem y n m hm).ex
    rw [hz]
    exact ⟨j, f', fd', ps', h2, hr.mono h1, h3, h4, h5⟩
  · rw [hz]
    exact ea.mem
  · rw [hW]
    exact takes_of rfl rfl rfl rfl
theorem known_of {x : Str} {st : Stmt} {f : Addr} {fd : FuncData} {N ps : List Str} {cal : List (Str × Nat × FM)} {exc : List (Str × Nat)} {dn : List Str} {tr : Option FM} {body : List Nat → Rho → R Fl} (q : Nat) (Fn : Fun K x x st f fd) (hx : mg x = some (.ref f)) (hb : Binds K fd ps []) (S : FnScope N ps (defScope st))
    (hc : (cf q).B ⟨N, defScope st, true, defScope st, cal, exc, true, dn, tr⟩ (defBody st) = some body) (hK : K = z.K) (hP : z.prog = P) (hW' : z.wd = w) (bn : ∀ y, bnames.contains y = true → mg y = none) (ca : KnownAll P w K mg base z k cal) (ea : ExcAll K mg z exc) (ha : HotO P w K mg base z k tr) :
    Known P w K mg base z (k + 1) x ps.length (runF N.length body) := ⟨k + 1, f, fd, ps, Nat.le_refl _, def_ok q Fn S hc hK hP hW' bn ca ea ha, hx, Fn.kp, hb⟩
open L2H in
/-- the def that names a caught error -/
theorem hot_of {st : Stmt} {f cl : Addr} {fd : FuncData} {N : List Str} {exc : List (Str × Nat)} {body : List Nat → Rho → R Fl} (q : Nat) (Fn : Fun K (Str.ofString "_law_which") (Str.ofString "_law_which") st f fd) (hx : mg (Str.ofString "_law_which") = some (.ref f)) (hb : Binds K fd [Str.ofString "e"] []) (S : FnScope N [Str.ofString "e"] (defScope st))
    (hc : (cf q).B ⟨N, defScope st, true, defScope st, [], exc, false, [], none⟩ (defBody st) = some body) (hK : K = z.K) (hP : z.prog = P) (hW' : z.wd = w) (bn : ∀ y, bnames.contains y = true → mg y = none) (ea : ExcAll K mg z exc) (hcl : mg (Str.ofString "LineError") = some (.ref cl)) (EA : ExcAllP K cl z.cls)
    (hm : ∀ c, c < 10 → runF N.length body [.e c] = .ret (.d (rsd c)) [.e c]) : HotK P w K mg base z (k + 1) (runF N.length body) := by
  refine ⟨cl, k + 1, f, fd, Nat.le_refl _, hcl, EA, hx, Fn.kp, hb, hm, fun a oe c hc' hz' hv => ?_⟩
  have hpl : [Str.ofString "e"].length ≤ N.length := by have := congrArg List.length S.pre; rw [List.length_take] at this; omega
  refine fn_soundE Fn S hpl fun cdv A outer s H E g hz hW hr => ?_
  refine (snd_cf q).B _ _ _ hc _ g ⟨rfl, S.nd, rfl, S.kind, fun _ _ => rfl, fun h => (by cases h), ((congrArg Z.prog hz).trans hP), ((congrArg Z.wd hz).trans hW'), (fun _ => ?_), (fun m h => by cases h), (by rw [hz]; exact hK), ?_, bn, (fun y n m h => by cases h), ?_, ?_⟩ ⟨passes_of rfl, rfl, rfl⟩
  · rw [hz]
    intro a' c' h
    cases h
    exact ⟨hc', oe, List.mem_singleton.mpr rfl, hz', hv, cl, EA⟩
  · have := hr.un
    show (A.deeper (envOfC (Str.ofString "_law_which") (defScope st) s.heap.objs.size f cdv)).units + 65 < cLine
    omega
  · rw [hz]
    intro x n h
    have A := ea.mem x n h
    exact ⟨A.gC, A.lt, A.one⟩
  · rw [hW]
    exact takes_of rfl rfl rfl rfl
end
/-- the built-ins' names, from the facts of the written part -/
def BN (K : PySem.W.Frag) : List Str → Prop
  | [] => True
  | y :: r => PySem.W.nsIn K mainGlobals y = some none ∧ BN K r
theorem BN.mem {K : PySem.W.Frag} : ∀ {l : List Str}, BN K l → ∀ y ∈ l, PySem.W.nsIn K mainGlobals y = some none
  | [], _, _, h => by cases h
  | x :: r, ⟨h1, h2⟩, y, h => by
    rcases List.mem_cons.mp h with e | h
    · rw [e]; exact h1
    · exact BN.mem h2 y h
theorem bn_of {K : PySem.W.Frag} {h : Heap} {mg : Str → Option Value} (X : K.In h) (G : h.Ns mainGlobals mg) (a : BN K bnames) : ∀ y, bnames.contains y = true → mg y = none := fun y hy =>
  PySem.W.mg_none_of X G (a.mem y (by simpa using hy))
/-- a law's promise: a list of ints is handed in, True comes out -/
def spL (K : PySem.W.Frag) : Sp := fun vs H Q _ => ∃ (a : Addr) (ns : List Int), vs = [.ref a] ∧ SqL K H a (ns.map V.int) ∧ ns.length ≤ 63 ∧ ∀ H', Q (.bl true) H'
theorem spL_of {z : Z} {m : FM} (hm : ∀ ns : List Int, ns.length ≤ 63 → ∃ ss, m [.z ns] = .ret (.d (.bool true)) ss) (vs : List V) (H : Hp) (Q : VK) (E : XK) (h : spL z.K vs H Q E) : spF z 1 m vs H Q E := by
  obtain ⟨a, ns, rfl, hS, hl, k⟩ := h
  obtain ⟨ss, h⟩ := hm ns hl
  have sub : Sub (fun b => if b = a then H b else none) H := fun b o e => by
    have e' : (if b = a then H b else none) = some o := e
    split at e'
    · exact e'
    · cases e'
  have hF : SqL z.K (fun b => if b = a then H b else none) a (ns.map V.int) := by
    have e : (fun b => if b = a then H b else none) a = H a := if_pos rfl
    rcases hS with (r | ⟨o, r⟩) | r
    · exact .inl (.inl (e.trans r))
    · exact .inl (.inr ⟨o, e.trans r⟩)
    · exact .inr r
  refine ⟨rfl, fun b => if b = a then H b else none, [.z ns], ⟨sub, rfl, fun i s e => ?_, fun i j b ne ⟨s, v, h1, h2, h3⟩ => ?_⟩, ?_⟩
  · cases i with
    | zero => simp at e; subst e; exact ⟨_, rfl, a, rfl, hF⟩
    | succ i => simp at e
  · cases i with
    | zero => simp at h1; subst h1; exact h3.elim
    | succ i => simp at h1
  · rw [h]
    intro v H' F' p d
    cases d
    exact k H'
theorem walk {l : PySem.W.OpenLaw} {q : Program} {loose : List Str} {XP : (Str → Option Value) → Heap → Prop} {YP : World → Heap → Prop} {d : DefRec} {K : Params → PySem.W.Frag} {k : Nat} (hk : Room k callerA) (hn : l.most = some 63) (hdf : d.params.defaults = [])
    (hY : ∀ (w : World) (h : Heap), YP w h → (K w.params).In h)
    (F : ∀ (w : World) (mg : Str → Option Value) (fa : Addr) (h : Heap), (K w.params).In h → h.Ns mainGlobals mg → mg d.name = some (.ref fa) →
      ∃ fd : FuncData, (∀ (s : Shared) (u : Value), BindsTo s fd ⟨[u], []⟩ [("script", u)]) ∧ ∀ base : Heap, (K w.params).In base → base.Ns mainGlobals mg → FnOk l.prog w (K w.params) mg base (L2.CX l.prog w) k fa fd ["script"] (spL (K w.params))) :
    PySem.W.WalkO q loose XP YP l.row.toRowW d [] (fun f vs => PySem.call f vs) :=
  L2.walk_of (n := 63) (k := k) (x := "script") (CX := fun w => L2.CX l.prog w) (sp := fun w => spL (K w.params)) hn (by decide) hdf hk hY F (fun w H a ns hl _ hS => ⟨a, ns, rfl, hS, hl, fun _ => rfl⟩)
    fun w H s e s' ⟨_, _, _, _, _, _, _, _, _, _, _, _, x⟩ => x
end FL

namespace FL
open PySem L2 PyProof.Rows
def b_is_integer : List Nat → Rho → R Fl := fun P => (fSeq (fRet P (fAnd (fIsi .int (fVar 0)) (fAnd (fNot (fIsi .bool (fVar 0))) (fChain leD leD (fVar 1) (fVar 0) (fVar 2))))) fNext)
def m_is_integer : FM := runF 3 b_is_integer
def b_check_size : List Nat → Rho → R Fl := fun P => (fSeq (fIfS (tfNot (asB (fCall m_is_integer (fCons (fVar 0) (fCons (fD (.int 1)) (fCons (fD (.int 3)) fNil)))))) (fSeq (fRaise 0) fNext) fNext) fNext)
def m_check_size : FM := runF 1 b_check_size
def b_fits : List Nat → Rho → R Fl := fun P => (fSeq (fRet P (fAnd (fIsi .tuple (fVar 1)) (fAnd (fBin eqD (fCB lenD (fCons (fVar 1) fNil)) (fVar 0)) (fCB allD (fCons (fLc (fSrc (fVar 1)) (.n 2) [2] fYes (fCall m_is_integer (fCons (fVar 2) (fCons (fD (.int 0)) (fCons (fD (.int 2)) fNil))))) fNil))))) fNext)
def m_fits : FM := runF 3 b_fits
def b_is_place : List Nat → Rho → R Fl := fun P => (fSeq (fDrop (fCall m_check_size (fCons (fVar 0) fNil))) (fSeq (fRet P (fCall m_fits (fCons (fVar 0) (fCons (fVar 1) fNil)))) fNext))
def m_is_place : FM := runF 2 b_is_place
def b_all_places : List Nat → Rho → R Fl := fun P => (fSeq (fOwn P 1 (fCons (fTup fNil) fNil)) (fSeq (fFor (fSrcs (fun _ => rangeOf) (fCons (fVar 0) fNil)) (.n 2) (fun P => (fSeq (fOwn P 3 fNil) (fSeq (fFor (fSrc (fVar 1)) (.n 4) (fun P => (fSeq (fDrop (fExt 3 (fCons (fLc (fSrcs (fun _ => rangeOf) (fCons (fD (.int 3)) fNil)) (.n 5) [5] fYes (fBin addD (fVar 4) (fTup (fCons (fVar 5) fNil)))) fNil))) fNext)) P) (fSeq (fAsg P 1 (fVar 3)) fNext)))) P) (fSeq (fRet P (fVar 1)) fNext)))
def m_all_places : FM := runF 6 b_all_places
def b_third_of : List Nat → Rho → R Fl := fun P => (fSeq (fRet P (fCB tupleD (fCons (fLc (fSrcs (fun _ => zipOf) (fCons (fVar 0) (fCons (fVar 1) fNil))) (.p 2 3) [2, 3] fYes (fBin modD (fBin subD (fBin subD (fD (.int 0)) (fVar 2)) (fVar 3)) (fD (.int 3)))) fNil))) fNext)
def m_third_of : FM := runF 4 b_third_of
def b_line_list : List Nat → Rho → R Fl := fun P => (fSeq (fOwn P 1 fNil) (fSeq (fFor (fSrcs enumOf (fCons (fVar 0) fNil)) (.p 2 3) (fun P => (fSeq (fFor (fSrc (fSl (fVar 0) (fPart (fBin addD (fVar 2) (fD (.int 1)))) fNoPart)) (.n 4) (fun P => (fSeq (fAsg P 5 (fCall m_third_of (fCons (fVar 3) (fCons (fVar 4) fNil)))) (fSeq (fIfS (tfAnd (asB (fBin ltD (fVar 4) (fVar 5))) (asB (fBin inD (fVar 5) (fVar 0)))) (fSeq (fDrop (fApp 1 (fCons (fTup (fCons (fVar 3) (fCons (fVar 4) (fCons (fVar 5) fNil)))) fNil))) fNext) fNext) fNext))) P) fNext)) P) (fSeq (fRet P (fVar 1)) fNext)))
def m_line_list : FM := runF 6 b_line_list
def b_lines : List Nat → Rho → R Fl := fun P => (fSeq (fDrop (fCall m_check_size (fCons (fVar 0) fNil))) (fSeq (fRet P (fCall m_line_list (fCons (fCall m_all_places (fCons (fVar 0) fNil)) fNil))) fNext))
def m_lines : FM := runF 1 b_lines
def b_third : List Nat → Rho → R Fl := fun P => (fSeq (fDrop (fCall m_check_size (fCons (fVar 0) fNil))) (fSeq (fIfS (tfOr (tfNot (asB (fCall m_fits (fCons (fVar 0) (fCons (fVar 1) fNil))))) (tfOr (tfNot (asB (fCall m_fits (fCons (fVar 0) (fCons (fVar 2) fNil))))) (asB (fBin eqD (fVar 1) (fVar 2))))) (fSeq (fRaise 1) fNext) fNext) (fSeq (fRet P (fCall m_third_of (fCons (fVar 1) (fCons (fVar 2) fNil)))) fNext)))
def m_third : FM := runF 3 b_third
def b_is_line : List Nat → Rho → R Fl := fun P => (fSeq (fDrop (fCall m_check_size (fCons (fVar 0) fNil))) (fSeq (fIfS (tfOr (tfNot (asB (fIsi .tuple (fVar 1)))) (tfOr (asB (fBin neD (fCB lenD (fCons (fVar 1) fNil)) (fD (.int 3)))) (tfNot (asB (fCB allD (fCons (fLc (fSrc (fVar 1)) (.n 2) [2] fYes (fCall m_fits (fCons (fVar 0) (fCons (fVar 2) fNil)))) fNil)))))) (fSeq (fRet P (fD (.bool false))) fNext) fNext) (fSeq (fRet P (fAnd (fChain ltD ltD (fBin idxD (fVar 1) (fD (.int 0))) (fBin idxD (fVar 1) (fD (.int 1))) (fBin idxD (fVar 1) (fD (.int 2)))) (fBin eqD (fCall m_third_of (fCons (fBin idxD (fVar 1) (fD (.int 0))) (fCons (fBin idxD (fVar 1) (fD (.int 1))) fNil))) (fBin idxD (fVar 1) (fD (.int 2)))))) fNext)))
def m_is_line : FM := runF 3 b_is_line
def b__law_cell_at : List Nat → Rho → R Fl := fun P => (fSeq (fIfS (asB (fBin ltD (fVar 1) (fZlen 0))) (fSeq (fRet P (fZidx 0 (fVar 1))) fNext) fNext) (fSeq (fIfS (asB (fZnil 0)) (fSeq (fRet P (fD (.int 0))) fNext) fNext) (fSeq (fAsg P 2 (fZidx 0 (fBin modD (fVar 1) (fZlen 0)))) (fSeq (fFor (fSrcs (fun _ => rangeOf) (fCons (fCB minLD (fCons (fBin fdivD (fVar 1) (fZlen 0)) (fCons (fD (.int 60)) fNil))) fNil)) (.n 3) (fun P => (fSeq (fAsg P 2 (fBin fdivD (fVar 2) (fD (.int 1000003)))) fNext)) P) (fSeq (fRet P (fBin addD (fBin addD (fBin mulD' (fZidx 0 (fBin modD (fVar 1) (fZlen 0))) (fD (.int 31))) (fVar 1)) (fBin mulD' (fVar 2) (fD (.int 101))))) fNext)))))
def m__law_cell_at : FM := runF 4 b__law_cell_at
def b__law_mixed : List Nat → Rho → R Fl := fun P => (fSeq (fAsg P 3 (fBin modD (fBin addD (fBin addD (fBin mulD' (fCall m__law_cell_at (fCons (fVar 0) (fCons (fVar 1) fNil))) (fD (.int 1103515245))) (fBin mulD' (fD (.int 7919)) (fVar 1))) (fD (.int 12345))) (fD (.int 2147483647)))) (fSeq (fRet P (fBin modD (fBin modD (fBin modD (fBin powD (fVar 3) (fD (.int 5))) (fD (.int 2147483647))) (fD (.int 999983))) (fVar 2))) fNext))
def m__law_mixed : FM := runF 4 b__law_mixed
def b__law_draw : List Nat → Rho → R Fl := fun P => (fSeq (fDrop (fApp 1 (fCons (fD (.int 0)) fNil))) (fSeq (fRet P (fCall m__law_mixed (fCons (fVar 0) (fCons (fCB lenD (fCons (fVar 1) fNil)) (fCons (fVar 2) fNil))))) fNext))
def m__law_draw : FM := runF 3 b__law_draw
def b__law_pick : List Nat → Rho → R Fl := fun P => (fSeq (fRet P (fBin idxD (fVar 2) (fCall m__law_draw (fCons (fVar 0) (fCons (fVar 1) (fCons (fCB lenD (fCons (fVar 2) fNil)) fNil)))))) fNext)
def m__law_pick : FM := runF 3 b__law_pick
def b__law_same_truth : List Nat → Rho → R Fl := fun P => (fSeq (fRet P (fAnd (fIsi .bool (fVar 0)) (fBin eqD (fVar 0) (fVar 1)))) fNext)
def m__law_same_truth : FM := runF 2 b__law_same_truth
def b__law_grid : List Nat → Rho → R Fl := fun P => (fSeq (fOwn P 1 fNil) (fSeq (fFor (fSrcs (fun _ => rangeOf) (fCons (fBin idxD (fLst (fCons (fD (.int 3)) (fCons (fD (.int 9)) (fCons (fD (.int 27)) fNil)))) (fBin subD (fVar 0) (fD (.int 1)))) fNil)) (.n 2) (fun P => (fSeq (fDrop (fApp 1 (fCons (fCB tupleD (fCons (fLc (fSrc (fSl (fLst (fCons (fD (.int 9)) (fCons (fD (.int 3)) (fCons (fD (.int 1)) fNil)))) (fPart (fBin subD (fD (.int 3)) (fVar 0))) fNoPart)) (.n 3) [3] fYes (fBin modD (fBin fdivD (fVar 2) (fVar 3)) (fD (.int 3)))) fNil)) fNil))) fNext)) P) (fSeq (fRet P (fVar 1)) fNext)))
def m__law_grid : FM := runF 4 b__law_grid
def b__law_rowed : List Nat → Rho → R Fl := fun P => (fSeq (fRet P (fBin eqD (fLc (fSrcs (fun _ => rangeOf) (fCons (fCB lenD (fCons (fVar 0) fNil)) fNil)) (.n 3) [3] (asB (fBin eqD (fLenSet (fLst (fCons (fBin idxD (fVar 0) (fVar 3)) (fCons (fBin idxD (fVar 1) (fVar 3)) (fCons (fBin idxD (fVar 2) (fVar 3)) fNil))))) (fD (.int 2)))) (fD (.int 1))) (fLst fNil))) fNext)
def m__law_rowed : FM := runF 4 b__law_rowed
def b__law_rows_in : List Nat → Rho → R Fl := fun P => (fSeq (fOwn P 1 fNil) (fSeq (fFor (fSrcs enumOf (fCons (fVar 0) fNil)) (.p 2 3) (fun P => (fSeq (fFor (fSrcs enumOf (fCons (fSl (fVar 0) (fPart (fBin addD (fVar 2) (fD (.int 1)))) fNoPart) fNil)) (.p 4 5) (fun P => (fSeq (fFor (fSrc (fSl (fVar 0) (fPart (fBin addD (fBin addD (fVar 2) (fVar 4)) (fD (.int 2)))) fNoPart)) (.n 6) (fun P => (fSeq (fIfS (asB (fCall m__law_rowed (fCons (fVar 3) (fCons (fVar 5) (fCons (fVar 6) fNil))))) (fSeq (fDrop (fApp 1 (fCons (fTup (fCons (fVar 3) (fCons (fVar 5) (fCons (fVar 6) fNil)))) fNil))) fNext) fNext) fNext)) P) fNext)) P) fNext)) P) (fSeq (fRet P (fVar 1)) fNext)))
def m__law_rows_in : FM := runF 7 b__law_rows_in
def b__law_which : List Nat → Rho → R Fl := fun P => (fSeq (fOwn P 1 (fCons (fIsE (some 0) 0) (fCons (fIsE (some 1) 0) (fCons (fIsE (some 2) 0) fNil)))) (fSeq (fDrop (fExt 1 (fCons (fLst (fCons (fIsE (some 3) 0) (fCons (fIsE (some 4) 0) (fCons (fIsE (some 5) 0) fNil)))) fNil))) (fSeq (fDrop (fExt 1 (fCons (fLst (fCons (fIsE (some 6) 0) (fCons (fIsE (some 7) 0) (fCons (fIsE (some 8) 0) fNil)))) fNil))) (fSeq (fDrop (fApp 1 (fCons (fIsE (some 9) 0) fNil))) (fSeq (fIfS (tfOr (asB (fBin neD (fCnt 1 (fCons (fD (.bool true)) fNil)) (fD (.int 1)))) (tfNot (asB (fIsE none 0)))) (fSeq (fRet P (fTup (fCons (fD (.str (Str.ofString "raised"))) (fCons (fNeg (fD (.int 1))) fNil)))) fNext) fNext) (fSeq (fRet P (fTup (fCons (fD (.str (Str.ofString "raised"))) (fCons (fIdxT 1) fNil)))) fNext))))))
def m__law_which : FM := runF 2 b__law_which
def b_lies : List Nat → Rho → R Fl := fun P => (fSeq (fIfS (tfOr (tfNot (asB (fIsi .tuple (fVar 1)))) (tfNot (asB (fCB allD (fCons (fLc (fSrc (fVar 1)) (.n 4) [4] fYes (fCall m_fits (fCons (fVar 0) (fCons (fVar 4) fNil)))) fNil))))) (fSeq (fRet P (fD (.bool false))) fNext) fNext) (fSeq (fRet P (fCB allD (fCons (fLc (fSrcs (fun _ => zipOf) (fCons (fVar 1) (fCons (fSl (fVar 1) (fPart (fD (.int 1))) fNoPart) fNil))) (.p 2 3) [2, 3] fYes (fBin ltD (fVar 2) (fVar 3))) fNil))) fNext))
def m_lies : FM := runF 5 b_lies
def b_is_set : List Nat → Rho → R Fl := fun P => (fSeq (fDrop (fCall m_check_size (fCons (fVar 0) fNil))) (fSeq (fRet P (fCall m_lies (fCons (fVar 0) (fCons (fVar 1) fNil)))) fNext))
def m_is_set : FM := runF 2 b_is_set
def b_check_set : List Nat → Rho → R Fl := fun P => (fSeq (fDrop (fCall m_check_size (fCons (fVar 0) fNil))) (fSeq (fIfS (tfNot (asB (fCall m_lies (fCons (fVar 0) (fCons (fVar 1) fNil))))) (fSeq (fRaise 2) fNext) fNext) fNext))
def m_check_set : FM := runF 2 b_check_set
def b_lines_in : List Nat → Rho → R Fl := fun P => (fSeq (fDrop (fCall m_check_set (fCons (fVar 0) (fCons (fVar 1) fNil)))) (fSeq (fRet P (fCall m_line_list (fCons (fVar 1) fNil))) fNext))
def m_lines_in : FM := runF 2 b_lines_in
def b_is_free : List Nat → Rho → R Fl := fun P => (fSeq (fDrop (fCall m_check_set (fCons (fVar 0) (fCons (fVar 1) fNil)))) (fSeq (fRet P (fBin eqD (fCall m_line_list (fCons (fVar 1) fNil)) (fLst fNil))) fNext))
def m_is_free : FM := runF 2 b_is_free
def b_first_line : List Nat → Rho → R Fl := fun P => (fSeq (fDrop (fCall m_check_set (fCons (fVar 0) (fCons (fVar 1) fNil)))) (fSeq (fAsg P 2 (fCall m_line_list (fCons (fVar 1) fNil))) (fSeq (fIfS (asB (fBin eqD (fVar 2) (fLst fNil))) (fSeq (fRaise 5) fNext) fNext) (fSeq (fRet P (fBin idxD (fVar 2) (fD (.int 0)))) fNext))))
def m_first_line : FM := runF 3 b_first_line
def b_count_pure : List Nat → Rho → R Fl := fun P => (fSeq (fDrop (fCall m_check_set (fCons (fVar 0) (fCons (fVar 1) fNil)))) (fSeq (fAsg P 2 (fCB lenD (fCons (fCall m_all_places (fCons (fVar 0) fNil)) fNil))) (fSeq (fRet P (fBin subD (fBin fdivD (fBin mulD' (fVar 2) (fBin subD (fVar 2) (fD (.int 1)))) (fD (.int 6))) (fBin fdivD (fBin mulD' (fCB lenD (fCons (fVar 1) fNil)) (fBin subD (fVar 2) (fCB lenD (fCons (fVar 1) fNil)))) (fD (.int 2))))) fNext)))
def m_count_pure : FM := runF 3 b_count_pure
def b__law_same_number : List Nat → Rho → R Fl := fun P => (fSeq (fRet P (fAnd (fIsi .int (fVar 0)) (fAnd (fNot (fIsi .bool (fVar 0))) (fBin eqD (fVar 0) (fVar 1))))) fNext)
def m__law_same_number : FM := runF 2 b__law_same_number
def b__law_hits : List Nat → Rho → R Fl := fun P => (fSeq (fFor (fSrcs enumOf (fCons (fVar 0) fNil)) (.p 2 3) (fun P => (fSeq (fIfS (asB (fBin neD (fLc (fSrc (fSl (fVar 0) (fPart (fBin addD (fVar 2) (fD (.int 1)))) fNoPart)) (.n 4) [4] (asB (fCall m__law_rowed (fCons (fVar 3) (fCons (fVar 4) (fCons (fVar 1) fNil))))) (fD (.int 1))) (fLst fNil))) (fSeq (fRet P (fD (.bool true))) fNext) fNext) fNext)) P) (fSeq (fRet P (fD (.bool false))) fNext))
def m__law_hits : FM := runF 5 b__law_hits
def b__law_some_set : List Nat → Rho → R Fl := fun P => (fSeq (fParO P 4 5 (fCall m__law_grid (fCons (fVar 2) fNil)) fNil) (fSeq (fAsg P 6 (fBin eqD (fCall m__law_draw (fCons (fVar 0) (fCons (fVar 1) (fCons (fD (.int 2)) fNil)))) (fD (.int 0)))) (fSeq (fFor (fSrcs (fun _ => rangeOf) (fCons (fCall m__law_draw (fCons (fVar 0) (fCons (fVar 1) (fCons (fBin addD (fVar 3) (fD (.int 1))) fNil)))) fNil)) (.n 7) (fun P => (fSeq (fAsg P 8 (fCall m__law_pick (fCons (fVar 0) (fCons (fVar 1) (fCons (fVar 4) fNil))))) (fSeq (fIfS (tfAnd (asB (fBin notInD (fVar 8) (fVar 5))) (tfNot (tfAnd (asB (fVar 6)) (asB (fCall m__law_hits (fCons (fVar 5) (fCons (fVar 8) fNil))))))) (fSeq (fDrop (fApp 5 (fCons (fVar 8) fNil))) fNext) fNext) fNext))) P) (fSeq (fRet P (fCB tupleD (fCons (fCB sortD (fCons (fVar 5) fNil)) fNil))) fNext))))
def m__law_some_set : FM := runF 9 b__law_some_set
def b_check_free : List Nat → Rho → R Fl := fun P => (fSeq (fDrop (fCall m_check_set (fCons (fVar 0) (fCons (fVar 1) fNil)))) (fSeq (fIfS (asB (fBin neD (fCall m_line_list (fCons (fVar 1) fNil)) (fLst fNil))) (fSeq (fRaise 6) fNext) fNext) fNext))
def m_check_free : FM := runF 2 b_check_free
abbrev C_open_list_0 : Rho → R W := (fLc (fSrc (fCall m_all_places (fCons (fVar 0) fNil))) (.n 6) [6] (asB (fDin true 2 (fVar 6))) (fVar 6))
abbrev B_open_list_1 : List Nat → Rho → R Fl := fun P => (fSeq (fDset 2 (fD (.bool true)) (fCall m_third_of (fCons (fVar 4) (fCons (fVar 5) fNil)))) fNext)
abbrev L_open_list_2 : List Nat → Rho → R Fl := fun P => (fFor (fSrc (fSl (fVar 1) (fPart (fBin addD (fVar 3) (fD (.int 1)))) fNoPart)) (.n 5) B_open_list_1 P)
abbrev B_open_list_3 : List Nat → Rho → R Fl := fun P => (fSeq (fDset 2 (fD (.bool true)) (fVar 4)) (fSeq (L_open_list_2 P) fNext))
abbrev L_open_list_4 : List Nat → Rho → R Fl := fun P => (fFor (fSrcs enumOf (fCons (fVar 1) fNil)) (.p 3 4) B_open_list_3 P)
def b_open_list : List Nat → Rho → R Fl := fun P => (fSeq (fAsgN P 2 nDct0) (fSeq (L_open_list_4 P) (fSeq (fRet P C_open_list_0) fNext)))
def m_open_list : FM := runF 7 b_open_list
def b_open_places : List Nat → Rho → R Fl := fun P => (fSeq (fDrop (fCall m_check_free (fCons (fVar 0) (fCons (fVar 1) fNil)))) (fSeq (fRet P (fCall m_open_list (fCons (fVar 0) (fCons (fVar 1) fNil)))) fNext))
def m_open_places : FM := runF 2 b_open_places
def b_is_complete : List Nat → Rho → R Fl := fun P => (fSeq (fDrop (fCall m_check_free (fCons (fVar 0) (fCons (fVar 1) fNil)))) (fSeq (fRet P (fBin eqD (fCall m_open_list (fCons (fVar 0) (fCons (fVar 1) fNil))) (fLst fNil))) fNext))
def m_is_complete : FM := runF 2 b_is_complete
abbrev B_completed_0 : List Nat → Rho → R Fl := fun P => (fSeq (fAsg P 1 (fCB tupleD (fCons (fCB sortD (fCons (fBin addD (fVar 1) (fTup (fCons (fBin idxD (fVar 2) (fD (.int 0))) fNil))) fNil)) fNil))) (fSeq (fAsg P 2 (fCall m_open_list (fCons (fVar 0) (fCons (fVar 1) fNil)))) fNext))
abbrev W_completed_1 : List Nat → Rho → R Fl := fun P => (whileF (asB (fBin neD (fVar 2) (fLst fNil))) (B_completed_0 P) 100000)
def b_completed : List Nat → Rho → R Fl := fun P => (fSeq (fDrop (fCall m_check_free (fCons (fVar 0) (fCons (fVar 1) fNil)))) (fSeq (fAsg P 2 (fCall m_open_list (fCons (fVar 0) (fCons (fVar 1) fNil)))) (fSeq (W_completed_1 P) (fSeq (fRet P (fVar 1)) fNext))))
def m_completed : FM := runF 3 b_completed
def b_greatest_size : List Nat → Rho → R Fl := fun P => (fSeq (fDrop (fCall m_check_size (fCons (fVar 0) fNil))) (fSeq (fRet P (fBin idxD (fLst (fCons (fD (.int 2)) (fCons (fD (.int 4)) (fCons (fD (.int 9)) fNil)))) (fBin subD (fVar 0) (fD (.int 1))))) fNext))
def m_greatest_size : FM := runF 1 b_greatest_size
abbrev C_free_sets_0 : Rho → R W := (fLc (fSrc (fCall m_open_list (fCons (fVar 0) (fCons (fVar 5) fNil)))) (.n 6) [6] (tfOr (asB (fBin eqD (fVar 5) (fTup fNil))) (asB (fBin gtD (fVar 6) (fBin idxD (fVar 5) (fNeg (fD (.int 1))))))) (fBin addD (fVar 5) (fTup (fCons (fVar 6) fNil))))
abbrev B_free_sets_1 : List Nat → Rho → R Fl := fun P => (fSeq (fDrop (fExt 4 (fCons C_free_sets_0 fNil))) fNext)
abbrev L_free_sets_2 : List Nat → Rho → R Fl := fun P => (fFor (fSrc (fVar 2)) (.n 5) B_free_sets_1 P)
abbrev B_free_sets_3 : List Nat → Rho → R Fl := fun P => (fSeq (fOwn P 4 fNil) (fSeq (L_free_sets_2 P) (fSeq (fAsg P 2 (fVar 4)) fNext)))
abbrev L_free_sets_4 : List Nat → Rho → R Fl := fun P => (fFor (fSrcs (fun _ => rangeOf) (fCons (fVar 1) fNil)) (.n 3) B_free_sets_3 P)
def b_free_sets : List Nat → Rho → R Fl := fun P => (fSeq (fIfS (tfNot (asB (fCall m_is_integer (fCons (fVar 0) (fCons (fD (.int 1)) (fCons (fD (.int 2)) fNil)))))) (fSeq (fRaise 0) fNext) fNext) (fSeq (fIfS (tfNot (asB (fCall m_is_integer (fCons (fVar 1) (fCons (fD (.int 0)) (fCons (fD (.int 9)) fNil)))))) (fSeq (fRaise 4) fNext) fNext) (fSeq (fOwn P 2 (fCons (fTup fNil) fNil)) (fSeq (L_free_sets_4 P) (fSeq (fRet P (fVar 2)) fNext)))))
def m_free_sets : FM := runF 7 b_free_sets
def b_added : List Nat → Rho → R Fl := fun P => (fSeq (fRet P (fCB tupleD (fCons (fCB sortD (fCons (fLc (fSrc (fVar 0)) (.n 2) [2] fYes (fCB tupleD (fCons (fLc (fSrcs (fun _ => zipOf) (fCons (fVar 2) (fCons (fVar 1) fNil))) (.p 3 4) [3, 4] fYes (fBin modD (fBin addD (fVar 3) (fVar 4)) (fD (.int 3)))) fNil))) fNil)) fNil))) fNext)
def m_added : FM := runF 5 b_added
def b_add_place : List Nat → Rho → R Fl := fun P => (fSeq (fDrop (fCall m_check_set (fCons (fVar 0) (fCons (fVar 1) fNil)))) (fSeq (fIfS (tfNot (asB (fCall m_fits (fCons (fVar 0) (fCons (fVar 2) fNil))))) (fSeq (fRaise 1) fNext) fNext) (fSeq (fRet P (fCall m_added (fCons (fVar 1) (fCons (fVar 2) fNil)))) fNext)))
def m_add_place : FM := runF 3 b_add_place
def b_doubled : List Nat → Rho → R Fl := fun P => (fSeq (fRet P (fCB tupleD (fCons (fCB sortD (fCons (fLc (fSrc (fVar 0)) (.n 1) [1] fYes (fCB tupleD (fCons (fLc (fSrc (fVar 1)) (.n 2) [2] fYes (fBin modD (fBin mulD' (fD (.int 2)) (fVar 2)) (fD (.int 3)))) fNil))) fNil)) fNil))) fNext)
def m_doubled : FM := runF 3 b_doubled
def b_double : List Nat → Rho → R Fl := fun P => (fSeq (fDrop (fCall m_check_set (fCons (fVar 0) (fCons (fVar 1) fNil)))) (fSeq (fRet P (fCall m_doubled (fCons (fVar 1) fNil))) fNext))
def m_double : FM := runF 2 b_double
def b_check_positions : List Nat → Rho → R Fl := fun P => (fSeq (fIfS (tfOr (tfNot (asB (fCall m_is_integer (fCons (fVar 1) (fCons (fD (.int 0)) (fCons (fBin subD (fVar 0) (fD (.int 1))) fNil)))))) (tfOr (tfNot (asB (fCall m_is_integer (fCons (fVar 2) (fCons (fD (.int 0)) (fCons (fBin subD (fVar 0) (fD (.int 1))) fNil)))))) (asB (fBin eqD (fVar 1) (fVar 2))))) (fSeq (fRaise 3) fNext) fNext) fNext)
def m_check_positions : FM := runF 3 b_check_positions
def b_put : List Nat → Rho → R Fl := fun P => (fSeq (fRet P (fBin addD (fBin addD (fSl (fVar 0) fNoPart (fPart (fVar 1))) (fTup (fCons (fVar 2) fNil))) (fSl (fVar 0) (fPart (fBin addD (fVar 1) (fD (.int 1)))) fNoPart))) fNext)
def m_put : FM := runF 3 b_put
def b_exchanged : List Nat → Rho → R Fl := fun P => (fSeq (fRet P (fCB tupleD (fCons (fCB sortD (fCons (fLc (fSrc (fVar 0)) (.n 3) [3] fYes (fCall m_put (fCons (fCall m_put (fCons (fVar 3) (fCons (fVar 1) (fCons (fBin idxD (fVar 3) (fVar 2)) fNil)))) (fCons (fVar 2) (fCons (fBin idxD (fVar 3) (fVar 1)) fNil))))) fNil)) fNil))) fNext)
def m_exchanged : FM := runF 4 b_exchanged
def b_exchange : List Nat → Rho → R Fl := fun P => (fSeq (fDrop (fCall m_check_set (fCons (fVar 0) (fCons (fVar 1) fNil)))) (fSeq (fDrop (fCall m_check_positions (fCons (fVar 0) (fCons (fVar 2) (fCons (fVar 3) fNil))))) (fSeq (fRet P (fCall m_exchanged (fCons (fVar 1) (fCons (fVar 2) (fCons (fVar 3) fNil))))) fNext)))
def m_exchange : FM := runF 4 b_exchange
def b_position_added : List Nat → Rho → R Fl := fun P => (fSeq (fRet P (fCB tupleD (fCons (fCB sortD (fCons (fLc (fSrc (fVar 0)) (.n 3) [3] fYes (fCall m_put (fCons (fVar 3) (fCons (fVar 2) (fCons (fBin modD (fBin addD (fBin idxD (fVar 3) (fVar 2)) (fBin idxD (fVar 3) (fVar 1))) (fD (.int 3))) fNil))))) fNil)) fNil))) fNext)
def m_position_added : FM := runF 4 b_position_added
def b_add_position : List Nat → Rho → R Fl := fun P => (fSeq (fDrop (fCall m_check_set (fCons (fVar 0) (fCons (fVar 1) fNil)))) (fSeq (fDrop (fCall m_check_positions (fCons (fVar 0) (fCons (fVar 2) (fCons (fVar 3) fNil))))) (fSeq (fRet P (fCall m_position_added (fCons (fVar 1) (fCons (fVar 2) (fCons (fVar 3) fNil))))) fNext)))
def m_add_position : FM := runF 4 b_add_position
abbrev B_alike_to_0 : List Nat → Rho → R Fl := fun P => (fSeq (fIfS (asB (fDin true 1 (fVar 5))) (fSeq (fDset 1 (fD (.bool true)) (fVar 5)) (fSeq (fDrop (fApp 2 (fCons (fVar 5) fNil))) fNext)) fNext) fNext)
abbrev L_alike_to_1 : List Nat → Rho → R Fl := fun P => (fFor (fSrc (fBin addD (fVar 4) (fLst (fCons (fCall m_position_added (fCons (fVar 3) (fCons (fD (.int 0)) (fCons (fD (.int 1)) fNil)))) fNil)))) (.n 5) B_alike_to_0 P)
abbrev B_alike_to_2 : List Nat → Rho → R Fl := fun P => (fSeq (fAsg P 3 (fPop 2)) (fSeq (fOwn P 4 (fCons (fCall m_added (fCons (fVar 3) (fCons (fTup (fCons (fD (.int 0)) (fCons (fD (.int 1)) fNil))) fNil))) (fCons (fCall m_added (fCons (fVar 3) (fCons (fTup (fCons (fD (.int 1)) (fCons (fD (.int 0)) fNil))) fNil))) (fCons (fCall m_doubled (fCons (fVar 3) fNil)) (fCons (fCall m_exchanged (fCons (fVar 3) (fCons (fD (.int 0)) (fCons (fD (.int 1)) fNil)))) fNil))))) (fSeq (L_alike_to_1 P) fNext)))
abbrev W_alike_to_3 : List Nat → Rho → R Fl := fun P => (whileF (asB (fBin neD (fVar 2) (fLst fNil))) (B_alike_to_2 P) 100000)
def b_alike_to : List Nat → Rho → R Fl := fun P => (fSeq (fParN P 1 2 (nDct1 (fVar 0) (fD (.bool true))) (nLst (fCons (fVar 0) fNil))) (fSeq (W_alike_to_3 P) (fSeq (fRet P (fDlist 1)) fNext)))
def m_alike_to : FM := runF 6 b_alike_to
def b_check_flat : List Nat → Rho → R Fl := fun P => (fSeq (fIfS (tfNot (asB (fCall m_lies (fCons (fD (.int 2)) (fCons (fVar 0) fNil))))) (fSeq (fRaise 2) fNext) fNext) fNext)
def m_check_flat : FM := runF 1 b_check_flat
def b_kind : List Nat → Rho → R Fl := fun P => (fSeq (fDrop (fCall m_check_flat (fCons (fVar 0) fNil))) (fSeq (fRet P (fCB minLD (fCons (fCall m_alike_to (fCons (fVar 0) fNil)) fNil))) fNext))
def m_kind : FM := runF 1 b_kind
def b_are_alike : List Nat → Rho → R Fl := fun P => (fSeq (fDrop (fCall m_check_flat (fCons (fVar 0) fNil))) (fSeq (fDrop (fCall m_check_flat (fCons (fVar 1) fNil))) (fSeq (fRet P (fBin inD (fVar 1) (fCall m_alike_to (fCons (fVar 0) fNil)))) fNext)))
def m_are_alike : FM := runF 2 b_are_alike
abbrev B_kinds_0 : List Nat → Rho → R Fl := fun P => (fSeq (fDset 4 (fD (.bool true)) (fVar 6)) fNext)
abbrev L_kinds_1 : List Nat → Rho → R Fl := fun P => (fFor (fSrc (fCall m_alike_to (fCons (fVar 5) fNil))) (.n 6) B_kinds_0 P)
abbrev B_kinds_2 : List Nat → Rho → R Fl := fun P => (fSeq (fIfS (asB (fDin true 4 (fVar 5))) (fSeq (fDrop (fApp 3 (fCons (fVar 5) fNil))) (fSeq (L_kinds_1 P) fNext)) fNext) fNext)
abbrev C_kinds_3 : Rho → R W := (fLc (fSrc (fVar 1)) (.n 5) [5] (asB (fBin eqD (fCB lenD (fCons (fVar 5) fNil)) (fVar 0))) (fVar 5))
abbrev L_kinds_4 : List Nat → Rho → R Fl := fun P => (fFor (fSrc (fCB sortD (fCons C_kinds_3 fNil))) (.n 5) B_kinds_2 P)
abbrev C_kinds_5 : Rho → R W := (fLc (fSrc (fVar 1)) (.n 5) [5] fYes (fBin addD (fVar 5) (fTup (fCons (fVar 2) fNil))))
abbrev B_kinds_6 : List Nat → Rho → R Fl := fun P => (fSeq (fAsg P 1 (fBin addD (fVar 1) C_kinds_5)) fNext)
abbrev L_kinds_7 : List Nat → Rho → R Fl := fun P => (fFor (fSrc (fCall m_all_places (fCons (fD (.int 2)) fNil))) (.n 2) B_kinds_6 P)
def b_kinds : List Nat → Rho → R Fl := fun P => (fSeq (fIfS (tfNot (asB (fCall m_is_integer (fCons (fVar 0) (fCons (fD (.int 0)) (fCons (fD (.int 9)) fNil)))))) (fSeq (fRaise 4) fNext) fNext) (fSeq (fOwn P 1 (fCons (fTup fNil) fNil)) (fSeq (L_kinds_7 P) (fSeq (fParN P 3 4 (nLst fNil) nDct0) (fSeq (L_kinds_4 P) (fSeq (fRet P (fVar 3)) fNext))))))
def m_kinds : FM := runF 7 b_kinds
abbrev B__wall_0 : List Nat → Rho → R Fl := fun P => (fSeq fNext fNext)
abbrev W__wall_1 : List Nat → Rho → R Fl := fun P => (whileF (asB (fD (.bool true))) (B__wall_0 P) 100000)
def b__wall : List Nat → Rho → R Fl := fun P => (fSeq (W__wall_1 P) fNext)
def m__wall : FM := runF 1 b__wall
end FL

namespace FL
open PySem L2 PyProof.Rows
abbrev C_law_k18_0 : Rho → R W := (fLc (fSrcs (fun _ => zipOf) (fCons (fVar 13) (fCons (fVar 14) fNil))) (.p 17 18) [17, 18] fYes (fBin modD (fBin subD (fBin subD (fD (.int 0)) (fVar 17)) (fVar 18)) (fD (.int 3))))
abbrev B_law_k18_1 : List Nat → Rho → R Fl := fun P => (fSeq (fAsg P 15 (fCB tupleD (fCons C_law_k18_0 fNil))) (fSeq (fAug P 11 (fIf (asB (fBin eqD (fVar 15) (fVar 10))) (fD (.int 1)) (fD (.int 0)))) fNext))
abbrev L_law_k18_2 : List Nat → Rho → R Fl := fun P => (fFor (fSrc (fSl (fVar 3) (fPart (fBin addD (fVar 12) (fD (.int 1)))) fNoPart)) (.n 14) B_law_k18_1 P)
abbrev B_law_k18_3 : List Nat → Rho → R Fl := fun P => (fSeq (L_law_k18_2 P) fNext)
abbrev L_law_k18_4 : List Nat → Rho → R Fl := fun P => (fFor (fSrcs enumOf (fCons (fVar 3) fNil)) (.p 12 13) B_law_k18_3 P)
abbrev C_law_k18_5 : Rho → R W := (fLc (fSrc (fVar 3)) (.n 16) [16] fYes (fBin idxD (fVar 16) (fVar 12)))
abbrev C_law_k18_6 : Rho → R W := (fLc (fSrcs (fun _ => rangeOf) (fCons (fD (.int 2)) fNil)) (.n 12) [12] fYes (fBin modD (fCB sumD (fCons C_law_k18_5 fNil)) (fD (.int 3))))
abbrev C_law_k18_7 : Rho → R W := (fLc (fSrc (fVar 3)) (.n 16) [16] (asB (fBin notInD (fVar 16) (fVar 9))) (fVar 16))
abbrev C_law_k18_8 : Rho → R W := (fLc (fSrc (fVar 16)) (.n 13) [13] fYes (fBin modD (fBin mulD' (fD (.int 2)) (fVar 13)) (fD (.int 3))))
abbrev C_law_k18_9 : Rho → R W := (fLc (fSrc (fCall m_open_places (fCons (fD (.int 2)) (fCons (fVar 3) fNil)))) (.n 16) [16] fYes (fCB tupleD (fCons C_law_k18_8 fNil)))
abbrev C_law_k18_10 : Rho → R W := (fLc (fSrc (fCall m_open_places (fCons (fD (.int 2)) (fCons (fVar 3) fNil)))) (.n 16) [16] fYes (fRev (fVar 16) (fPart (fNeg (fD (.int 1))))))
abbrev C_law_k18_11 : Rho → R W := (fLc (fSrcs (fun _ => zipOf) (fCons (fVar 16) (fCons (fVar 4) fNil))) (.p 13 14) [13, 14] fYes (fBin modD (fBin addD (fVar 13) (fVar 14)) (fD (.int 3))))
abbrev C_law_k18_12 : Rho → R W := (fLc (fSrc (fCall m_open_places (fCons (fD (.int 2)) (fCons (fVar 3) fNil)))) (.n 16) [16] fYes (fCB tupleD (fCons C_law_k18_11 fNil)))
def b_law_k18 : List Nat → Rho → R Fl := fun P => (fSeq (fOwn P 1 fNil) (fSeq (fAsg P 2 (fCall m__law_draw (fCons (fVar 0) (fCons (fVar 1) (fCons (fD (.int 5)) fNil))))) (fSeq (fAsg P 3 (fCall m__law_pick (fCons (fVar 0) (fCons (fVar 1) (fCons (fCall m_free_sets (fCons (fD (.int 2)) (fCons (fVar 2) fNil))) fNil))))) (fSeq (fAsg P 4 (fCall m__law_pick (fCons (fVar 0) (fCons (fVar 1) (fCons (fCall m__law_grid (fCons (fD (.int 2)) fNil)) fNil))))) (fSeq (fAsg P 5 (fCall m_add_place (fCons (fD (.int 2)) (fCons (fVar 3) (fCons (fVar 4) fNil))))) (fSeq (fAsg P 6 (fCB sortD (fCons C_law_k18_12 fNil))) (fSeq (fIfS (tfOr (asB (fBin neD (fCall m_open_places (fCons (fD (.int 2)) (fCons (fVar 5) fNil))) (fVar 6))) (asB (fBin neD (fCall m_is_complete (fCons (fD (.int 2)) (fCons (fVar 5) fNil))) (fCall m_is_complete (fCons (fD (.int 2)) (fCons (fVar 3) fNil)))))) (fSeq (fRet P (fD (.bool false))) fNext) fNext) (fSeq (fAsg P 7 (fCall m_exchange (fCons (fD (.int 2)) (fCons (fVar 3) (fCons (fD (.int 0)) (fCons (fD (.int 1)) fNil)))))) (fSeq (fIfS (asB (fBin neD (fCall m_open_places (fCons (fD (.int 2)) (fCons (fVar 7) fNil))) (fCB sortD (fCons C_law_k18_10 fNil)))) (fSeq (fRet P (fD (.bool false))) fNext) fNext) (fSeq (fAsg P 8 (fCB sortD (fCons C_law_k18_9 fNil))) (fSeq (fIfS (asB (fBin neD (fVar 8) (fCall m_open_places (fCons (fD (.int 2)) (fCons (fCall m_double (fCons (fD (.int 2)) (fCons (fVar 3) fNil))) fNil))))) (fSeq (fRet P (fD (.bool false))) fNext) fNext) (fSeq (fIfS (tfOr (asB (fBin neD (fCB lenD (fCons (fCall m_open_places (fCons (fD (.int 2)) (fCons (fVar 3) fNil))) fNil)) (fBin idxD (fLst (fCons (fD (.int 9)) (fCons (fD (.int 8)) (fCons (fD (.int 6)) (fCons (fD (.int 3)) (fCons (fD (.int 0)) fNil)))))) (fVar 2)))) (asB (fBin isNotD (fCall m_are_alike (fCons (fVar 3) (fCons (fCall m_add_position (fCons (fD (.int 2)) (fCons (fVar 5) (fCons (fD (.int 0)) (fCons (fD (.int 1)) fNil))))) fNil))) (fD (.bool true))))) (fSeq (fRet P (fD (.bool false))) fNext) fNext) (fSeq (fAsg P 9 (fCall m_completed (fCons (fD (.int 2)) (fCons (fVar 3) fNil)))) (fSeq (fIfS (tfOr (asB (fBin neD (fCB lenD (fCons (fVar 9) fNil)) (fD (.int 4)))) (asB (fBin neD (fCall m_kind (fCons (fVar 9) fNil)) (fTup (fCons (fTup (fCons (fD (.int 0)) (fCons (fD (.int 0)) fNil))) (fCons (fTup (fCons (fD (.int 0)) (fCons (fD (.int 1)) fNil))) (fCons (fTup (fCons (fD (.int 1)) (fCons (fD (.int 0)) fNil))) (fCons (fTup (fCons (fD (.int 1)) (fCons (fD (.int 1)) fNil))) fNil)))))))) (fSeq (fRet P (fD (.bool false))) fNext) fNext) (fSeq (fIfS (asB (fBin neD C_law_k18_7 (fLst fNil))) (fSeq (fRet P (fD (.bool false))) fNext) fNext) (fSeq (fIfS (asB (fBin eqD (fVar 2) (fD (.int 4)))) (fSeq (fAsg P 10 (fCB tupleD (fCons C_law_k18_6 fNil))) (fSeq (fAsg P 11 (fD (.int 0))) (fSeq (L_law_k18_4 P) (fSeq (fRet P (fAnd (fBin notInD (fVar 10) (fVar 3)) (fBin eqD (fVar 11) (fD (.int 2))))) fNext)))) fNext) (fSeq (fRet P (fD (.bool true))) fNext)))))))))))))))))
def m_law_k18 : FM := runF 19 b_law_k18
end FL

namespace FL
open PySem

/-! ### running a piece -/
theorem fSeq_nx {f1 f2 : Rho → R Fl} {ρ ρ1 : Rho} (h : f1 ρ = .ok .nx ρ1) : fSeq f1 f2 ρ = f2 ρ1 := by
  unfold fSeq
  rw [h]
  rfl
theorem fSeq_rt {f1 f2 : Rho → R Fl} {ρ ρ1 : Rho} {r : S} (h : f1 ρ = .ok (.rt r) ρ1) : fSeq f1 f2 ρ = .ok (.rt r) ρ1 := by
  unfold fSeq
  rw [h]
  rfl
theorem fIfS_t {fc : Rho → R Bool} {fa fb : Rho → R Fl} {ρ ρ1 : Rho} (h : fc ρ = .ok true ρ1) : fIfS fc fa fb ρ = fa ρ1 := by
  unfold fIfS
  rw [h]
  rfl
theorem fIfS_f {fc : Rho → R Bool} {fa fb : Rho → R Fl} {ρ ρ1 : Rho} (h : fc ρ = .ok false ρ1) : fIfS fc fa fb ρ = fb ρ1 := by
  unfold fIfS
  rw [h]
  rfl
theorem fCall_ret {m : FM} {fas : Rho → R (List W)} {ρ ρ1 : Rho} {ws : List W} {ss ss' : List S} {x : D} (h1 : fas ρ = .ok ws ρ1) (h2 : argS ρ1 ws = some ss) (h3 : nodupB (ownIx ws) = true) (h4 : m ss = .ret (.d x) ss') :
    fCall m fas ρ = .ok (.d x) (putBack ρ1 ws ss') := by
  unfold fCall
  rw [h1]
  simp only [R.bind_ok, h2]
  rw [if_pos h3, h4]
theorem runF_rt {n : Nat} {body : List Nat → Rho → R Fl} {ss : List S} {r : S} {ρ' : Rho} (h : body (ownIdx 0 ss) (rho0 n ss) = .ok (.rt r) ρ') : runF n body ss = .ret r (outS 0 ss ρ') := by
  unfold runF
  rw [h]
theorem runF_nx {n : Nat} {body : List Nat → Rho → R Fl} {ss : List S} {ρ' : Rho} (h : body (ownIdx 0 ss) (rho0 n ss) = .ok .nx ρ') : runF n body ss = .ret (.d .none) (outS 0 ss ρ') := by
  unfold runF
  rw [h]
/-! ### equality with itself -/
mutual
def nod : D → Bool
  | .dict _ => false
  | .list xs => nodAll xs
  | .tuple xs => nodAll xs
  | _ => true
def nodAll : List D → Bool
  | [] => true
  | x :: xs => nod x && nodAll xs
end
mutual
theorem deq_refl : ∀ x : D, nod x = true → deq x x = true
  | .none, _ => rfl
  | .bool b, _ => by simp [deq]
  | .int b, _ => by simp [deq]
  | .str b, _ => by simp [deq]
  | .list xs, h => by rw [deq]; exact deqAll_refl xs (by simpa [nod] using h)
  | .tuple xs, h => by rw [deq]; exact deqAll_refl xs (by simpa [nod] using h)
  | .dict _, h => by simp [nod] at h
theorem deqAll_refl : ∀ xs : List D, nodAll xs = true → deqAll xs xs = true
  | [], _ => rfl
  | x :: xs, h => by
    rw [nodAll, Bool.and_eq_true] at h
    rw [deqAll, deq_refl x h.1, deqAll_refl xs h.2]
    rfl
end
theorem nodAll_app : ∀ xs ys : List D, nodAll (xs ++ ys) = (nodAll xs && nodAll ys)
  | [], ys => by simp [nodAll]
  | x :: xs, ys => by rw [List.cons_append, nodAll, nodAll, nodAll_app, Bool.and_assoc]
theorem nodAll_map {α : Type} (f : α → D) (h : ∀ a, nod (f a) = true) : ∀ l : List α, nodAll (l.map f) = true
  | [] => rfl
  | a :: l => by rw [List.map_cons, nodAll, h, nodAll_map f h l]; rfl
/-- a walk's own slot stands as it stood -/
theorem chk_own {ρ : Rho} {i : Nat} {xs : List D} (h : ρ[i]? = some (some (.l xs))) (hn : nodAll xs = true) : chk (some (i, xs)) ρ = true := by
  unfold chk look
  simp only [h]
  exact deqAll_refl xs hn
/-! ### a comprehension that only reads -/
theorem set_id {α : Type} {l : List α} {i : Nat} {a : α} (h : l[i]? = some a) : l.set i a = l := by
  obtain ⟨h1, h2⟩ := List.getElem?_eq_some_iff.mp h
  rw [← h2]
  exact List.set_getElem_self h1
theorem lcF_n {dep : Dep} {i : Nat} {cond : Rho → R Bool} {elt : Rho → R W} {ρ : Rho} (hi : ρ[i]? = some none) (hd : chk dep ρ = true) (p : D → Bool) (e : D → D) : ∀ (xs : List D), (∀ x ∈ xs, cond (ρ.set i (some (.d x))) = .ok (p x) (ρ.set i (some (.d x)))) →
    (∀ x ∈ xs, p x = true → elt (ρ.set i (some (.d x))) = .ok (.d (e x)) (ρ.set i (some (.d x)))) → lcF dep (.n i) [i] cond elt xs ρ = .ok ((xs.filter p).map e) ρ
  | [], _, _ => by rw [lcF, if_pos hd]; rfl
  | x :: xs, hc, he => by
    have ih := lcF_n hi hd p e xs (fun y hy => hc y (List.mem_cons_of_mem _ hy)) fun y hy => he y (List.mem_cons_of_mem _ hy)
    have hw : wipeR (ρ.set i (some (.d x))) [i] = ρ := by
      unfold wipeR wipeR
      rw [List.set_set]
      exact set_id hi
    have hs : Tg.set [] (.n i) x ρ = some (ρ.set i (some (.d x))) := by simp [Tg.set]
    rw [lcF, if_pos hd, hs]
    simp only [hc x List.mem_cons_self, noexc, R.bind_ok]
    cases hp : p x with
    | true =>
      simp only [he x List.mem_cons_self hp, noexc, R.bind_ok, hw, ih]
      rw [List.filter_cons_of_pos hp, List.map_cons]
    | false =>
      simp only [hw, ih]
      rw [List.filter_cons_of_neg (by rw [hp]; decide)]
theorem lcF_p {dep : Dep} {i j : Nat} {cond : Rho → R Bool} {elt : Rho → R W} {ρ : Rho} (hi : ρ[i]? = some none) (hj : ρ[j]? = some none) (hd : chk dep ρ = true) (p : D → D → Bool) (e : D → D → D) : ∀ (xs : List (D × D)),
    (∀ x ∈ xs, cond ((ρ.set i (some (.d x.1))).set j (some (.d x.2))) = .ok (p x.1 x.2) ((ρ.set i (some (.d x.1))).set j (some (.d x.2)))) →
    (∀ x ∈ xs, p x.1 x.2 = true → elt ((ρ.set i (some (.d x.1))).set j (some (.d x.2))) = .ok (.d (e x.1 x.2)) ((ρ.set i (some (.d x.1))).set j (some (.d x.2)))) → lcF dep (.p i j) [i, j] cond elt (xs.map fun x => .tuple [x.1, x.2]) ρ = .ok ((xs.filter fun x => p x.1 x.2).map fun x => e x.1 x.2) ρ
  | [], _, _ => by rw [List.map_nil, lcF, if_pos hd]; rfl
  | x :: xs, hc, he => by
    have ih := lcF_p hi hj hd p e xs (fun y hy => hc y (List.mem_cons_of_mem _ hy)) fun y hy => he y (List.mem_cons_of_mem _ hy)
    have hw : wipeR ((ρ.set i (some (.d x.1))).set j (some (.d x.2))) [i, j] = ρ := by
      unfold wipeR wipeR wipeR
      rw [List.set_set]
      by_cases hij : i = j
      · subst hij
        rw [List.set_set, List.set_set]
        exact set_id hi
      · rw [List.set_comm _ _ (Ne.symm hij), List.set_set, set_id hi]
        exact set_id hj
    have hs : Tg.set [] (.p i j) (.tuple [x.1, x.2]) ρ = some ((ρ.set i (some (.d x.1))).set j (some (.d x.2))) := by simp [Tg.set, pair?]
    rw [List.map_cons, lcF, if_pos hd, hs]
    simp only [hc x List.mem_cons_self, noexc, R.bind_ok]
    cases hp : p x.1 x.2 with
    | true =>
      simp only [he x List.mem_cons_self hp, noexc, R.bind_ok, hw, ih]
      rw [List.filter_cons_of_pos (by simpa using hp), List.map_cons]
    | false =>
      simp only [hw, ih]
      rw [List.filter_cons_of_neg (by simpa using hp)]
theorem chk_set {dep : Dep} {ρ : Rho} {i : Nat} {o : Option S} (h : chk dep ρ = true) (hn : nonOwn ρ[i]? = true) : chk dep (ρ.set i o) = true := by
  unfold chk at h ⊢
  cases dep with
  | none => rfl
  | some iy =>
    obtain ⟨k, ys⟩ := iy
    simp only [look] at h ⊢
    by_cases hk : k = i
    · subst hk
      cases e : ρ[k]? with
      | none => rw [e] at h; cases h
      | some o' =>
        cases o' with
        | none => rw [e] at h; cases h
        | some s =>
          cases s with
          | l zs => rw [e] at hn; cases hn
          | _ => rw [e] at h; cases h
    · rw [List.getElem?_set_ne (Ne.symm hk)]
      exact h
theorem fLc_n {fsrc : Rho → R (List D × Dep)} {dep : Dep} {i : Nat} {cond : Rho → R Bool} {elt : Rho → R W} {ρ ρ1 : Rho} {xs : List D} (p : D → Bool) (e : D → D) (hs : fsrc ρ = .ok (xs, dep) ρ1) (hl : xs.length ≤ 1000000) (hi : i < ρ1.length) (hn : nonOwn ρ1[i]? = true) (hd : chk dep ρ1 = true)
    (hc : ∀ x ∈ xs, cond (ρ1.set i (some (.d x))) = .ok (p x) (ρ1.set i (some (.d x)))) (he : ∀ x ∈ xs, p x = true → elt (ρ1.set i (some (.d x))) = .ok (.d (e x)) (ρ1.set i (some (.d x)))) :
    fLc fsrc (.n i) [i] cond elt ρ = .ok (.d (.list ((xs.filter p).map e))) ρ1 := by
  unfold fLc
  rw [hs]
  simp only [R.bind_ok]
  rw [if_pos ⟨hl, by simpa using hn, by simp [Tg.inn]⟩]
  have h1 : wipeR ρ1 [i] = ρ1.set i none := rfl
  have h2 : lcF dep (.n i) [i] cond elt xs (ρ1.set i none) = .ok ((xs.filter p).map e) (ρ1.set i none) := lcF_n (List.getElem?_set_self hi) (chk_set hd hn) p e xs (fun x hx => by rw [List.set_set]; exact hc x hx) fun x hx hp => by rw [List.set_set]; exact he x hx hp
  rw [h1, h2]
  simp only [R.bind_ok]
  have h3 : restR ρ1 [i] (ρ1.set i none) = ρ1 := by
    unfold restR restR
    rw [List.set_set, List.getD_eq_getElem?_getD, List.getElem?_eq_getElem hi]
    exact List.set_getElem_self hi
  rw [h3]
theorem fLc_p {fsrc : Rho → R (List D × Dep)} {dep : Dep} {i j : Nat} {cond : Rho → R Bool} {elt : Rho → R W} {ρ ρ1 : Rho} {xs : List (D × D)} (p : D → D → Bool) (e : D → D → D) (hs : fsrc ρ = .ok (xs.map fun x => .tuple [x.1, x.2], dep) ρ1) (hl : xs.length ≤ 1000000) (hij : i ≠ j) (hi : i < ρ1.length) (hj : j < ρ1.length)
    (hn : nonOwn ρ1[i]? = true) (hn2 : nonOwn ρ1[j]? = true) (hd : chk dep ρ1 = true)
    (hc : ∀ x ∈ xs, cond ((ρ1.set i (some (.d x.1))).set j (some (.d x.2))) = .ok (p x.1 x.2) ((ρ1.set i (some (.d x.1))).set j (some (.d x.2)))) (he : ∀ x ∈ xs, p x.1 x.2 = true → elt ((ρ1.set i (some (.d x.1))).set j (some (.d x.2))) = .ok (.d (e x.1 x.2)) ((ρ1.set i (some (.d x.1))).set j (some (.d x.2)))) :
    fLc fsrc (.p i j) [i, j] cond elt ρ = .ok (.d (.list ((xs.filter fun x => p x.1 x.2).map fun x => e x.1 x.2))) ρ1 := by
  unfold fLc
  rw [hs]
  simp only [R.bind_ok]
  rw [if_pos ⟨by simpa using hl, by simp [hn, hn2], by simp [Tg.inn]⟩]
  have h1 : wipeR ρ1 [i, j] = (ρ1.set j none).set i none := rfl
  have st : ∀ a b : Option S, (((ρ1.set j none).set i none).set i a).set j b = (ρ1.set i a).set j b := fun a b => by
    rw [List.set_set, List.set_comm _ _ (Ne.symm hij), List.set_set]
  have h2 : lcF dep (.p i j) [i, j] cond elt (xs.map fun x => .tuple [x.1, x.2]) ((ρ1.set j none).set i none) = .ok ((xs.filter fun x => p x.1 x.2).map fun x => e x.1 x.2) ((ρ1.set j none).set i none) :=
    lcF_p (List.getElem?_set_self (by simpa using hi)) (by rw [List.getElem?_set_ne hij]; exact List.getElem?_set_self hj) (chk_set (chk_set hd hn2) (by rw [List.getElem?_set_ne (Ne.symm hij)]; exact hn)) p e xs (fun x hx => by rw [st]; exact hc x hx) fun x hx hp => by rw [st]; exact he x hx hp
  rw [h1, h2]
  simp only [R.bind_ok]
  have h3 : restR ρ1 [i, j] ((ρ1.set j none).set i none) = ρ1 := by
    unfold restR restR restR
    have e1 : ρ1[i]? = some (List.getD ρ1 i none) := by rw [List.getD_eq_getElem?_getD, List.getElem?_eq_getElem hi]; rfl
    have e2 : ρ1[j]? = some (List.getD ρ1 j none) := by rw [List.getD_eq_getElem?_getD, List.getElem?_eq_getElem hj]; rfl
    rw [List.set_comm (l := ρ1) _ _ (Ne.symm hij), List.set_set, List.set_comm _ _ (Ne.symm hij), List.set_set, set_id e1, set_id e2]
  rw [h3]
/-! ### loops -/
theorem forF_inv {dep : Dep} {P : List Nat} {tg : Tg} {body : Rho → R Fl} (I : Nat → Rho → Prop) : ∀ (xs : List D) (k0 : Nat) (ρ0 : Rho), I k0 ρ0 → (∀ k ρ, I k ρ → chk dep ρ = true) →
    (∀ (k : Nat) (x : D) ρ, xs[k]? = some x → I (k0 + k) ρ → ∃ ρ1 ρ2, tg.set P x ρ = some ρ1 ∧ body ρ1 = .ok .nx ρ2 ∧ I (k0 + k + 1) ρ2) → ∃ ρ', forF dep P tg body xs ρ0 = .ok .nx ρ' ∧ I (k0 + xs.length) ρ'
  | [], k0, ρ0, h0, hc, _ => ⟨ρ0, by rw [forF, if_pos (hc _ _ h0)], h0⟩
  | x :: xs, k0, ρ0, h0, hc, hs => by
    obtain ⟨ρ1, ρ2, h1, h2, h3⟩ := hs 0 x ρ0 rfl h0
    obtain ⟨ρ', h4, h5⟩ := forF_inv I xs (k0 + 1) ρ2 h3 hc fun k y ρ hy hI => by
      have e : k0 + 1 + k = k0 + (k + 1) := by omega
      rw [e] at hI ⊢
      exact hs (k + 1) y ρ (by simpa using hy) hI
    refine ⟨ρ', ?_, by rw [List.length_cons, show k0 + (xs.length + 1) = k0 + 1 + xs.length by omega]; exact h5⟩
    rw [forF, if_pos (hc _ _ h0), h1]
    simp only [h2]
    exact h4
/-- a loop that may return -/
theorem forF_ret {dep : Dep} {P : List Nat} {tg : Tg} {body : Rho → R Fl} (I : Nat → Rho → Prop) (Q : S → Rho → Prop) : ∀ (xs : List D) (k0 : Nat) (ρ0 : Rho), I k0 ρ0 → (∀ k ρ, I k ρ → chk dep ρ = true) →
    (∀ (k : Nat) (x : D) ρ, xs[k]? = some x → I (k0 + k) ρ → ∃ ρ1 ρ2, tg.set P x ρ = some ρ1 ∧ ((body ρ1 = .ok .nx ρ2 ∧ I (k0 + k + 1) ρ2) ∨ ∃ r, body ρ1 = .ok (.rt r) ρ2 ∧ Q r ρ2)) →
    ∃ ρ', (forF dep P tg body xs ρ0 = .ok .nx ρ' ∧ I (k0 + xs.length) ρ') ∨ ∃ r, forF dep P tg body xs ρ0 = .ok (.rt r) ρ' ∧ Q r ρ'
  | [], k0, ρ0, h0, hc, _ => ⟨ρ0, .inl ⟨by rw [forF, if_pos (hc _ _ h0)], h0⟩⟩
  | x :: xs, k0, ρ0, h0, hc, hs => by
    obtain ⟨ρ1, ρ2, h1, h2⟩ := hs 0 x ρ0 rfl h0
    rcases h2 with ⟨h2, h3⟩ | ⟨r, h2, h3⟩
    · obtain ⟨ρ', h4⟩ := forF_ret I Q xs (k0 + 1) ρ2 h3 hc fun k y ρ hy hI => by
        have e : k0 + 1 + k = k0 + (k + 1) := by omega
        rw [e] at hI ⊢
        exact hs (k + 1) y ρ (by simpa using hy) hI
      refine ⟨ρ', ?_⟩
      rw [List.length_cons, show k0 + (xs.length + 1) = k0 + 1 + xs.length by omega, forF, if_pos (hc _ _ h0), h1]
      simp only [h2]
      exact h4
    · refine ⟨ρ2, .inr ⟨r, ?_, h3⟩⟩
      rw [forF, if_pos (hc _ _ h0), h1]
      simp only [h2]
end FL

namespace FL
open PySem

/-! ### steps -/
section
variable {ρ ρ1 ρ2 ρ3 : Rho} {f fa fb fc : Rho → R W} {P : List Nat} {i j : Nat} {x y z : D} {w u : W}
theorem fAsg_d (h : f ρ = .ok (.d x) ρ1) (hp : P.contains i = false) : fAsg P i f ρ = .ok .nx (ρ1.set i (some (.d x))) := by
  unfold fAsg
  rw [if_neg (by rw [hp]; decide), h]
  rfl
theorem fBin_d {o : D → D → Option D} (ha : fa ρ = .ok w ρ1) (hb : fb ρ1 = .ok u ρ2) (h1 : look ρ2 w = some x) (h2 : look ρ2 u = some y) (h3 : o x y = some z) : fBin o fa fb ρ = .ok (.d z) ρ2 := by
  unfold fBin
  rw [ha]
  simp only [R.bind_ok, hb, h1, h2, h3]
theorem asB_b {b : Bool} (h : f ρ = .ok (.d (.bool b)) ρ1) : asB f ρ = .ok b ρ1 := by
  unfold asB
  rw [h]
  rfl
theorem fDrop_ok (h : f ρ = .ok w ρ1) : fDrop f ρ = .ok .nx ρ1 := by
  unfold fDrop
  rw [h]
  rfl
theorem fRet_d (h : f ρ = .ok (.d x) ρ1) : fRet P f ρ = .ok (.rt (.d x)) ρ1 := by
  unfold fRet
  rw [h]
  rfl
theorem fCB_d {o : List D → Option D} {fas : Rho → R (List W)} {ws : List W} {ds : List D} (h : fas ρ = .ok ws ρ1) (h1 : lookAll ρ1 ws = some ds) (h2 : o ds = some z) : fCB o fas ρ = .ok (.d z) ρ1 := by
  unfold fCB
  rw [h]
  simp only [R.bind_ok, h1, h2]
theorem fApp_d {fs : Rho → R (List W)} {xs0 xs : List D} (h0 : getL ρ i = some xs0) (h : fs ρ = .ok [.d x] ρ1) (h1 : getL ρ1 i = some xs) (hl : xs.length < 1000000) : fApp i fs ρ = .ok (.d .none) (ρ1.set i (some (.l (xs ++ [x])))) := by
  unfold fApp
  rw [h0, h]
  simp only [R.bind_ok, one?, h1]
  rw [if_pos hl]
theorem fExt_d {fs : Rho → R (List W)} {xs0 xs ys : List D} (h0 : getL ρ i = some xs0) (h : fs ρ = .ok [.d (.list ys)] ρ1) (h1 : getL ρ1 i = some xs) (hl : xs.length + ys.length ≤ 1000000) : fExt i fs ρ = .ok (.d .none) (ρ1.set i (some (.l (xs ++ ys)))) := by
  unfold fExt
  rw [h0, h]
  simp only [R.bind_ok, oneL?, h1]
  rw [if_pos hl]
theorem fFor_of {fsrc : Rho → R (List D × Dep)} {tg : Tg} {body : List Nat → Rho → R Fl} {xs : List D} {dep : Dep} (h : fsrc ρ = .ok (xs, dep) ρ1) : fFor fsrc tg body P ρ = forF dep (pinDep dep P) tg (body (pinDep dep P)) xs ρ1 := by
  unfold fFor
  rw [h]
  rfl
theorem fSrc_of {xd : List D × Dep} (h : f ρ = .ok w ρ1) (h1 : srcOf ρ1 w = some xd) : fSrc f ρ = .ok xd ρ1 := by
  unfold fSrc
  rw [h]
  simp only [R.bind_ok, h1]
theorem fSrcs_of {k : Rho → List W → Option (List D × Dep)} {fs : Rho → R (List W)} {ws : List W} {xd : List D × Dep} (h : fs ρ = .ok ws ρ1) (h1 : k ρ1 ws = some xd) : fSrcs k fs ρ = .ok xd ρ1 := by
  unfold fSrcs
  rw [h]
  simp only [R.bind_ok, h1]
theorem fSl_d {fl fh : Rho → R (Option Int)} {lo hi : Option Int} (h1 : fa ρ = .ok w ρ1) (h2 : fl ρ1 = .ok lo ρ2) (h3 : fh ρ2 = .ok hi ρ3) (h4 : look ρ3 w = some x) (h5 : slD x lo hi = some z) : fSl fa fl fh ρ = .ok (.d z) ρ3 := by
  unfold fSl
  rw [h1]
  simp only [R.bind_ok, h2, h3, h4, h5]
theorem fPart_i {k : Int} (h : f ρ = .ok (.d (.int k)) ρ1) : fPart f ρ = .ok (some k) ρ1 := by
  unfold fPart
  rw [h]
  rfl
theorem fCons_of {fs : Rho → R (List W)} {ws : List W} (h : f ρ = .ok w ρ1) (h1 : fs ρ1 = .ok ws ρ2) : fCons f fs ρ = .ok (w :: ws) ρ2 := by
  unfold fCons
  rw [h]
  simp only [R.bind_ok, h1]
theorem tfAnd_t {ta tb : Rho → R Bool} (h : ta ρ = .ok true ρ1) : tfAnd ta tb ρ = tb ρ1 := by
  unfold tfAnd
  rw [h]
  rfl
theorem tfAnd_f {ta tb : Rho → R Bool} (h : ta ρ = .ok false ρ1) : tfAnd ta tb ρ = .ok false ρ1 := by
  unfold tfAnd
  rw [h]
  rfl
theorem tfOr_t {ta tb : Rho → R Bool} (h : ta ρ = .ok true ρ1) : tfOr ta tb ρ = .ok true ρ1 := by
  unfold tfOr
  rw [h]
  rfl
theorem tfOr_f {ta tb : Rho → R Bool} (h : ta ρ = .ok false ρ1) : tfOr ta tb ρ = tb ρ1 := by
  unfold tfOr
  rw [h]
  rfl
theorem tfNot_b {ta : Rho → R Bool} {b : Bool} (h : ta ρ = .ok b ρ1) : tfNot ta ρ = .ok (!b) ρ1 := by
  unfold tfNot
  rw [h]
  rfl
end
section
variable {f1 f2 fa fb : Rho → R Fl} {ρ ρ1 ρ2 : Rho} {r : R Fl} {x : S}
theorem seqN (h : f1 ρ = .ok .nx ρ1) (h2 : f2 ρ1 = r) : fSeq f1 f2 ρ = r := (fSeq_nx h).trans h2
theorem seqR (h : f1 ρ = .ok (.rt x) ρ1) : fSeq f1 f2 ρ = .ok (.rt x) ρ1 := fSeq_rt h
theorem ifT {fc : Rho → R Bool} (h : fc ρ = .ok true ρ1) (h2 : fa ρ1 = r) : fIfS fc fa fb ρ = r := (fIfS_t h).trans h2
theorem ifF {fc : Rho → R Bool} (h : fc ρ = .ok false ρ1) (h2 : fb ρ1 = r) : fIfS fc fa fb ρ = r := (fIfS_f h).trans h2
theorem callR {m : FM} {fas : Rho → R (List W)} {ws : List W} {ss ss' : List S} {d : D} (h4 : m ss = .ret (.d d) ss') (h1 : fas ρ = .ok ws ρ1) (h2 : argS ρ1 ws = some ss) (h3 : nodupB (ownIx ws) = true) (h5 : putBack ρ1 ws ss' = ρ2) : fCall m fas ρ = .ok (.d d) ρ2 := by
  rw [← h5]
  exact fCall_ret h1 h2 h3 h4
end
theorem runR {n : Nat} {body : List Nat → Rho → R Fl} {ss ss' : List S} {r : S} (ρ' : Rho) (h : body (ownIdx 0 ss) (rho0 n ss) = .ok (.rt r) ρ') (h2 : outS 0 ss ρ' = ss') : runF n body ss = .ret r ss' := by
  rw [← h2]
  exact runF_rt h
theorem runN {n : Nat} {body : List Nat → Rho → R Fl} {ss ss' : List S} (ρ' : Rho) (h : body (ownIdx 0 ss) (rho0 n ss) = .ok .nx ρ') (h2 : outS 0 ss ρ' = ss') : runF n body ss = .ret (.d .none) ss' := by
  rw [← h2]
  exact runF_nx h
/-! ### places -/
def dig : Nat → Nat → List Int
  | 1, n => [((n : Nat) : Int)]
  | 2, n => [((n / 3 : Nat) : Int), ((n % 3 : Nat) : Int)]
  | 3, n => [((n / 9 : Nat) : Int), ((n / 3 % 3 : Nat) : Int), ((n % 3 : Nat) : Int)]
  | _, _ => []
def pt (s n : Nat) : D := .tuple ((dig s n).map .int)
def sz : Nat → Nat
  | 1 => 3
  | 2 => 9
  | 3 => 27
  | _ => 0
def t3 (x y : Nat) : Nat := (6 - x - y) % 3
/-- the third place of two -/
def th (a b : Nat) : Nat := 9 * t3 (a / 9) (b / 9) + 3 * t3 (a / 3 % 3) (b / 3 % 3) + t3 (a % 3) (b % 3)
abbrev Sz (s : Nat) : Prop := s = 1 ∨ s = 2 ∨ s = 3
def dsEq : List S → List D → Bool
  | [], [] => true
  | .d x :: r, y :: t => deq x y && dsEq r t
  | _, _ => false
theorem dsEq_eq : ∀ {l : List S} {t : List D}, dsEq l t = true → l = t.map .d
  | [], [], _ => rfl
  | [], _ :: _, h => by cases h
  | .d x :: r, [], h => by cases h
  | .d x :: r, y :: t, h => by
    rw [dsEq, Bool.and_eq_true] at h
    rw [List.map_cons, deq_eq x y h.1, dsEq_eq h.2]
  | .l _ :: _, t, h => by cases t <;> cases h
  | .m _ :: _, t, h => by cases t <;> cases h
  | .t _ _ _ :: _, t, h => by cases t <;> cases h
  | .e _ :: _, t, h => by cases t <;> cases h
  | .z _ :: _, t, h => by cases t <;> cases h
def isRet (f : FR) (r : D) (ss : List D) : Bool := match f with
  | .ret (.d x) l => deq x r && dsEq l ss
  | _ => false
theorem isRet_eq {f : FR} {r : D} {ss : List D} (h : isRet f r ss = true) : f = .ret (.d r) (ss.map .d) := by
  unfold isRet at h
  split at h
  · rw [Bool.and_eq_true] at h
    rw [deq_eq _ _ h.1, dsEq_eq h.2]
  · cases h
/-- what is asked of all pairs of places of a board -/
def pairsB (s : Nat) (f : Nat → Nat → Bool) : Bool := (List.range (sz s)).all fun a => (List.range (sz s)).all fun b => f a b
theorem pairsB_ok {s : Nat} {f : Nat → Nat → Bool} (h : pairsB s f = true) {a b : Nat} (ha : a < sz s) (hb : b < sz s) : f a b = true := by
  unfold pairsB at h
  exact List.all_eq_true.mp (List.all_eq_true.mp h a (List.mem_range.mpr ha)) b (List.mem_range.mpr hb)
def onesB (s : Nat) (f : Nat → Bool) : Bool := (List.range (sz s)).all f
theorem onesB_ok {s : Nat} {f : Nat → Bool} (h : onesB s f = true) {a : Nat} (ha : a < sz s) : f a = true := List.all_eq_true.mp h a (List.mem_range.mpr ha)
def isBo (o : Option D) (b : Bool) : Bool := match o with
  | some (.bool c) => c == b
  | _ => false
end FL

namespace FL
open PySem
theorem isBo_eq {o : Option D} {b : Bool} (h : isBo o b = true) : o = some (.bool b) := by
  unfold isBo at h
  split at h
  · rw [eq_of_beq h]
  · cases h
theorem third_of_chk : (([1, 2, 3] : List Nat).all fun s => pairsB s fun a b => isRet (m_third_of [.d (pt s a), .d (pt s b)]) (pt s (th a b)) [pt s a, pt s b]) = true := by decide +kernel
theorem lt_chk : (([1, 2, 3] : List Nat).all fun s => pairsB s fun a b => isBo (ltD (pt s a) (pt s b)) (decide (a < b))) = true := by decide +kernel
theorem eqv_chk : (([1, 2, 3] : List Nat).all fun s => pairsB s fun a b => PyData.eqv (pt s a) (pt s b) == decide (a = b)) = true := by decide +kernel
theorem th_chk : (([1, 2, 3] : List Nat).all fun s => pairsB s fun a b => decide (th a b < sz s) && decide (th a b = th b a) && decide (th a (th a b) = b) && (decide (a = b) || (decide (th a b ≠ a) && decide (th a b ≠ b)))) = true := by decide +kernel
theorem fits_chk : (([1, 2, 3] : List Nat).all fun s => onesB s fun a => isRet (m_fits [.d (.int s), .d (pt s a)]) (.bool true) [.int s, pt s a]) = true := by decide +kernel
theorem three {p : Nat → Bool} (h : (([1, 2, 3] : List Nat).all p) = true) {s : Nat} (hs : Sz s) : p s = true := by
  refine List.all_eq_true.mp h s ?_
  rcases hs with rfl | rfl | rfl <;> simp
section
variable {s a b : Nat} (hs : Sz s) (ha : a < sz s) (hb : b < sz s)
include hs ha
theorem fits_spec : m_fits [.d (.int s), .d (pt s a)] = .ret (.d (.bool true)) [.d (.int s), .d (pt s a)] := isRet_eq (onesB_ok (three fits_chk hs) ha)
include hb
theorem third_of_spec : m_third_of [.d (pt s a), .d (pt s b)] = .ret (.d (pt s (th a b))) [.d (pt s a), .d (pt s b)] := isRet_eq (pairsB_ok (three third_of_chk hs) ha hb)
theorem lt_spec : ltD (pt s a) (pt s b) = some (.bool (decide (a < b))) := isBo_eq (pairsB_ok (three lt_chk hs) ha hb)
theorem eqv_spec : PyData.eqv (pt s a) (pt s b) = decide (a = b) := eq_of_beq (pairsB_ok (three eqv_chk hs) ha hb)
theorem th_facts : th a b < sz s ∧ th a b = th b a ∧ th a (th a b) = b ∧ (a = b ∨ (th a b ≠ a ∧ th a b ≠ b)) := by
  have h := pairsB_ok (three th_chk hs) ha hb
  simp only [Bool.and_eq_true, Bool.or_eq_true, decide_eq_true_eq] at h
  exact ⟨h.1.1.1, h.1.1.2, h.1.2, h.2⟩
end
/-! ### shapes -/
theorem shpI : ∀ (k : Nat) (xs : List Int), shpAll k (xs.map PyData.int) = true
  | _, [] => rfl
  | k, x :: xs => by rw [List.map_cons, shpAll, shpI k xs]; cases k <;> rfl
theorem shp_pt (k s n : Nat) : shp (k + 1) (pt s n) = true := by
  unfold pt
  rw [shp]
  exact shpI _ _
theorem shp_pts (k s : Nat) : ∀ L : List Nat, shpAll (k + 1) (L.map (pt s)) = true
  | [] => rfl
  | n :: L => by rw [List.map_cons, shpAll, shp_pt, shp_pts k s L]; rfl
theorem nod_ints : ∀ xs : List Int, nodAll (xs.map PyData.int) = true
  | [] => rfl
  | x :: xs => by rw [List.map_cons, nodAll, nod_ints xs]; rfl
theorem nod_pt (s n : Nat) : nod (pt s n) = true := by
  unfold pt
  rw [nod]
  exact nod_ints _
theorem nod_pts (s : Nat) (L : List Nat) : nodAll (L.map (pt s)) = true := nodAll_map _ (nod_pt s) L
/-- a tuple or a list of these places -/
def sq (t : Bool) (xs : List D) : D := if t = true then .tuple xs else .list xs
structure OkSet (s : Nat) (L : List Nat) : Prop where
  srt : L.Pairwise (· < ·)
  lt : ∀ a ∈ L, a < sz s
theorem srt_len : ∀ {L : List Nat} {m n : Nat}, L.Pairwise (· < ·) → (∀ a ∈ L, m ≤ a ∧ a < n) → L.length ≤ n - m
  | [], _, _, _, _ => Nat.zero_le _
  | a :: L, m, n, h, hb => by
    rw [List.pairwise_cons] at h
    have h1 := hb a List.mem_cons_self
    have := srt_len (m := a + 1) (n := n) h.2 fun c hc => ⟨h.1 c hc, (hb c (List.mem_cons_of_mem _ hc)).2⟩
    rw [List.length_cons]
    omega
theorem sz_le {s : Nat} (hs : Sz s) : sz s ≤ 27 := by rcases hs with rfl | rfl | rfl <;> decide
theorem OkSet.len {s : Nat} {L : List Nat} (h : OkSet s L) : L.length ≤ sz s := by
  have := srt_len (m := 0) h.srt fun a ha => ⟨Nat.zero_le _, h.lt a ha⟩
  omega
theorem in_spec {s : Nat} (hs : Sz s) {t : Bool} {L : List Nat} (hL : ∀ a ∈ L, a < sz s) {n : Nat} (hn : n < sz s) : inD (pt s n) (sq t (L.map (pt s))) = some (.bool (decide (n ∈ L))) := by
  have e : ((L.map (pt s)).any fun z => PyData.eqv z (pt s n)) = decide (n ∈ L) := by
    rw [List.any_map]
    induction L with
    | nil => simp
    | cons a L ih =>
      rw [List.any_cons, ih fun c hc => hL c (List.mem_cons_of_mem _ hc)]
      simp only [Function.comp]
      rw [eqv_spec hs (hL a List.mem_cons_self) hn]
      by_cases e : n = a
      · subst e; simp
      · have e' : ¬ a = n := fun z => e z.symm
        simp [e, e']
  cases t with
  | true =>
    show inD (pt s n) (.tuple (L.map (pt s))) = _
    rw [inD, if_pos ⟨shp_pt 7 s n, by rw [shp]; exact shp_pts 6 s L⟩, e]
  | false =>
    show inD (pt s n) (.list (L.map (pt s))) = _
    rw [inD, if_pos ⟨shp_pt 7 s n, by rw [shp]; exact shp_pts 6 s L⟩, e]
theorem notIn_spec {s : Nat} (hs : Sz s) {t : Bool} {L : List Nat} (hL : ∀ a ∈ L, a < sz s) {n : Nat} (hn : n < sz s) : notInD (pt s n) (sq t (L.map (pt s))) = some (.bool (!decide (n ∈ L))) := by
  have e : ((L.map (pt s)).any fun z => PyData.eqv z (pt s n)) = decide (n ∈ L) := by
    have := in_spec hs (t := true) hL hn
    rw [show sq true (L.map (pt s)) = .tuple (L.map (pt s)) from rfl, inD, if_pos ⟨shp_pt 7 s n, by rw [shp]; exact shp_pts 6 s L⟩] at this
    exact PyData.bool.inj (Option.some.inj this)
  cases t with
  | true =>
    show notInD (pt s n) (.tuple (L.map (pt s))) = _
    rw [notInD, if_pos ⟨shp_pt 7 s n, by rw [shp]; exact shp_pts 6 s L⟩, e]
  | false =>
    show notInD (pt s n) (.list (L.map (pt s))) = _
    rw [notInD, if_pos ⟨shp_pt 7 s n, by rw [shp]; exact shp_pts 6 s L⟩, e]
/-! ### slices, all, zip -/
theorem cut_from {α : Type} (xs : List α) (k : Nat) : cutD xs (some (k : Int)) none = xs.drop k := by
  unfold cutD
  have h1 : HT.sIx xs.length 0 (some (k : Int)) = min k xs.length := by
    unfold HT.sIx
    simp
    omega
  have h2 : HT.sIx xs.length xs.length none = xs.length := rfl
  rw [h1, h2]
  by_cases h : k ≤ xs.length
  · rw [Nat.min_eq_left h]
    exact List.take_of_length_le (by rw [List.length_drop]; exact Nat.le_refl _)
  · rw [Nat.min_eq_right (by omega), List.drop_length, List.drop_eq_nil_of_le (by omega)]
    simp
theorem slice_spec (t : Bool) (xs : List D) (k : Nat) : slD (sq t xs) (some (k : Int)) none = some (sq t (xs.drop k)) := by
  cases t with
  | true => show some (PyData.tuple (cutD xs _ _)) = _; rw [cut_from]; rfl
  | false => show some (PyData.list (cutD xs _ _)) = _; rw [cut_from]; rfl
theorem bools_true {α : Type} : ∀ l : List α, boolsOf (l.map fun _ => PyData.bool true) = some (l.map fun _ => true)
  | [] => rfl
  | a :: l => by rw [List.map_cons, boolsOf, bools_true l]; rfl
theorem all_true {α : Type} (l : List α) : allD [.list (l.map fun _ => .bool true)] = some (.bool true) := by
  show (boolsOf _).map _ = _
  rw [bools_true]
  simp
theorem zipD_eq : ∀ xs ys : List D, zipD xs ys = (xs.zip ys).map fun x => .tuple [x.1, x.2]
  | [], _ => by simp [zipD]
  | _ :: _, [] => by simp [zipD]
  | x :: xs, y :: ys => by rw [zipD, zipD_eq xs ys]; rfl
end FL

namespace FL
open PySem
abbrev st (s : Nat) (L : List Nat) : D := .tuple (L.map (pt s))
theorem check_size_chk : (([1, 2, 3] : List Nat).all fun s => isRet (m_check_size [.d (.int s)]) .none [.int s]) = true := by decide +kernel
theorem check_size_spec {s : Nat} (hs : Sz s) : m_check_size [.d (.int s)] = .ret (.d .none) [.d (.int s)] := isRet_eq (three check_size_chk hs)
theorem grid_chk : (([1, 2, 3] : List Nat).all fun s => isRet (m__law_grid [.d (.int s)]) (.list ((List.range (sz s)).map (pt s))) [.int s]) = true := by decide +kernel
theorem grid_spec {s : Nat} (hs : Sz s) : m__law_grid [.d (.int s)] = .ret (.d (.list ((List.range (sz s)).map (pt s)))) [.d (.int s)] := isRet_eq (three grid_chk hs)
theorem all_places_chk : (([1, 2, 3] : List Nat).all fun s => isRet (m_all_places [.d (.int s)]) (.list ((List.range (sz s)).map (pt s))) [.int s]) = true := by decide +kernel
theorem all_places_spec {s : Nat} (hs : Sz s) : m_all_places [.d (.int s)] = .ret (.d (.list ((List.range (sz s)).map (pt s)))) [.d (.int s)] := isRet_eq (three all_places_chk hs)
def grt : Nat → Nat
  | 1 => 2
  | 2 => 4
  | _ => 9
theorem greatest_chk : (([1, 2, 3] : List Nat).all fun s => isRet (m_greatest_size [.d (.int s)]) (.int (grt s)) [.int s]) = true := by decide +kernel
theorem greatest_spec {s : Nat} (hs : Sz s) : m_greatest_size [.d (.int s)] = .ret (.d (.int (grt s))) [.d (.int s)] := isRet_eq (three greatest_chk hs)
/-- neighbours of a rising list rise -/
theorem zip_rise : ∀ {L : List Nat}, L.Pairwise (· < ·) → ∀ p ∈ L.zip (L.drop 1), p.1 < p.2
  | [], _, p, h => by simp at h
  | [a], _, p, h => by simp at h
  | a :: b :: L, h, p, hp => by
    simp only [List.drop_succ_cons, List.drop_zero, List.zip_cons_cons, List.mem_cons] at hp
    rw [List.pairwise_cons] at h
    rcases hp with e | hp
    · rw [e]; exact h.1 b List.mem_cons_self
    · exact zip_rise h.2 p (by simpa using hp)
theorem lies_spec {s : Nat} (hs : Sz s) {L : List Nat} (hL : OkSet s L) : m_lies [.d (.int s), .d (st s L)] = .ret (.d (.bool true)) [.d (.int s), .d (st s L)] := by
  have hl : L.length ≤ 27 := Nat.le_trans hL.len (sz_le hs)
  have c1 : fLc (fSrc (fVar 1)) (.n 4) [4] fYes (fCall m_fits (fCons (fVar 0) (fCons (fVar 4) fNil))) [some (.d (.int s)), some (.d (st s L)), none, none, none] = .ok (.d (.list (((L.map (pt s)).filter fun _ => true).map fun _ => .bool true))) [some (.d (.int s)), some (.d (st s L)), none, none, none] := by
    refine fLc_n (dep := none) (xs := L.map (pt s)) (fun _ => true) (fun _ => .bool true) rfl (by rw [List.length_map]; omega) (by simp) rfl rfl (fun x hx => rfl) fun x hx _ => ?_
    obtain ⟨a, ha, rfl⟩ := List.mem_map.mp hx
    exact callR (fits_spec hs (hL.lt a ha)) rfl rfl rfl rfl
  have z : zipD (L.map (pt s)) ((L.map (pt s)).drop 1) = ((L.zip (L.drop 1)).map fun p => (pt s p.1, pt s p.2)).map fun x => .tuple [x.1, x.2] := by
    rw [zipD_eq, ← List.map_drop, List.zip_map]
    rfl
  have c2 : fLc (fSrcs (fun _ => zipOf) (fCons (fVar 1) (fCons (fSl (fVar 1) (fPart (fD (.int 1))) fNoPart) fNil))) (.p 2 3) [2, 3] fYes (fBin ltD (fVar 2) (fVar 3)) [some (.d (.int s)), some (.d (st s L)), none, none, none] = .ok (.d (.list ((((L.zip (L.drop 1)).map fun p => (pt s p.1, pt s p.2)).filter fun _ => true).map fun _ => .bool true))) [some (.d (.int s)), some (.d (st s L)), none, none, none] := by
    refine fLc_p (dep := none) (i := 2) (j := 3) (ρ1 := [some (.d (.int s)), some (.d (st s L)), none, none, none]) (xs := (L.zip (L.drop 1)).map fun p => (pt s p.1, pt s p.2)) (fun _ _ => true) (fun _ _ => .bool true) ?_ ?_ (by decide) (by simp) (by simp) rfl rfl rfl (fun x hx => rfl) fun x hx _ => ?_
    · refine fSrcs_of (ws := [.d (st s L), .d (.tuple ((L.map (pt s)).drop 1))]) ?_ ?_
      · refine fCons_of rfl (fCons_of (fSl_d (x := st s L) (z := .tuple ((L.map (pt s)).drop 1)) rfl rfl rfl rfl ?_) rfl)
        exact slice_spec true (L.map (pt s)) 1
      · show some (zipD (L.map (pt s)) ((L.map (pt s)).drop 1), none) = _
        rw [z]
    · rw [List.length_map, List.length_zip]
      omega
    · obtain ⟨p, hp, rfl⟩ := List.mem_map.mp hx
      have h1 := zip_rise hL.srt p hp
      have h2 := List.of_mem_zip hp
      refine fBin_d (x := pt s p.1) (y := pt s p.2) rfl rfl rfl rfl ?_
      rw [lt_spec hs (hL.lt _ h2.1) (hL.lt _ (List.mem_of_mem_drop h2.2))]
      simp [h1]
  refine runR [some (.d (.int s)), some (.d (st s L)), none, none, none] ?_ rfl
  show b_lies [] [some (.d (.int s)), some (.d (st s L)), none, none, none] = .ok (.rt (.d (.bool true))) [some (.d (.int s)), some (.d (st s L)), none, none, none]
  unfold b_lies
  refine seqN (ρ1 := [some (.d (.int s)), some (.d (st s L)), none, none, none]) ?_ (seqR (fRet_d (fCB_d (fCons_of c2 rfl) rfl (all_true _))))
  refine ifF (ρ1 := [some (.d (.int s)), some (.d (st s L)), none, none, none]) ?_ rfl
  exact (tfOr_f (ρ1 := [some (.d (.int s)), some (.d (st s L)), none, none, none]) rfl).trans (tfNot_b (b := true) (asB_b (fCB_d (fCons_of c1 rfl) rfl (all_true _))))
theorem check_set_spec {s : Nat} (hs : Sz s) {L : List Nat} (hL : OkSet s L) : m_check_set [.d (.int s), .d (st s L)] = .ret (.d .none) [.d (.int s), .d (st s L)] := by
  refine runN [some (.d (.int s)), some (.d (st s L))] ?_ rfl
  show b_check_set [] [some (.d (.int s)), some (.d (st s L))] = _
  unfold b_check_set
  refine seqN (fDrop_ok (callR (check_size_spec hs) rfl rfl rfl rfl)) (seqN (ρ1 := [some (.d (.int s)), some (.d (st s L))]) ?_ rfl)
  exact ifF (tfNot_b (b := true) (asB_b (callR (lies_spec hs hL) rfl rfl rfl rfl))) rfl
/-! ### the lines of a list -/
def tri (s : Nat) (p : Nat × Nat × Nat) : D := .tuple [pt s p.1, pt s p.2.1, pt s p.2.2]
def llI (L : List Nat) (a : Nat) : List Nat → List (Nat × Nat × Nat)
  | [] => []
  | b :: r => (if b < th a b ∧ th a b ∈ L then [(a, b, th a b)] else []) ++ llI L a r
def llG (L : List Nat) : List Nat → List (Nat × Nat × Nat)
  | [] => []
  | a :: r => llI L a r ++ llG L r
def ll (L : List Nat) : List (Nat × Nat × Nat) := llG L L
theorem llI_snoc (L : List Nat) (a b : Nat) : ∀ r : List Nat, llI L a (r ++ [b]) = llI L a r ++ (if b < th a b ∧ th a b ∈ L then [(a, b, th a b)] else [])
  | [] => by simp [llI]
  | c :: r => by rw [List.cons_append, llI, llI, llI_snoc L a b r, List.append_assoc]
theorem llI_len (L : List Nat) (a : Nat) : ∀ r : List Nat, (llI L a r).length ≤ r.length
  | [] => Nat.le_refl _
  | b :: r => by
    rw [llI, List.length_append, List.length_cons]
    have := llI_len L a r
    split <;> simp <;> omega
/-- the first k turns of the outer loop -/
def llK (L : List Nat) : Nat → List Nat → List (Nat × Nat × Nat)
  | 0, _ => []
  | _, [] => []
  | k + 1, a :: r => llI L a r ++ llK L k r
theorem llK_all (L : List Nat) : ∀ r : List Nat, llK L r.length r = llG L r
  | [] => rfl
  | a :: r => by rw [List.length_cons, llK, llG, llK_all L r]
theorem llK_succ (L : List Nat) : ∀ (k : Nat) (r : List Nat) (a : Nat), r[k]? = some a → llK L (k + 1) r = llK L k r ++ llI L a (r.drop (k + 1))
  | _, [], _, h => by simp at h
  | 0, a :: r, b, h => by simp at h; subst h; simp [llK]
  | k + 1, a :: r, b, h => by
    rw [llK, llK_succ L k r b (by simpa using h), llK]
    simp
theorem llK_len (L : List Nat) : ∀ (k : Nat) (r : List Nat), (llK L k r).length ≤ k * r.length
  | 0, _ => by simp [llK]
  | _ + 1, [] => by simp [llK]
  | k + 1, a :: r => by
    rw [llK, List.length_append, List.length_cons]
    have h1 := llI_len L a r
    have h2 := llK_len L k r
    have h3 : k * r.length ≤ k * (r.length + 1) := Nat.mul_le_mul_left k (Nat.le_succ _)
    rw [Nat.succ_mul]
    omega
theorem enumD_at : ∀ (k0 : Nat) (xs : List D) (k : Nat) (y : D), (enumD k0 xs)[k]? = some y → ∃ x, xs[k]? = some x ∧ y = .tuple [.int ((k0 + k : Nat) : Int), x] := fun k0 xs k y h => enumD_get h
theorem line_list_spec {s : Nat} (hs : Sz s) (t : Bool) {L : List Nat} (hL : ∀ a ∈ L, a < sz s) (hl : L.length ≤ 500) : m_line_list [.d (sq t (L.map (pt s)))] = .ret (.d (.list ((ll L).map (tri s)))) [.d (sq t (L.map (pt s)))] := by
  have inner : ∀ (k a : Nat) (F : List D) (o l : Option S), L[k]? = some a → F.length ≤ 250000 →
      ∃ o' l', fFor (fSrc (fSl (fVar 0) (fPart (fBin addD (fVar 2) (fD (.int 1)))) fNoPart)) (.n 4) (fun P => (fSeq (fAsg P 5 (fCall m_third_of (fCons (fVar 3) (fCons (fVar 4) fNil)))) (fSeq (fIfS (tfAnd (asB (fBin ltD (fVar 4) (fVar 5))) (asB (fBin inD (fVar 5) (fVar 0)))) (fSeq (fDrop (fApp 1 (fCons (fTup (fCons (fVar 3) (fCons (fVar 4) (fCons (fVar 5) fNil)))) fNil))) fNext) fNext) fNext))) [] [some (.d (sq t (L.map (pt s)))), some (.l F), some (.d (.int k)), some (.d (pt s a)), o, l] =
        .ok .nx [some (.d (sq t (L.map (pt s)))), some (.l (F ++ (llI L a (L.drop (k + 1))).map (tri s))), some (.d (.int k)), some (.d (pt s a)), o', l'] := by
    intro k a F o l hk hF
    have ha := hL a (List.mem_of_getElem? hk)
    have hsrc : fSrc (fSl (fVar 0) (fPart (fBin addD (fVar 2) (fD (.int 1)))) fNoPart) [some (.d (sq t (L.map (pt s)))), some (.l F), some (.d (.int k)), some (.d (pt s a)), o, l] = .ok ((L.drop (k + 1)).map (pt s), none) [some (.d (sq t (L.map (pt s)))), some (.l F), some (.d (.int k)), some (.d (pt s a)), o, l] := by
      refine fSrc_of (fSl_d (x := sq t (L.map (pt s))) (z := sq t ((L.map (pt s)).drop (k + 1))) rfl rfl rfl rfl ?_) ?_
      · exact slice_spec t _ (k + 1)
      · rw [← List.map_drop]
        cases t <;> rfl
    rw [fFor_of hsrc]
    obtain ⟨ρ', h1, h2⟩ := forF_inv (dep := none) (P := pinDep none []) (tg := .n 4) (body := fun ρ => (fSeq (fAsg (pinDep none []) 5 (fCall m_third_of (fCons (fVar 3) (fCons (fVar 4) fNil)))) (fSeq (fIfS (tfAnd (asB (fBin ltD (fVar 4) (fVar 5))) (asB (fBin inD (fVar 5) (fVar 0)))) (fSeq (fDrop (fApp 1 (fCons (fTup (fCons (fVar 3) (fCons (fVar 4) (fCons (fVar 5) fNil)))) fNil))) fNext) fNext) fNext)) ρ)
      (fun j ρ => ∃ o' l', ρ = [some (.d (sq t (L.map (pt s)))), some (.l (F ++ (llI L a ((L.drop (k + 1)).take j)).map (tri s))), some (.d (.int k)), some (.d (pt s a)), o', l']) ((L.drop (k + 1)).map (pt s)) 0 [some (.d (sq t (L.map (pt s)))), some (.l F), some (.d (.int k)), some (.d (pt s a)), o, l] ⟨o, l, by simp [llI]⟩ (fun _ _ _ => rfl) (by
        rintro j x ρ hx ⟨o', l', rfl⟩
        rw [Nat.zero_add]
        rw [List.getElem?_map] at hx
        obtain ⟨b, hb, rfl⟩ := Option.map_eq_some_iff.mp hx
        have hbm : b ∈ L := List.mem_of_mem_drop (List.mem_of_getElem? hb)
        have hb' := hL b hbm
        have tf := th_facts hs ha hb'
        have ext : llI L a ((L.drop (k + 1)).take (j + 1)) = llI L a ((L.drop (k + 1)).take j) ++ (if b < th a b ∧ th a b ∈ L then [(a, b, th a b)] else []) := by
          rw [List.take_add_one, hb]
          exact llI_snoc L a b _
        refine ⟨[some (.d (sq t (L.map (pt s)))), some (.l (F ++ (llI L a ((L.drop (k + 1)).take j)).map (tri s))), some (.d (.int k)), some (.d (pt s a)), some (.d (pt s b)), l'], ?_⟩
        have stp : fAsg (pinDep none []) 5 (fCall m_third_of (fCons (fVar 3) (fCons (fVar 4) fNil))) [some (.d (sq t (L.map (pt s)))), some (.l (F ++ (llI L a ((L.drop (k + 1)).take j)).map (tri s))), some (.d (.int k)), some (.d (pt s a)), some (.d (pt s b)), l'] = .ok .nx [some (.d (sq t (L.map (pt s)))), some (.l (F ++ (llI L a ((L.drop (k + 1)).take j)).map (tri s))), some (.d (.int k)), some (.d (pt s a)), some (.d (pt s b)), some (.d (pt s (th a b)))] :=
          fAsg_d (callR (third_of_spec hs ha hb') rfl rfl rfl rfl) rfl
        have t1 : asB (fBin ltD (fVar 4) (fVar 5)) [some (.d (sq t (L.map (pt s)))), some (.l (F ++ (llI L a ((L.drop (k + 1)).take j)).map (tri s))), some (.d (.int k)), some (.d (pt s a)), some (.d (pt s b)), some (.d (pt s (th a b)))] = .ok (decide (b < th a b)) [some (.d (sq t (L.map (pt s)))), some (.l (F ++ (llI L a ((L.drop (k + 1)).take j)).map (tri s))), some (.d (.int k)), some (.d (pt s a)), some (.d (pt s b)), some (.d (pt s (th a b)))] :=
          asB_b (fBin_d (x := pt s b) (y := pt s (th a b)) rfl rfl rfl rfl (lt_spec hs hb' tf.1))
        have t2 : asB (fBin inD (fVar 5) (fVar 0)) [some (.d (sq t (L.map (pt s)))), some (.l (F ++ (llI L a ((L.drop (k + 1)).take j)).map (tri s))), some (.d (.int k)), some (.d (pt s a)), some (.d (pt s b)), some (.d (pt s (th a b)))] = .ok (decide (th a b ∈ L)) [some (.d (sq t (L.map (pt s)))), some (.l (F ++ (llI L a ((L.drop (k + 1)).take j)).map (tri s))), some (.d (.int k)), some (.d (pt s a)), some (.d (pt s b)), some (.d (pt s (th a b)))] :=
          asB_b (fBin_d (x := pt s (th a b)) (y := sq t (L.map (pt s))) rfl rfl rfl rfl (in_spec hs hL tf.1))
        by_cases hc : b < th a b ∧ th a b ∈ L
        · refine ⟨[some (.d (sq t (L.map (pt s)))), some (.l ((F ++ (llI L a ((L.drop (k + 1)).take j)).map (tri s)) ++ [tri s (a, b, th a b)])), some (.d (.int k)), some (.d (pt s a)), some (.d (pt s b)), some (.d (pt s (th a b)))], rfl, ?_, some (.d (pt s b)), some (.d (pt s (th a b))), ?_⟩
          · rw [decide_eq_true hc.1] at t1
            rw [decide_eq_true hc.2] at t2
            refine seqN stp (seqN (ifT ((tfAnd_t t1).trans t2) (seqN (fDrop_ok (fApp_d (xs0 := F ++ (llI L a ((L.drop (k + 1)).take j)).map (tri s)) (xs := F ++ (llI L a ((L.drop (k + 1)).take j)).map (tri s)) (x := tri s (a, b, th a b)) rfl rfl rfl ?_)) rfl)) rfl)
            · rw [List.length_append, List.length_map]
              have := llI_len L a ((L.drop (k + 1)).take j)
              rw [List.length_take, List.length_drop] at this
              omega
          · rw [ext, if_pos hc, List.map_append, ← List.append_assoc]
            rfl
        · refine ⟨[some (.d (sq t (L.map (pt s)))), some (.l (F ++ (llI L a ((L.drop (k + 1)).take j)).map (tri s))), some (.d (.int k)), some (.d (pt s a)), some (.d (pt s b)), some (.d (pt s (th a b)))], rfl, ?_, some (.d (pt s b)), some (.d (pt s (th a b))), ?_⟩
          · refine seqN stp (seqN (ifF ?_ rfl) rfl)
            by_cases hc1 : b < th a b
            · rw [decide_eq_true hc1] at t1
              rw [decide_eq_false fun z => hc ⟨hc1, z⟩] at t2
              exact (tfAnd_t t1).trans t2
            · rw [decide_eq_false hc1] at t1
              exact tfAnd_f t1
          · rw [ext, if_neg hc, List.append_nil])
    obtain ⟨o', l', rfl⟩ := h2
    refine ⟨o', l', h1.trans ?_⟩
    rw [Nat.zero_add, List.length_map, List.take_length]
  have outer : ∃ a b c d, fFor (fSrcs enumOf (fCons (fVar 0) fNil)) (.p 2 3) (fun P => (fSeq (fFor (fSrc (fSl (fVar 0) (fPart (fBin addD (fVar 2) (fD (.int 1)))) fNoPart)) (.n 4) (fun P => (fSeq (fAsg P 5 (fCall m_third_of (fCons (fVar 3) (fCons (fVar 4) fNil)))) (fSeq (fIfS (tfAnd (asB (fBin ltD (fVar 4) (fVar 5))) (asB (fBin inD (fVar 5) (fVar 0)))) (fSeq (fDrop (fApp 1 (fCons (fTup (fCons (fVar 3) (fCons (fVar 4) (fCons (fVar 5) fNil)))) fNil))) fNext) fNext) fNext))) P) fNext)) [] [some (.d (sq t (L.map (pt s)))), some (.l []), none, none, none, none] =
      .ok .nx [some (.d (sq t (L.map (pt s)))), some (.l ((ll L).map (tri s))), a, b, c, d] := by
    rw [fFor_of (xs := enumD 0 (L.map (pt s))) (dep := none) (ρ1 := [some (.d (sq t (L.map (pt s)))), some (.l []), none, none, none, none])]
    · obtain ⟨ρ', h1, h2⟩ := forF_inv (dep := none) (P := pinDep none []) (tg := .p 2 3) (body := fun ρ => (fSeq (fFor (fSrc (fSl (fVar 0) (fPart (fBin addD (fVar 2) (fD (.int 1)))) fNoPart)) (.n 4) (fun P => (fSeq (fAsg P 5 (fCall m_third_of (fCons (fVar 3) (fCons (fVar 4) fNil)))) (fSeq (fIfS (tfAnd (asB (fBin ltD (fVar 4) (fVar 5))) (asB (fBin inD (fVar 5) (fVar 0)))) (fSeq (fDrop (fApp 1 (fCons (fTup (fCons (fVar 3) (fCons (fVar 4) (fCons (fVar 5) fNil)))) fNil))) fNext) fNext) fNext))) (pinDep none [])) fNext) ρ)
        (fun j ρ => ∃ a b c d, ρ = [some (.d (sq t (L.map (pt s)))), some (.l ((llK L j L).map (tri s))), a, b, c, d] ∧ j ≤ L.length) (enumD 0 (L.map (pt s))) 0 [some (.d (sq t (L.map (pt s)))), some (.l []), none, none, none, none] ⟨none, none, none, none, rfl, Nat.zero_le _⟩ (fun _ _ _ => rfl) (by
          rintro j x ρ hx ⟨a, b, c, d, rfl, hj⟩
          obtain ⟨y, hy, rfl⟩ := enumD_get hx
          rw [List.getElem?_map] at hy
          obtain ⟨n, hn, rfl⟩ := Option.map_eq_some_iff.mp hy
          rw [Nat.zero_add]
          rw [Nat.zero_add] at hj
          have hjl : j < L.length := (List.getElem?_eq_some_iff.mp hn).1
          have hb : ((llK L j L).map (tri s)).length ≤ 250000 := by
            rw [List.length_map]
            refine Nat.le_trans (llK_len L j L) (Nat.le_trans (Nat.mul_le_mul (Nat.le_trans hj hl) hl) (by decide))
          obtain ⟨o', l', e⟩ := inner j n ((llK L j L).map (tri s)) c d hn hb
          refine ⟨[some (.d (sq t (L.map (pt s)))), some (.l ((llK L j L).map (tri s))), some (.d (.int (j : Nat))), some (.d (pt s n)), c, d], [some (.d (sq t (L.map (pt s)))), some (.l ((llK L j L).map (tri s) ++ (llI L n (L.drop (j + 1))).map (tri s))), some (.d (.int (j : Nat))), some (.d (pt s n)), o', l'], rfl, seqN e rfl, some (.d (.int (j : Nat))), some (.d (pt s n)), o', l', ?_, hjl⟩
          rw [llK_succ L j L n hn, List.map_append])
      obtain ⟨a, b, c, d, rfl, _⟩ := h2
      refine ⟨a, b, c, d, h1.trans ?_⟩
      rw [Nat.zero_add, enumD_length, List.length_map, llK_all]
      rfl
    · exact fSrcs_of (ws := [.d (sq t (L.map (pt s)))]) rfl (by cases t <;> rfl)
  obtain ⟨a, b, c, d, ho⟩ := outer
  refine runR [some (.d (sq t (L.map (pt s)))), some (.d (.list ((ll L).map (tri s)))), a, b, c, d] ?_ rfl
  show b_line_list [] [some (.d (sq t (L.map (pt s)))), none, none, none, none, none] = _
  unfold b_line_list
  exact seqN (ρ1 := [some (.d (sq t (L.map (pt s)))), some (.l []), none, none, none, none]) rfl (seqN ho (seqR rfl))
end FL

namespace FL
open PySem L2
theorem fLst_d {fs : Rho → R (List W)} {ρ ρ1 : Rho} {ws : List W} {ds : List D} (h : fs ρ = .ok ws ρ1) (h1 : datas ws = some ds) (hl : ds.length ≤ 1000000) : fLst fs ρ = .ok (.d (.list ds)) ρ1 := by
  unfold fLst
  rw [h]
  simp only [R.bind_ok, h1]
  rw [if_pos hl]
theorem fTup_d {fs : Rho → R (List W)} {ρ ρ1 : Rho} {ws : List W} {ds : List D} (h : fs ρ = .ok ws ρ1) (h1 : datas ws = some ds) (hl : ds.length ≤ 1000000) : fTup fs ρ = .ok (.d (.tuple ds)) ρ1 := by
  unfold fTup
  rw [h]
  simp only [R.bind_ok, h1]
  rw [if_pos hl]
theorem fLenSet_d {f : Rho → R W} {ρ ρ1 : Rho} {x : D} {n : Int} (h : f ρ = .ok (.d x) ρ1) (h1 : setLen x = some n) : fLenSet f ρ = .ok (.d (.int n)) ρ1 := by
  unfold fLenSet
  rw [h]
  simp only [R.bind_ok, look, Option.bind_some, h1]
theorem shp_tri (k s : Nat) (p : Nat × Nat × Nat) : shp (k + 2) (tri s p) = true := by
  unfold tri
  rw [shp]
  simp only [shpAll, shp_pt, Bool.and_true]
theorem shp_tris (k s : Nat) : ∀ T : List (Nat × Nat × Nat), shpAll (k + 2) (T.map (tri s)) = true
  | [] => rfl
  | p :: T => by rw [List.map_cons, shpAll, shp_tri, shp_tris k s T]; rfl
theorem eq_nil_spec {xs : List D} (h : shpAll 7 xs = true) : eqD (.list xs) (.list []) = some (.bool xs.isEmpty) := by
  unfold eqD
  rw [if_pos ⟨by rw [shp]; exact h, rfl⟩]
  cases xs <;> rfl
theorem ne_nil_spec {xs : List D} (h : shpAll 7 xs = true) : neD (.list xs) (.list []) = some (.bool (!xs.isEmpty)) := by
  unfold neD
  rw [if_pos ⟨by rw [shp]; exact h, rfl⟩]
  cases xs <;> rfl
theorem lines_in_spec {s : Nat} (hs : Sz s) {L : List Nat} (hL : OkSet s L) : m_lines_in [.d (.int s), .d (st s L)] = .ret (.d (.list ((ll L).map (tri s)))) [.d (.int s), .d (st s L)] := by
  have hl : L.length ≤ 27 := Nat.le_trans hL.len (sz_le hs)
  refine runR [some (.d (.int s)), some (.d (st s L))] ?_ rfl
  show b_lines_in [] [some (.d (.int s)), some (.d (st s L))] = _
  unfold b_lines_in
  exact seqN (fDrop_ok (callR (check_set_spec hs hL) rfl rfl rfl rfl)) (seqR (fRet_d (callR (line_list_spec hs true hL.lt (by omega)) rfl rfl rfl rfl)))
theorem is_free_spec {s : Nat} (hs : Sz s) {L : List Nat} (hL : OkSet s L) : m_is_free [.d (.int s), .d (st s L)] = .ret (.d (.bool (ll L).isEmpty)) [.d (.int s), .d (st s L)] := by
  have hl : L.length ≤ 27 := Nat.le_trans hL.len (sz_le hs)
  refine runR [some (.d (.int s)), some (.d (st s L))] ?_ rfl
  show b_is_free [] [some (.d (.int s)), some (.d (st s L))] = _
  unfold b_is_free
  refine seqN (fDrop_ok (callR (check_set_spec hs hL) rfl rfl rfl rfl)) (seqR (fRet_d (fBin_d (x := .list ((ll L).map (tri s))) (y := .list []) (callR (line_list_spec hs true hL.lt (by omega)) rfl rfl rfl rfl) rfl rfl rfl ?_)))
  rw [eq_nil_spec (shp_tris 5 s _)]
  cases ll L <;> rfl
theorem eq_pt {s a b : Nat} (hs : Sz s) (ha : a < sz s) (hb : b < sz s) : eqD (pt s a) (pt s b) = some (.bool (decide (a = b))) := by
  unfold eqD
  rw [if_pos ⟨shp_pt 7 s a, shp_pt 7 s b⟩, eqv_spec hs ha hb]
theorem ne_pt {s a b : Nat} (hs : Sz s) (ha : a < sz s) (hb : b < sz s) : neD (pt s a) (pt s b) = some (.bool (!decide (a = b))) := by
  unfold neD
  rw [if_pos ⟨shp_pt 7 s a, shp_pt 7 s b⟩, eqv_spec hs ha hb]
theorem third_spec {s a b : Nat} (hs : Sz s) (ha : a < sz s) (hb : b < sz s) (hne : a ≠ b) : m_third [.d (.int s), .d (pt s a), .d (pt s b)] = .ret (.d (pt s (th a b))) [.d (.int s), .d (pt s a), .d (pt s b)] := by
  refine runR [some (.d (.int s)), some (.d (pt s a)), some (.d (pt s b))] ?_ rfl
  show b_third [] [some (.d (.int s)), some (.d (pt s a)), some (.d (pt s b))] = _
  unfold b_third
  refine seqN (fDrop_ok (callR (check_size_spec hs) rfl rfl rfl rfl)) (seqN (ρ1 := [some (.d (.int s)), some (.d (pt s a)), some (.d (pt s b))]) (ifF ?_ rfl) (seqR (fRet_d (callR (third_of_spec hs ha hb) rfl rfl rfl rfl))))
  refine (tfOr_f (tfNot_b (b := true) (asB_b (callR (fits_spec hs ha) rfl rfl rfl rfl)))).trans ((tfOr_f (tfNot_b (b := true) (asB_b (callR (fits_spec hs hb) rfl rfl rfl rfl)))).trans (asB_b (fBin_d (x := pt s a) (y := pt s b) rfl rfl rfl rfl ?_)))
  rw [eq_pt hs ha hb, decide_eq_false hne]
theorem mul_ok {i j : Int} (h1 : -1000000000000 ≤ i) (h2 : i ≤ 1000000000000) : mulD' (.int i) (.int j) = some (.int (i * j)) := by
  have hc : (-18446744073709551616 < i ∧ i < 18446744073709551616) ∨ (-18446744073709551616 < j ∧ j < 18446744073709551616) := Or.inl ⟨by omega, by omega⟩
  simp only [mulD', mulD]
  rw [if_pos hc]
theorem mul_ok2 {i j : Int} (h1 : -1000000000000 ≤ j) (h2 : j ≤ 1000000000000) : mulD' (.int i) (.int j) = some (.int (i * j)) := by
  have hc : (-18446744073709551616 < i ∧ i < 18446744073709551616) ∨ (-18446744073709551616 < j ∧ j < 18446744073709551616) := Or.inr ⟨by omega, by omega⟩
  simp only [mulD', mulD]
  rw [if_pos hc]
theorem count_pure_spec {s : Nat} (hs : Sz s) {L : List Nat} (hL : OkSet s L) : m_count_pure [.d (.int s), .d (st s L)] = .ret (.d (.int (((sz s : Int) * ((sz s : Int) - 1)).fdiv 6 - ((L.length : Int) * ((sz s : Int) - (L.length : Int))).fdiv 2))) [.d (.int s), .d (st s L)] := by
  have hl : L.length ≤ 27 := Nat.le_trans hL.len (sz_le hs)
  have hz := sz_le hs
  refine runR [some (.d (.int s)), some (.d (st s L)), some (.d (.int (sz s)))] ?_ rfl
  show b_count_pure [] [some (.d (.int s)), some (.d (st s L)), none] = _
  unfold b_count_pure
  refine seqN (fDrop_ok (callR (check_set_spec hs hL) rfl rfl rfl rfl)) (seqN (ρ1 := [some (.d (.int s)), some (.d (st s L)), some (.d (.int (sz s)))]) ?_ (seqR (fRet_d ?_)))
  · refine (fAsg_d (fCB_d (z := .int (sz s)) (fCons_of (callR (all_places_spec hs) rfl rfl rfl rfl) rfl) rfl ?_) rfl).trans rfl
    show some (PyData.int (((List.range (sz s)).map (pt s)).length : Nat)) = _
    simp
  · have ln : fCB lenD (fCons (fVar 1) fNil) [some (.d (.int s)), some (.d (st s L)), some (.d (.int (sz s)))] = .ok (.d (.int (L.length : Int))) [some (.d (.int s)), some (.d (st s L)), some (.d (.int (sz s)))] := by
      refine fCB_d (fCons_of rfl rfl) rfl ?_
      show some (PyData.int ((L.map (pt s)).length : Nat)) = _
      rw [List.length_map]
    refine fBin_d (x := .int (((sz s : Int) * ((sz s : Int) - 1)).fdiv 6)) (y := .int (((L.length : Int) * ((sz s : Int) - (L.length : Int))).fdiv 2)) (fBin_d (x := .int ((sz s : Int) * ((sz s : Int) - 1))) (y := .int 6) (fBin_d (x := .int (sz s)) (y := .int ((sz s : Int) - 1)) rfl rfl rfl rfl ?_) rfl rfl rfl rfl) (fBin_d (x := .int ((L.length : Int) * ((sz s : Int) - (L.length : Int)))) (y := .int 2) (fBin_d (x := .int (L.length : Int)) (y := .int ((sz s : Int) - (L.length : Int))) ln (fBin_d (x := .int (sz s)) (y := .int (L.length : Int)) rfl ln rfl rfl rfl) rfl rfl ?_) rfl rfl rfl rfl) rfl rfl rfl
    · exact mul_ok (by omega) (by omega)
    · exact mul_ok (by omega) (by omega)
/-! ### the rows of the law -/
def rowP (xs ys zs : List Int) : D → Bool := fun x => match x with
  | .int i => decide ((((ddp [] [xs.getD i.toNat 0, ys.getD i.toNat 0, zs.getD i.toNat 0]).length : Nat) : Int) = 2)
  | _ => false
def rowV (xs ys zs : List Int) : Bool := (((rangeD 0 xs.length).filter (rowP xs ys zs)).map fun _ => PyData.int 1).isEmpty
theorem atI_nat {α : Type} (xs : List α) (i : Nat) : atI xs (i : Int) = xs[i]? := by
  unfold atI ixN
  by_cases h : i < xs.length
  · simp [h]
  · simp [h]
/-- a comprehension over range(n) -/
theorem rangeD_mem {n : Nat} {x : D} (h : x ∈ rangeD 0 n) : ∃ i : Nat, i < n ∧ x = .int i := by
  unfold rangeD at h
  obtain ⟨i, hi, e⟩ := List.mem_map.mp h
  exact ⟨i, List.mem_range.mp hi, by rw [← e, Int.zero_add]⟩
theorem rowed_spec {xs ys zs : List Int} (h1 : xs.length ≤ 1000) (h2 : ys.length = xs.length) (h3 : zs.length = xs.length) :
    m__law_rowed [.d (.tuple (xs.map .int)), .d (.tuple (ys.map .int)), .d (.tuple (zs.map .int))] = .ret (.d (.bool (rowV xs ys zs))) [.d (.tuple (xs.map .int)), .d (.tuple (ys.map .int)), .d (.tuple (zs.map .int))] := by
  have ix : ∀ (l : List Int) (i : Nat), i < l.length → idxD (.tuple (l.map .int)) (.int i) = some (.int (l.getD i 0)) := fun l i hi => by
    show atI (l.map PyData.int) (i : Int) = _
    rw [atI_nat, List.getElem?_map, List.getD_eq_getElem?_getD, List.getElem?_eq_getElem hi]
    rfl
  have c1 : fLc (fSrcs (fun _ => rangeOf) (fCons (fCB lenD (fCons (fVar 0) fNil)) fNil)) (.n 3) [3] (asB (fBin eqD (fLenSet (fLst (fCons (fBin idxD (fVar 0) (fVar 3)) (fCons (fBin idxD (fVar 1) (fVar 3)) (fCons (fBin idxD (fVar 2) (fVar 3)) fNil))))) (fD (.int 2)))) (fD (.int 1))
      [some (.d (.tuple (xs.map .int))), some (.d (.tuple (ys.map .int))), some (.d (.tuple (zs.map .int))), none] = .ok (.d (.list (((rangeD 0 xs.length).filter (rowP xs ys zs)).map fun _ => .int 1))) [some (.d (.tuple (xs.map .int))), some (.d (.tuple (ys.map .int))), some (.d (.tuple (zs.map .int))), none] := by
    refine fLc_n (dep := none) (i := 3) (ρ1 := [some (.d (.tuple (xs.map .int))), some (.d (.tuple (ys.map .int))), some (.d (.tuple (zs.map .int))), none]) (xs := rangeD 0 xs.length) (rowP xs ys zs) (fun _ => .int 1) ?_ (by rw [rangeD_length]; omega) (by simp) rfl rfl ?_ (fun x hx _ => rfl)
    · refine fSrcs_of (ws := [.d (.int (xs.length : Nat))]) (fCons_of (fCB_d (fCons_of rfl rfl) rfl ?_) rfl) ?_
      · show some (PyData.int ((xs.map PyData.int).length : Nat)) = _
        rw [List.length_map]
      · show (if _ then some (rangeD 0 (xs.length : Int).toNat, none) else none) = _
        rw [if_pos ⟨by omega, by omega⟩, Int.toNat_natCast]
    · intro x hx
      obtain ⟨i, hi, rfl⟩ := rangeD_mem hx
      refine asB_b (fBin_d (x := .int (((ddp [] [xs.getD i 0, ys.getD i 0, zs.getD i 0]).length : Nat) : Int)) (y := .int 2) (w := .d (.int (((ddp [] [xs.getD i 0, ys.getD i 0, zs.getD i 0]).length : Nat) : Int))) ?_ rfl rfl rfl ?_)
      · have el : fLst (fCons (fBin idxD (fVar 0) (fVar 3)) (fCons (fBin idxD (fVar 1) (fVar 3)) (fCons (fBin idxD (fVar 2) (fVar 3)) fNil))) [some (.d (.tuple (xs.map .int))), some (.d (.tuple (ys.map .int))), some (.d (.tuple (zs.map .int))), some (.d (.int i))] = .ok (.d (.list [.int (xs.getD i 0), .int (ys.getD i 0), .int (zs.getD i 0)])) [some (.d (.tuple (xs.map .int))), some (.d (.tuple (ys.map .int))), some (.d (.tuple (zs.map .int))), some (.d (.int i))] := by
          exact fLst_d (fCons_of (fBin_d (x := .tuple (xs.map .int)) (y := .int i) rfl rfl rfl rfl (ix xs i hi)) (fCons_of (fBin_d (x := .tuple (ys.map .int)) (y := .int i) rfl rfl rfl rfl (ix ys i (by omega))) (fCons_of (fBin_d (x := .tuple (zs.map .int)) (y := .int i) rfl rfl rfl rfl (ix zs i (by omega))) rfl))) rfl (by simp)
        exact fLenSet_d el rfl
      · show eqD _ _ = _
        unfold eqD
        rw [if_pos ⟨rfl, rfl⟩]
        simp only [rowP, Int.toNat_natCast, PyData.eqv]
        rfl
  refine runR [some (.d (.tuple (xs.map .int))), some (.d (.tuple (ys.map .int))), some (.d (.tuple (zs.map .int))), none] ?_ rfl
  · show b__law_rowed [] [some (.d (.tuple (xs.map .int))), some (.d (.tuple (ys.map .int))), some (.d (.tuple (zs.map .int))), none] = _
    unfold b__law_rowed
    refine seqR (fRet_d (fBin_d (x := .list (((rangeD 0 xs.length).filter (rowP xs ys zs)).map fun _ => .int 1)) (y := .list []) c1 rfl rfl rfl ?_))
    refine eq_nil_spec ?_
    have : ∀ l : List D, shpAll 7 (l.map fun _ => PyData.int 1) = true := by
      intro l
      induction l with
      | nil => rfl
      | cons a l ih => rw [List.map_cons, shpAll, ih]; rfl
    exact this _
end FL

namespace FL
open PySem L2
section
variable {ρ ρ1 ρ2 : Rho} {f : Rho → R W} {P : List Nat} {i : Nat} {x : D}
theorem asgD (h : f ρ = .ok (.d x) ρ1) (hp : P.contains i = false) (h2 : ρ1.set i (some (.d x)) = ρ2) : fAsg P i f ρ = .ok .nx ρ2 := by
  rw [← h2]
  exact fAsg_d h hp
theorem appD {fs : Rho → R (List W)} {xs0 xs : List D} (h0 : getL ρ i = some xs0) (h : fs ρ = .ok [.d x] ρ1) (h1 : getL ρ1 i = some xs) (hl : xs.length < 1000000) (h2 : ρ1.set i (some (.l (xs ++ [x]))) = ρ2) : fDrop (fApp i fs) ρ = .ok .nx ρ2 := by
  rw [← h2]
  exact fDrop_ok (fApp_d h0 h h1 hl)
theorem extD {fs : Rho → R (List W)} {xs0 xs ys : List D} (h0 : getL ρ i = some xs0) (h : fs ρ = .ok [.d (.list ys)] ρ1) (h1 : getL ρ1 i = some xs) (hl : xs.length + ys.length ≤ 1000000) (h2 : ρ1.set i (some (.l (xs ++ ys))) = ρ2) : fDrop (fExt i fs) ρ = .ok .nx ρ2 := by
  rw [← h2]
  exact fDrop_ok (fExt_d h0 h h1 hl)
end
theorem fZidx_d {i : Nat} {f : Rho → R W} {ρ ρ1 : Rho} {ns0 ns : List Int} {j n : Int} (h0 : getZ ρ i = some ns0) (h : f ρ = .ok (.d (.int j)) ρ1) (h1 : getZ ρ1 i = some ns) (h2 : atI ns j = some n) : fZidx i f ρ = .ok (.d (.int n)) ρ1 := by
  unfold fZidx
  rw [h0, h]
  simp only [R.bind_ok, h1, h2]
theorem fZlen_d {i : Nat} {ρ : Rho} {ns : List Int} (h0 : getZ ρ i = some ns) : fZlen i ρ = .ok (.d (.int (ns.length : Nat))) ρ := by
  unfold fZlen
  rw [h0]
theorem fZnil_d {i : Nat} {ρ : Rho} {ns : List Int} (h0 : getZ ρ i = some ns) : fZnil i ρ = .ok (.d (.bool ns.isEmpty)) ρ := by
  unfold fZnil
  rw [h0]
theorem mod_ok {i j : Int} (h : j ≠ 0) : modD (.int i) (.int j) = some (.int (i.fmod j)) := by
  simp only [modD]
  rw [if_pos h]
theorem fdiv_ok {i j : Int} (h : j ≠ 0) (h2 : j.natAbs < 1073741824) : fdivD (.int i) (.int j) = some (.int (i.fdiv j)) := by
  simp only [fdivD]
  rw [if_pos ⟨h, h2⟩]
theorem range_ok {n : Nat} (h : n ≤ 1000000) : rangeOf [.d (.int (n : Nat))] = some (rangeD 0 n, none) := by
  show (if _ then some (rangeD 0 (n : Int).toNat, none) else none) = _
  rw [if_pos ⟨by omega, by omega⟩, Int.toNat_natCast]
theorem cell_at_spec {ns : List Int} (hn : ns.length ≤ 63) (k : Nat) : ∃ v : Int, m__law_cell_at [.z ns, .d (.int k)] = .ret (.d (.int v)) [.z ns, .d (.int k)] := by
  have lt : asB (fBin ltD (fVar 1) (fZlen 0)) [some (.z ns), some (.d (.int k)), none, none] = .ok (decide ((k : Int) < (ns.length : Nat))) [some (.z ns), some (.d (.int k)), none, none] :=
    asB_b (fBin_d (x := .int k) (y := .int (ns.length : Nat)) rfl (fZlen_d rfl) rfl rfl rfl)
  by_cases hk : k < ns.length
  · rw [decide_eq_true (by omega)] at lt
    refine ⟨ns[k], runR [some (.z ns), some (.d (.int k)), none, none] ?_ rfl⟩
    show b__law_cell_at [] [some (.z ns), some (.d (.int k)), none, none] = _
    unfold b__law_cell_at
    refine seqR (ifT lt (seqR (fRet_d (fZidx_d (ns := ns) (ns0 := ns) rfl rfl rfl ?_))))
    rw [atI_nat, List.getElem?_eq_getElem hk]
  · rw [decide_eq_false (by omega)] at lt
    by_cases he : ns = []
    · subst he
      refine ⟨0, runR [some (.z []), some (.d (.int k)), none, none] ?_ rfl⟩
      show b__law_cell_at [] [some (.z []), some (.d (.int k)), none, none] = _
      unfold b__law_cell_at
      exact seqN (ifF lt rfl) (seqR (ifT (asB_b (b := true) ((fZnil_d (ns := []) rfl).trans rfl)) (seqR rfl)))
    · have hp : 0 < ns.length := List.length_pos_iff.mpr he
      have hm : k % ns.length < ns.length := Nat.mod_lt _ hp
      have em : ((k : Int)).fmod (ns.length : Nat) = ((k % ns.length : Nat) : Int) := by
        rw [Int.fmod_eq_emod_of_nonneg _ (by omega)]
        rfl
      have ix : ∀ o2 o3 : Option S, fZidx 0 (fBin modD (fVar 1) (fZlen 0)) [some (.z ns), some (.d (.int k)), o2, o3] = .ok (.d (.int ns[k % ns.length])) [some (.z ns), some (.d (.int k)), o2, o3] := fun o2 o3 => by
        refine fZidx_d (ns := ns) (ns0 := ns) (j := ((k % ns.length : Nat) : Int)) rfl (fBin_d (x := .int k) (y := .int (ns.length : Nat)) rfl (fZlen_d rfl) rfl rfl ?_) rfl ?_
        · rw [mod_ok (by omega), em]
        · rw [atI_nat, List.getElem?_eq_getElem hm]
      have ed : ((k : Int)).fdiv (ns.length : Nat) = ((k / ns.length : Nat) : Int) := by
        rw [Int.fdiv_eq_ediv_of_nonneg _ (by omega)]
        rfl
      -- the number of turns
      obtain ⟨q, hq, src⟩ : ∃ q : Nat, q ≤ 60 ∧ ∀ o2 o3 : Option S, fSrcs (fun _ => rangeOf) (fCons (fCB minLD (fCons (fBin fdivD (fVar 1) (fZlen 0)) (fCons (fD (.int 60)) fNil))) fNil) [some (.z ns), some (.d (.int k)), o2, o3] = .ok (rangeD 0 q, none) [some (.z ns), some (.d (.int k)), o2, o3] := by
        refine ⟨min (k / ns.length) 60, by omega, fun o2 o3 => ?_⟩
        refine fSrcs_of (ws := [.d (.int (min (k / ns.length) 60 : Nat))]) (fCons_of (fCB_d (ds := [.int ((k / ns.length : Nat) : Int), .int 60]) (fCons_of (fBin_d (x := .int k) (y := .int (ns.length : Nat)) (z := .int ((k / ns.length : Nat) : Int)) rfl (fZlen_d rfl) rfl rfl ?_) (fCons_of rfl rfl)) rfl ?_) rfl) (range_ok (by omega))
        · rw [fdiv_ok (by omega) (by omega), ed]
        · show some (PyData.int (if (60 : Int) < ((k / ns.length : Nat) : Int) then 60 else ((k / ns.length : Nat) : Int))) = _
          split
          · rw [Nat.min_eq_right (by omega)]; rfl
          · rw [Nat.min_eq_left (by omega)]
      obtain ⟨ρ', h1, h2⟩ := forF_inv (dep := none) (P := pinDep none []) (tg := .n 3) (body := fun ρ => (fSeq (fAsg (pinDep none []) 2 (fBin fdivD (fVar 2) (fD (.int 1000003)))) fNext) ρ) (fun j ρ => ∃ (sp : Int) (o3 : Option S), ρ = [some (.z ns), some (.d (.int k)), some (.d (.int sp)), o3])
        (rangeD 0 q) 0 [some (.z ns), some (.d (.int k)), some (.d (.int ns[k % ns.length])), none] ⟨_, _, rfl⟩ (fun _ _ _ => rfl) (by
          rintro j x ρ hx ⟨sp, o3, rfl⟩
          refine ⟨[some (.z ns), some (.d (.int k)), some (.d (.int sp)), some (.d x)], [some (.z ns), some (.d (.int k)), some (.d (.int (sp.fdiv 1000003))), some (.d x)], rfl, seqN (asgD (fBin_d (x := .int sp) (y := .int 1000003) rfl rfl rfl rfl (fdiv_ok (by decide) (by decide))) rfl rfl) rfl, _, _, rfl⟩)
      obtain ⟨sp, o3, rfl⟩ := h2
      refine ⟨ns[k % ns.length] * 31 + k + sp * 101, runR [some (.z ns), some (.d (.int k)), some (.d (.int sp)), o3] ?_ rfl⟩
      show b__law_cell_at [] [some (.z ns), some (.d (.int k)), none, none] = _
      unfold b__law_cell_at
      refine seqN (ifF lt rfl) (seqN (ifF (asB_b (b := false) ((fZnil_d (ns := ns) rfl).trans ?_)) rfl) (seqN (asgD (ix none none) rfl rfl) (seqN ((fFor_of (src _ _)).trans h1) (seqR (fRet_d ?_)))))
      · cases ns with
        | nil => exact absurd rfl he
        | cons a b => rfl
      · exact fBin_d (x := .int (ns[k % ns.length] * 31 + k)) (y := .int (sp * 101)) (fBin_d (x := .int (ns[k % ns.length] * 31)) (y := .int k) (fBin_d (x := .int ns[k % ns.length]) (y := .int 31) (ix _ _) rfl rfl rfl (mul_ok2 (by decide) (by decide))) rfl rfl rfl rfl) (fBin_d (x := .int sp) (y := .int 101) rfl rfl rfl rfl (mul_ok2 (by decide) (by decide))) rfl rfl rfl
theorem pow_ok {i : Int} (h0 : 0 ≤ i) (h : i < 2147483647) : powD (.int i) (.int 5) = some (.int (i ^ 5)) := by
  simp only [powD]
  rw [if_pos ⟨by decide, by decide, by omega⟩]
  rfl
theorem mixed_spec {ns : List Int} (hn : ns.length ≤ 63) (k many : Nat) (hk : k ≤ 1000000) (hm : 0 < many) : ∃ r : Nat, r < many ∧ m__law_mixed [.z ns, .d (.int k), .d (.int many)] = .ret (.d (.int r)) [.z ns, .d (.int k), .d (.int many)] := by
  obtain ⟨v, hv⟩ := cell_at_spec hn k
  have fm : ∀ (a b : Int), 0 < b → ∃ r : Nat, (r : Int) = a.fmod b ∧ (r : Int) < b := fun a b hb => ⟨(a.fmod b).toNat, by rw [Int.toNat_of_nonneg (Int.fmod_nonneg_of_pos a hb)], by rw [Int.toNat_of_nonneg (Int.fmod_nonneg_of_pos a hb)]; exact Int.fmod_lt_of_pos a hb⟩
  obtain ⟨sp, e1, l1⟩ := fm (v * 1103515245 + 7919 * k + 12345) 2147483647 (by decide)
  obtain ⟨r, e2, l2⟩ := fm ((((sp : Int) ^ 5).fmod 2147483647).fmod 999983) many (by omega)
  refine ⟨r, by omega, runR [some (.z ns), some (.d (.int k)), some (.d (.int many)), some (.d (.int sp))] ?_ rfl⟩
  show b__law_mixed [] [some (.z ns), some (.d (.int k)), some (.d (.int many)), none] = _
  unfold b__law_mixed
  refine seqN (ρ1 := [some (.z ns), some (.d (.int k)), some (.d (.int many)), some (.d (.int sp))]) (asgD (x := .int sp) (ρ1 := [some (.z ns), some (.d (.int k)), some (.d (.int many)), none]) (fBin_d (x := .int (v * 1103515245 + 7919 * k + 12345)) (y := .int 2147483647) (fBin_d (x := .int (v * 1103515245 + 7919 * k)) (y := .int 12345) (fBin_d (x := .int (v * 1103515245)) (y := .int (7919 * k)) (fBin_d (x := .int v) (y := .int 1103515245) (callR hv rfl rfl rfl rfl) rfl rfl rfl (mul_ok2 (by decide) (by decide))) (fBin_d (x := .int 7919) (y := .int k) rfl rfl rfl rfl (mul_ok (by decide) (by decide))) rfl rfl rfl) rfl rfl rfl rfl) rfl rfl rfl ?_) rfl rfl) (seqR (fRet_d ?_))
  · rw [mod_ok (by decide), ← e1]
  · refine fBin_d (x := .int ((((sp : Int) ^ 5).fmod 2147483647).fmod 999983)) (y := .int many) (fBin_d (x := .int (((sp : Int) ^ 5).fmod 2147483647)) (y := .int 999983) (fBin_d (x := .int ((sp : Int) ^ 5)) (y := .int 2147483647) (fBin_d (x := .int sp) (y := .int 5) rfl rfl rfl rfl (pow_ok (by omega) l1)) rfl rfl rfl (mod_ok (by decide))) rfl rfl rfl (mod_ok (by decide))) rfl rfl rfl ?_
    rw [mod_ok (by omega), ← e2]
theorem draw_spec {ns : List Int} (hn : ns.length ≤ 63) (tw : List D) (many : Nat) (ht : tw.length ≤ 100000) (hm : 0 < many) : ∃ r : Nat, r < many ∧ m__law_draw [.z ns, .l tw, .d (.int many)] = .ret (.d (.int r)) [.z ns, .l (tw ++ [.int 0]), .d (.int many)] := by
  obtain ⟨r, hr, e⟩ := mixed_spec hn (tw.length + 1) many (by omega) hm
  refine ⟨r, hr, runR [some (.z ns), some (.l (tw ++ [.int 0])), some (.d (.int many))] ?_ rfl⟩
  show b__law_draw [1] [some (.z ns), some (.l tw), some (.d (.int many))] = _
  unfold b__law_draw
  refine seqN (appD (x := .int 0) (xs0 := tw) (xs := tw) rfl rfl rfl (by omega) rfl) (seqR (fRet_d (callR (ws := [.own 0, .d (.int ((tw.length + 1 : Nat) : Int)), .d (.int many)]) e (fCons_of rfl (fCons_of (fCB_d (fCons_of rfl rfl) rfl ?_) (fCons_of rfl rfl))) rfl rfl rfl)))
  show some (PyData.int ((tw ++ [PyData.int 0]).length : Nat)) = _
  rw [List.length_append]
  rfl
theorem pick_spec {ns : List Int} (hn : ns.length ≤ 63) (tw xs : List D) (ht : tw.length ≤ 100000) (hx : xs ≠ []) : ∃ (r : Nat) (x : D), xs[r]? = some x ∧ m__law_pick [.z ns, .l tw, .d (.list xs)] = .ret (.d x) [.z ns, .l (tw ++ [.int 0]), .d (.list xs)] := by
  obtain ⟨r, hr, e⟩ := draw_spec hn tw xs.length ht (List.length_pos_iff.mpr hx)
  refine ⟨r, xs[r], List.getElem?_eq_getElem hr, runR [some (.z ns), some (.l (tw ++ [.int 0])), some (.d (.list xs))] ?_ rfl⟩
  show b__law_pick [1] [some (.z ns), some (.l tw), some (.d (.list xs))] = _
  unfold b__law_pick
  refine seqR (fRet_d (fBin_d (x := .list xs) (y := .int r) (w := .d (.list xs)) rfl (callR (ws := [.own 0, .own 1, .d (.int (xs.length : Nat))]) e (fCons_of rfl (fCons_of rfl (fCons_of (fCB_d (fCons_of rfl rfl) rfl rfl) rfl))) rfl rfl rfl) rfl rfl ?_))
  show atI xs (r : Int) = _
  rw [atI_nat, List.getElem?_eq_getElem hr]
end FL

namespace FL
open PySem L2
theorem dig_len {s : Nat} (hs : Sz s) (n : Nat) : (dig s n).length = s := by rcases hs with rfl | rfl | rfl <;> rfl
def rowS (s a b c : Nat) : Bool := rowV (dig s a) (dig s b) (dig s c)
theorem rowed_pt {s : Nat} (hs : Sz s) (a b c : Nat) : m__law_rowed [.d (pt s a), .d (pt s b), .d (pt s c)] = .ret (.d (.bool (rowS s a b c))) [.d (pt s a), .d (pt s b), .d (pt s c)] :=
  rowed_spec (by rw [dig_len hs]; rcases hs with rfl | rfl | rfl <;> decide) (by rw [dig_len hs, dig_len hs]) (by rw [dig_len hs, dig_len hs])
/-- the comprehension of hits -/
def hitsAt (s c a : Nat) (r : List Nat) : Bool := r.any fun b => rowS s a b c
def hitsV (s c : Nat) : List Nat → Bool
  | [] => false
  | a :: r => hitsAt s c a r || hitsV s c r
theorem shp_ones : ∀ l : List D, shpAll 7 (l.map fun _ => PyData.int 1) = true
  | [] => rfl
  | a :: l => by rw [List.map_cons, shpAll, shp_ones l]; rfl
theorem hits_spec {s : Nat} (hs : Sz s) {M : List Nat} (hl : M.length ≤ 1000) (c : Nat) : ∃ b : Bool, m__law_hits [.l (M.map (pt s)), .d (pt s c)] = .ret (.d (.bool b)) [.l (M.map (pt s)), .d (pt s c)] := by
  have step : ∀ (k a : Nat) (o2 o3 : Option S), M[k]? = some a → ∃ b : Bool, asB (fBin neD (fLc (fSrc (fSl (fVar 0) (fPart (fBin addD (fVar 2) (fD (.int 1)))) fNoPart)) (.n 4) [4] (asB (fCall m__law_rowed (fCons (fVar 3) (fCons (fVar 4) (fCons (fVar 1) fNil))))) (fD (.int 1))) (fLst fNil)) [some (.l (M.map (pt s))), some (.d (pt s c)), some (.d (.int k)), some (.d (pt s a)), none] = .ok b [some (.l (M.map (pt s))), some (.d (pt s c)), some (.d (.int k)), some (.d (pt s a)), none] := by
    intro k a o2 o3 hk
    let ρ : Rho := [some (.l (M.map (pt s))), some (.d (pt s c)), some (.d (.int k)), some (.d (pt s a)), none]
    have src : fSrc (fSl (fVar 0) (fPart (fBin addD (fVar 2) (fD (.int 1)))) fNoPart) ρ = .ok ((M.map (pt s)).drop (k + 1), none) ρ := by
      refine fSrc_of (w := .d (.list ((M.map (pt s)).drop (k + 1)))) (fSl_d (x := .list (M.map (pt s))) rfl rfl rfl rfl ?_) rfl
      exact slice_spec false _ (k + 1)
    have lc := fLc_n (dep := none) (i := 4) (ρ1 := ρ) (xs := (M.map (pt s)).drop (k + 1)) (cond := asB (fCall m__law_rowed (fCons (fVar 3) (fCons (fVar 4) (fCons (fVar 1) fNil))))) (elt := fD (.int 1))
      (fun x => match m__law_rowed [.d (pt s a), .d x, .d (pt s c)] with | .ret (.d (.bool b)) _ => b | _ => false) (fun _ => .int 1) src (by rw [List.length_drop, List.length_map]; omega) (by simp [ρ]) rfl rfl (fun x hx => by
        obtain ⟨b, hb, rfl⟩ := List.mem_map.mp (List.mem_of_mem_drop hx)
        simp only [rowed_pt hs]
        exact asB_b (callR (rowed_pt hs a b c) rfl rfl rfl rfl)) (fun x hx _ => rfl)
    refine ⟨_, asB_b (fBin_d (x := _) (y := .list []) lc rfl rfl rfl (ne_nil_spec (shp_ones _)))⟩
  have src : fSrcs enumOf (fCons (fVar 0) fNil) [some (.l (M.map (pt s))), some (.d (pt s c)), none, none, none] = .ok (enumD 0 (M.map (pt s)), some (0, M.map (pt s))) [some (.l (M.map (pt s))), some (.d (pt s c)), none, none, none] := fSrcs_of rfl rfl
  obtain ⟨ρ', h⟩ := forF_ret (dep := some (0, M.map (pt s))) (P := pinDep (some (0, M.map (pt s))) [0]) (tg := .p 2 3) (body := fun ρ => (fSeq (fIfS (asB (fBin neD (fLc (fSrc (fSl (fVar 0) (fPart (fBin addD (fVar 2) (fD (.int 1)))) fNoPart)) (.n 4) [4] (asB (fCall m__law_rowed (fCons (fVar 3) (fCons (fVar 4) (fCons (fVar 1) fNil))))) (fD (.int 1))) (fLst fNil))) (fSeq (fRet (pinDep (some (0, M.map (pt s))) [0]) (fD (.bool true))) fNext) fNext) fNext) ρ)
    (fun j ρ => ∃ o2 o3, ρ = [some (.l (M.map (pt s))), some (.d (pt s c)), o2, o3, none]) (fun r ρ => r = .d (.bool true) ∧ ∃ o2 o3, ρ = [some (.l (M.map (pt s))), some (.d (pt s c)), o2, o3, none])
    (enumD 0 (M.map (pt s))) 0 [some (.l (M.map (pt s))), some (.d (pt s c)), none, none, none] ⟨none, none, rfl⟩ (by
      rintro k ρ ⟨o2, o3, rfl⟩
      exact chk_own rfl (nod_pts s M)) (by
      rintro j x ρ hx ⟨o2, o3, rfl⟩
      obtain ⟨y, hy, rfl⟩ := enumD_get hx
      rw [List.getElem?_map] at hy
      obtain ⟨n, hn, rfl⟩ := Option.map_eq_some_iff.mp hy
      rw [Nat.zero_add]
      obtain ⟨b, hb⟩ := step j n o2 o3 hn
      refine ⟨[some (.l (M.map (pt s))), some (.d (pt s c)), some (.d (.int j)), some (.d (pt s n)), none], [some (.l (M.map (pt s))), some (.d (pt s c)), some (.d (.int j)), some (.d (pt s n)), none], rfl, ?_⟩
      cases b with
      | true => exact .inr ⟨_, seqR (ifT hb (seqR rfl)), rfl, _, _, rfl⟩
      | false => exact .inl ⟨seqN (ifF hb rfl) rfl, _, _, rfl⟩)
  rcases h with ⟨h1, o2, o3, rfl⟩ | ⟨r, h1, rfl, o2, o3, rfl⟩
  · refine ⟨false, runR [some (.l (M.map (pt s))), some (.d (pt s c)), o2, o3, none] ?_ rfl⟩
    show b__law_hits [0] [some (.l (M.map (pt s))), some (.d (pt s c)), none, none, none] = _
    unfold b__law_hits
    exact seqN ((fFor_of src).trans h1) (seqR rfl)
  · refine ⟨true, runR [some (.l (M.map (pt s))), some (.d (pt s c)), o2, o3, none] ?_ rfl⟩
    show b__law_hits [0] [some (.l (M.map (pt s))), some (.d (pt s c)), none, none, none] = _
    unfold b__law_hits
    exact seqR ((fFor_of src).trans h1)
/-! ### sorting -/
def nins (x : Nat) : List Nat → List Nat
  | [] => [x]
  | y :: ys => if x ≤ y then x :: y :: ys else y :: nins x ys
def nsort : List Nat → List Nat
  | [] => []
  | x :: xs => nins x (nsort xs)
theorem nins_perm (x : Nat) : ∀ l : List Nat, (nins x l).Perm (x :: l)
  | [] => .refl _
  | y :: ys => by
    rw [nins]
    split
    · exact .refl _
    · exact ((nins_perm x ys).cons y).trans (.swap x y ys)
theorem nsort_perm : ∀ l : List Nat, (nsort l).Perm l
  | [] => .refl _
  | x :: xs => (nins_perm x (nsort xs)).trans ((nsort_perm xs).cons x)
theorem nins_srt (x : Nat) : ∀ l : List Nat, l.Pairwise (· ≤ ·) → (nins x l).Pairwise (· ≤ ·)
  | [], _ => by simp [nins]
  | y :: ys, h => by
    rw [nins]
    rw [List.pairwise_cons] at h
    split
    · rename_i hxy
      refine List.pairwise_cons.mpr ⟨fun z hz => ?_, List.pairwise_cons.mpr h⟩
      rcases List.mem_cons.mp hz with e | hz
      · omega
      · have := h.1 z hz; omega
    · refine List.pairwise_cons.mpr ⟨fun z hz => ?_, nins_srt x ys h.2⟩
      rcases List.mem_cons.mp ((nins_perm x ys).mem_iff.mp hz) with e | hz
      · omega
      · exact h.1 z hz
theorem nsort_srt : ∀ l : List Nat, (nsort l).Pairwise (· ≤ ·)
  | [] => .nil
  | x :: xs => nins_srt x _ (nsort_srt xs)
theorem nsort_lt {l : List Nat} (h : l.Nodup) : (nsort l).Pairwise (· < ·) := by
  have h1 := nsort_srt l
  have h2 : (nsort l).Nodup := (nsort_perm l).nodup_iff.mpr h
  exact (h1.and h2).imp fun ⟨a, b⟩ => by omega
theorem dle_chk : (([1, 2, 3] : List Nat).all fun s => pairsB s fun a b => dle (pt s a) (pt s b) == decide (a ≤ b)) = true := by decide +kernel
theorem dle_pt {s a b : Nat} (hs : Sz s) (ha : a < sz s) (hb : b < sz s) : dle (pt s a) (pt s b) = decide (a ≤ b) := eq_of_beq (pairsB_ok (three dle_chk hs) ha hb)
theorem ins_pt {s : Nat} (hs : Sz s) {x : Nat} (hx : x < sz s) : ∀ {l : List Nat}, (∀ a ∈ l, a < sz s) → ins (pt s x) (l.map (pt s)) = (nins x l).map (pt s)
  | [], _ => rfl
  | y :: ys, h => by
    rw [List.map_cons, ins, dle_pt hs hx (h y List.mem_cons_self), nins]
    by_cases hxy : x ≤ y
    · rw [if_pos (by simpa using hxy), if_pos hxy]; rfl
    · rw [if_neg (by simpa using hxy), if_neg hxy, ins_pt hs hx fun a ha => h a (List.mem_cons_of_mem _ ha)]; rfl
theorem isort_pt {s : Nat} (hs : Sz s) : ∀ {l : List Nat}, (∀ a ∈ l, a < sz s) → isort (l.map (pt s)) = (nsort l).map (pt s)
  | [], _ => rfl
  | x :: xs, h => by
    have h2 : ∀ a ∈ xs, a < sz s := fun a ha => h a (List.mem_cons_of_mem _ ha)
    rw [List.map_cons, isort, isort_pt hs h2, nsort, ins_pt hs (h x List.mem_cons_self) fun a ha => h2 a ((nsort_perm xs).mem_iff.mp ha)]
theorem alike_pt {s : Nat} (hs : Sz s) (a b : Nat) : PySem.W.alike (pt s a) (pt s b) = true := by
  rcases hs with rfl | rfl | rfl <;> rfl
theorem sort_ptsR {s : Nat} (hs : Sz s) {M : List Nat} (h : ∀ a ∈ M, a < sz s) (hl : M.length ≤ 1000000) : sortR (M.map (pt s)) = some (.list ((nsort M).map (pt s))) := by
  unfold sortR
  rw [if_pos, isort_pt hs h]
  refine ⟨?_, ?_, shp_pts 7 s M, by rw [List.length_map]; exact hl⟩
  · unfold alikeB
    refine List.all_eq_true.mpr fun x hx => List.all_eq_true.mpr fun y hy => ?_
    obtain ⟨a, _, rfl⟩ := List.mem_map.mp hx
    obtain ⟨b, _, rfl⟩ := List.mem_map.mp hy
    exact alike_pt hs a b
  · left
    unfold sortB
    rw [Bool.or_eq_true]
    refine .inl (List.all_eq_true.mpr fun x hx => ?_)
    obtain ⟨a, _, rfl⟩ := List.mem_map.mp hx
    rcases hs with rfl | rfl | rfl <;> rfl
theorem sort_pts {s : Nat} (hs : Sz s) {M : List Nat} (h : ∀ a ∈ M, a < sz s) (hl : M.length ≤ 1000000) : sortD [.list (M.map (pt s))] = some (.list ((nsort M).map (pt s))) := sort_ptsR hs h hl
theorem sort_ptsT {s : Nat} (hs : Sz s) {M : List Nat} (h : ∀ a ∈ M, a < sz s) (hl : M.length ≤ 1000000) : sortD [.tuple (M.map (pt s))] = some (.list ((nsort M).map (pt s))) := sort_ptsR hs h hl
end FL

namespace FL
open PySem L2
abbrev gr (s : Nat) : D := .list ((List.range (sz s)).map (pt s))
theorem parO {P : List Nat} {i j : Nat} {f : Rho → R W} {fs : Rho → R (List W)} {ρ ρ1 ρ2 ρ3 : Rho} {x : D} {ws : List W} {ds : List D} (h : f ρ = .ok (.d x) ρ1) (h1 : fs ρ1 = .ok ws ρ2) (h2 : datas ws = some ds) (hl : ds.length ≤ 1000000) (hi : P.contains i = false) (hj : P.contains j = false)
    (h3 : (ρ2.set i (some (.d x))).set j (some (.l ds)) = ρ3) : fParO P i j f fs ρ = .ok .nx ρ3 := by
  unfold fParO
  rw [if_neg (by rw [hi, hj]; decide), h]
  simp only [R.bind_ok, h1, h2]
  rw [if_pos hl, h3]
theorem sz_pos {s : Nat} (hs : Sz s) : 0 < sz s := by rcases hs with rfl | rfl | rfl <;> decide
theorem pick_grid {ns : List Int} (hn : ns.length ≤ 63) {s : Nat} (hs : Sz s) (tw : List D) (ht : tw.length ≤ 100000) : ∃ n : Nat, n < sz s ∧ m__law_pick [.z ns, .l tw, .d (gr s)] = .ret (.d (pt s n)) [.z ns, .l (tw ++ [.int 0]), .d (gr s)] := by
  obtain ⟨r, x, hx, e⟩ := pick_spec hn tw ((List.range (sz s)).map (pt s)) ht (by
    intro z
    have := congrArg List.length z
    rw [List.length_map, List.length_range] at this
    have := sz_pos hs
    simp_all)
  rw [List.getElem?_map] at hx
  obtain ⟨n, hn', rfl⟩ := Option.map_eq_some_iff.mp hx
  exact ⟨n, List.mem_range.mp (List.mem_of_getElem? hn'), e⟩
theorem eqI (a b : Int) : eqD (.int a) (.int b) = some (.bool (decide (a = b))) := by
  unfold eqD
  rw [if_pos ⟨rfl, rfl⟩]
  rfl
theorem neI (a b : Int) : neD (.int a) (.int b) = some (.bool (!decide (a = b))) := by
  unfold neD
  rw [if_pos ⟨rfl, rfl⟩]
  rfl
theorem some_set_spec {ns : List Int} (hn : ns.length ≤ 63) {s : Nat} (hs : Sz s) (tw : List D) (ht : tw.length ≤ 50000) (most : Nat) (hm : most ≤ 1000) :
    ∃ (L : List Nat) (tw' : List D), OkSet s L ∧ L.length ≤ most ∧ tw'.length ≤ tw.length + 2000 ∧ m__law_some_set [.z ns, .l tw, .d (.int s), .d (.int most)] = .ret (.d (st s L)) [.z ns, .l tw', .d (.int s), .d (.int most)] := by
  obtain ⟨g0, hg0, eg⟩ := draw_spec hn tw 2 (by omega) (by decide)
  obtain ⟨q, hq, eq⟩ := draw_spec hn (tw ++ [.int 0]) (most + 1) (by rw [List.length_append]; simp; omega) (by omega)
  obtain ⟨ρ', h1, h2⟩ := forF_inv (dep := none) (P := pinDep none [1]) (tg := .n 7) (body := fun ρ => (fSeq (fAsg (pinDep none [1]) 8 (fCall m__law_pick (fCons (fVar 0) (fCons (fVar 1) (fCons (fVar 4) fNil))))) (fSeq (fIfS (tfAnd (asB (fBin notInD (fVar 8) (fVar 5))) (tfNot (tfAnd (asB (fVar 6)) (asB (fCall m__law_hits (fCons (fVar 5) (fCons (fVar 8) fNil))))))) (fSeq (fDrop (fApp 5 (fCons (fVar 8) fNil))) fNext) fNext) fNext)) ρ)
    (fun j ρ => ∃ (t : List D) (M : List Nat) (o7 o8 : Option S), ρ = [some (.z ns), some (.l t), some (.d (.int s)), some (.d (.int most)), some (.d (gr s)), some (.l (M.map (pt s))), some (.d (.bool (decide ((g0 : Int) = 0)))), o7, o8] ∧ t.length ≤ tw.length + 2 + j ∧ M.Nodup ∧ (∀ a ∈ M, a < sz s) ∧ M.length ≤ j ∧ j ≤ q)
    (rangeD 0 q) 0 [some (.z ns), some (.l (tw ++ [.int 0] ++ [.int 0])), some (.d (.int s)), some (.d (.int most)), some (.d (gr s)), some (.l []), some (.d (.bool (decide ((g0 : Int) = 0)))), none, none]
    ⟨_, [], none, none, rfl, by simp, .nil, by simp, by simp, Nat.zero_le _⟩ (fun _ _ _ => rfl) (by
      rintro j x ρ hx ⟨t, M, o7, o8, rfl, ht', hM, hlt, hl, hj⟩
      rw [Nat.zero_add] at *
      have hjq : j < q := by
        have := (List.getElem?_eq_some_iff.mp hx).1
        rw [rangeD_length] at this
        exact this
      obtain ⟨n, hn', ep⟩ := pick_grid hn hs t (by omega)
      let ρ2 : Rho := [some (.z ns), some (.l (t ++ [.int 0])), some (.d (.int s)), some (.d (.int most)), some (.d (gr s)), some (.l (M.map (pt s))), some (.d (.bool (decide ((g0 : Int) = 0)))), some (.d x), some (.d (pt s n))]
      have s1 : fAsg (pinDep none [1]) 8 (fCall m__law_pick (fCons (fVar 0) (fCons (fVar 1) (fCons (fVar 4) fNil)))) [some (.z ns), some (.l t), some (.d (.int s)), some (.d (.int most)), some (.d (gr s)), some (.l (M.map (pt s))), some (.d (.bool (decide ((g0 : Int) = 0)))), some (.d x), o8] = .ok .nx ρ2 :=
        asgD (callR (ws := [.own 0, .own 1, .d (gr s)]) ep rfl rfl rfl rfl) rfl rfl
      have c1 : asB (fBin notInD (fVar 8) (fVar 5)) ρ2 = .ok (!decide (n ∈ M)) ρ2 := asB_b (fBin_d (x := pt s n) (y := .list (M.map (pt s))) (w := .d (pt s n)) (u := .own 5) rfl rfl rfl rfl (notIn_spec hs (t := false) hlt hn'))
      obtain ⟨hb, eh⟩ := hits_spec hs (M := M) (by omega) n
      have c2 : tfNot (tfAnd (asB (fVar 6)) (asB (fCall m__law_hits (fCons (fVar 5) (fCons (fVar 8) fNil))))) ρ2 = .ok (!(decide ((g0 : Int) = 0) && hb)) ρ2 := by
        refine tfNot_b ?_
        have a1 : asB (fVar 6) ρ2 = .ok (decide ((g0 : Int) = 0)) ρ2 := rfl
        cases e : decide ((g0 : Int) = 0) with
        | true =>
          rw [e] at a1
          refine (tfAnd_t a1).trans ?_
          exact asB_b (callR (ws := [.own 5, .d (pt s n)]) eh rfl rfl rfl rfl)
        | false =>
          rw [e] at a1
          exact tfAnd_f a1
      refine ⟨[some (.z ns), some (.l t), some (.d (.int s)), some (.d (.int most)), some (.d (gr s)), some (.l (M.map (pt s))), some (.d (.bool (decide ((g0 : Int) = 0)))), some (.d x), o8], ?_⟩
      by_cases hc : n ∉ M ∧ (decide ((g0 : Int) = 0) && hb) = false
      · refine ⟨[some (.z ns), some (.l (t ++ [.int 0])), some (.d (.int s)), some (.d (.int most)), some (.d (gr s)), some (.l ((M ++ [n]).map (pt s))), some (.d (.bool (decide ((g0 : Int) = 0)))), some (.d x), some (.d (pt s n))], rfl, ?_, t ++ [.int 0], M ++ [n], some (.d x), some (.d (pt s n)), rfl, by simp; omega, ?_, ?_, by simp; omega, hjq⟩
        · rw [decide_eq_false hc.1] at c1
          rw [hc.2] at c2
          refine seqN s1 (seqN (ifT ((tfAnd_t c1).trans c2) (seqN (appD (x := pt s n) (xs0 := M.map (pt s)) (xs := M.map (pt s)) (ρ1 := ρ2) rfl rfl rfl (by rw [List.length_map]; omega) ?_) rfl)) rfl)
          rw [List.map_append]
          rfl
        · rw [List.nodup_append]
          exact ⟨hM, by simp, fun a ha b hb e => by simp at hb; subst hb; subst e; exact hc.1 ha⟩
        · intro a ha
          rcases List.mem_append.mp ha with ha | ha
          · exact hlt a ha
          · simp at ha; subst ha; exact hn'
      · refine ⟨ρ2, rfl, ?_, t ++ [.int 0], M, some (.d x), some (.d (pt s n)), rfl, by simp; omega, hM, hlt, by omega, hjq⟩
        refine seqN s1 (seqN (ifF ?_ rfl) rfl)
        by_cases hin : n ∈ M
        · rw [decide_eq_true hin] at c1
          exact tfAnd_f c1
        · rw [decide_eq_false hin] at c1
          refine (tfAnd_t c1).trans ?_
          rw [c2]
          cases e : (decide ((g0 : Int) = 0) && hb) with
          | true => rfl
          | false => exact absurd ⟨hin, e⟩ hc)
  obtain ⟨t, M, o7, o8, rfl, ht', hM, hlt, hl, _⟩ := h2
  rw [Nat.zero_add, rangeD_length] at ht' hl
  refine ⟨nsort M, t, ⟨nsort_lt hM, fun a ha => hlt a ((nsort_perm M).mem_iff.mp ha)⟩, by rw [(nsort_perm M).length_eq]; omega, by omega, runR [some (.z ns), some (.l t), some (.d (.int s)), some (.d (.int most)), some (.d (gr s)), some (.l (M.map (pt s))), some (.d (.bool (decide ((g0 : Int) = 0)))), o7, o8] ?_ rfl⟩
  show b__law_some_set [1] [some (.z ns), some (.l tw), some (.d (.int s)), some (.d (.int most)), none, none, none, none, none] = _
  unfold b__law_some_set
  refine seqN (ρ1 := [some (.z ns), some (.l tw), some (.d (.int s)), some (.d (.int most)), some (.d (gr s)), some (.l []), none, none, none]) ?_ (seqN (ρ1 := [some (.z ns), some (.l (tw ++ [.int 0])), some (.d (.int s)), some (.d (.int most)), some (.d (gr s)), some (.l []), some (.d (.bool (decide ((g0 : Int) = 0)))), none, none]) ?_ (seqN (ρ1 := [some (.z ns), some (.l t), some (.d (.int s)), some (.d (.int most)), some (.d (gr s)), some (.l (M.map (pt s))), some (.d (.bool (decide ((g0 : Int) = 0)))), o7, o8]) ?_ (seqR (fRet_d ?_))))
  · exact parO (callR (ws := [.d (.int s)]) (grid_spec hs) rfl rfl rfl rfl) rfl rfl (by decide) rfl rfl rfl
  · exact asgD (fBin_d (x := .int g0) (y := .int 0) (callR (ws := [.own 0, .own 1, .d (.int 2)]) eg rfl rfl rfl rfl) rfl rfl rfl (eqI _ _)) rfl rfl
  · refine (fFor_of (xs := rangeD 0 q) (dep := none) (ρ1 := [some (.z ns), some (.l (tw ++ [.int 0] ++ [.int 0])), some (.d (.int s)), some (.d (.int most)), some (.d (gr s)), some (.l []), some (.d (.bool (decide ((g0 : Int) = 0)))), none, none]) ?_).trans h1
    exact fSrcs_of (ws := [.d (.int q)]) (fCons_of (callR (ws := [.own 0, .own 1, .d (.int ((most + 1 : Nat) : Int))]) eq (fCons_of rfl (fCons_of rfl (fCons_of (fBin_d (x := .int most) (y := .int 1) rfl rfl rfl rfl rfl) rfl))) rfl rfl rfl) rfl) (range_ok (by omega))
  · refine fCB_d (z := st s (nsort M)) (fCons_of (fCB_d (fCons_of rfl rfl) rfl (sort_pts hs hlt (by omega))) rfl) rfl rfl
end FL

namespace FL
open PySem L2
/-! ### the evaluation, step by step, by named continuations -/
def kSeq (f2 : Rho → R Fl) : Fl → Rho → R Fl := fun fl ρ1 => match fl with
  | .nx => f2 ρ1
  | fl => .ok fl ρ1
def kAsg (P : List Nat) (i : Nat) : W → Rho → R Fl := fun w ρ1 => match w with
  | .d x => .ok .nx (ρ1.set i (some (.d x)))
  | .own j => if P.contains j = true then .bad else (match ρ1[j]? with
    | some (some (.l xs)) => .ok .nx ((ρ1.set j (some (.d (.list xs)))).set i (some (.d (.list xs))))
    | _ => .bad)
def kRet (P : List Nat) : W → Rho → R Fl := fun w ρ1 => match w with
  | .d x => .ok (.rt (.d x)) ρ1
  | .own j => if P.contains j = true then .bad else (match ρ1[j]? with
    | some (some (.l xs)) => .ok (.rt (.d (.list xs))) (ρ1.set j (some (.d (.list xs))))
    | _ => .bad)
def kDrop : W → Rho → R Fl := fun _ ρ1 => .ok .nx ρ1
def kIf (fa fb : Rho → R Fl) : Bool → Rho → R Fl := fun b ρ1 => match b with
  | true => fa ρ1
  | false => fb ρ1
def kIfE (fa fb : Rho → R W) : Bool → Rho → R W := fun b ρ1 => match b with
  | true => fa ρ1
  | false => fb ρ1
def optR (o : Option D) (ρ : Rho) : R W := match o with
  | some z => .ok (.d z) ρ
  | none => .bad
def binR (o : D → D → Option D) (ρ : Rho) : Option D → Option D → R W := fun a b => match a, b with
  | some x, some y => optR (o x y) ρ
  | _, _ => .bad
def kBin2 (o : D → D → Option D) (w : W) : W → Rho → R W := fun u ρ => binR o ρ (look ρ w) (look ρ u)
def kBin1 (o : D → D → Option D) (fb : Rho → R W) : W → Rho → R W := fun w ρ1 => (fb ρ1).bind (kBin2 o w)
def lookS : Option (Option S) → Option D
  | some (some (.l xs)) => some (.list xs)
  | _ => none
def varS (i : Nat) (ρ : Rho) : Option (Option S) → R W
  | some (some (.d x)) => .ok (.d x) ρ
  | some (some _) => .ok (.own i) ρ
  | _ => .bad
def kCons2 (w : W) : List W → Rho → R (List W) := fun ws ρ2 => .ok (w :: ws) ρ2
def kCons1 (fs : Rho → R (List W)) : W → Rho → R (List W) := fun w ρ1 => (fs ρ1).bind (kCons2 w)
def cbR (o : List D → Option D) (ρ : Rho) : Option (List D) → R W
  | some ds => optR (o ds) ρ
  | none => .bad
def kCB (o : List D → Option D) : List W → Rho → R W := fun ws ρ => cbR o ρ (lookAll ρ ws)
def laR : Option D → Option (List D) → Option (List D)
  | some x, some xs => some (x :: xs)
  | _, _ => none
def gR {α : Type} (b : Bool) (r : R α) : R α := match b with
  | true => r
  | false => .bad
theorem gR_t {α : Type} {r : R α} : gR true r = r := rfl
theorem gR_if {α : Type} {c : Prop} [Decidable c] {r : R α} : (if c then r else .bad) = gR (decide c) r := by by_cases h : c <;> simp [h, gR]
def tupR (ρ : Rho) : Option (List D) → R W
  | some ds => if ds.length ≤ 1000000 then .ok (.d (.tuple ds)) ρ else .bad
  | none => .bad
def lstR (ρ : Rho) : Option (List D) → R W
  | some ds => if ds.length ≤ 1000000 then .ok (.d (.list ds)) ρ else .bad
  | none => .bad
def kTup : List W → Rho → R W := fun ws ρ => tupR ρ (datas ws)
def kLst : List W → Rho → R W := fun ws ρ => lstR ρ (datas ws)
def frR (ws : List W) (ρ : Rho) : FR → R W
  | .ret (.d x) ss' => .ok (.d x) (putBack ρ ws ss')
  | .exc c ss' => .exc c (putBack ρ ws ss')
  | _ => .bad
def caR (m : FM) (ws : List W) (ρ : Rho) : Option (List S) → R W
  | none => .bad
  | some ss => if nodupB (ownIx ws) = true then frR ws ρ (m ss) else .bad
def kCall (m : FM) : List W → Rho → R W := fun ws ρ => caR m ws ρ (argS ρ ws)
def kAsB : W → Rho → R Bool := fun w ρ' => match w with
  | .d (.bool b) => .ok b ρ'
  | _ => .bad
def kTAnd (fb : Rho → R Bool) : Bool → Rho → R Bool := fun b ρ1 => match b with
  | true => fb ρ1
  | false => .ok false ρ1
def kTOr (fb : Rho → R Bool) : Bool → Rho → R Bool := fun b ρ1 => match b with
  | false => fb ρ1
  | true => .ok true ρ1
def kTNot : Bool → Rho → R Bool := fun b ρ1 => .ok (!b) ρ1
def kAnd (fb : Rho → R W) : W → Rho → R W := fun w ρ1 => match w with
  | .d (.bool true) => fb ρ1
  | .d (.bool false) => .ok (.d (.bool false)) ρ1
  | _ => .bad
def kOr (fb : Rho → R W) : W → Rho → R W := fun w ρ1 => match w with
  | .d (.bool false) => fb ρ1
  | .d (.bool true) => .ok (.d (.bool true)) ρ1
  | _ => .bad
def kNot : W → Rho → R W := fun w ρ1 => match w with
  | .d (.bool b) => .ok (.d (.bool (!b))) ρ1
  | _ => .bad
def ownR (i : Nat) (ρ : Rho) : Option (List D) → R Fl
  | some ds => if ds.length ≤ 1000000 then .ok .nx (ρ.set i (some (.l ds))) else .bad
  | none => .bad
def kOwn (i : Nat) : List W → Rho → R Fl := fun ws ρ1 => ownR i ρ1 (datas ws)
def ownLR (i : Nat) (ρ : Rho) : Option (List D) → R Fl
  | some [.list ds] => .ok .nx (ρ.set i (some (.l ds)))
  | some [.tuple ds] => .ok .nx (ρ.set i (some (.l ds)))
  | _ => .bad
def kOwnL (i : Nat) : List W → Rho → R Fl := fun ws ρ1 => ownLR i ρ1 (lookAll ρ1 ws)
def kSrc : W → Rho → R (List D × Dep) := fun w ρ1 => match srcOf ρ1 w with
  | some xd => .ok xd ρ1
  | none => .bad
section
variable {f1 f2 fa' fb' : Rho → R Fl} {f fa fb fc : Rho → R W} {fs fas : Rho → R (List W)} {ta tb : Rho → R Bool} {ρ : Rho} {P : List Nat} {i j : Nat} {w u : W} {ws : List W} {x y z : D} {xs ys : List D} {b : Bool} {o : D → D → Option D} {ob : List D → Option D} {m : FM}
theorem ev_seq : fSeq f1 f2 ρ = (f1 ρ).bind (kSeq f2) := rfl
theorem kSeq_nx : kSeq f2 .nx ρ = f2 ρ := rfl
theorem kSeq_rt {r : S} : kSeq f2 (.rt r) ρ = .ok (.rt r) ρ := rfl
theorem ev_next : fNext ρ = .ok .nx ρ := rfl
theorem ev_asg (h : P.contains i = false) : fAsg P i f ρ = (f ρ).bind (kAsg P i) := by unfold fAsg; rw [if_neg (by rw [h]; decide)]; rfl
theorem ev_asg0 : fAsg [] i f ρ = (f ρ).bind (kAsg [] i) := ev_asg rfl
theorem kAsg_d : kAsg P i (.d x) ρ = .ok .nx (ρ.set i (some (.d x))) := rfl
theorem ev_ret : fRet P f ρ = (f ρ).bind (kRet P) := rfl
theorem kRet_d : kRet P (.d x) ρ = .ok (.rt (.d x)) ρ := rfl
theorem ev_drop : fDrop f ρ = (f ρ).bind kDrop := rfl
theorem kDrop_e : kDrop w ρ = .ok .nx ρ := rfl
theorem ev_ifS : fIfS ta fa' fb' ρ = (ta ρ).bind (kIf fa' fb') := rfl
theorem kIf_t : kIf fa' fb' true ρ = fa' ρ := rfl
theorem kIf_f : kIf fa' fb' false ρ = fb' ρ := rfl
theorem ev_ifE : fIf ta fa fb ρ = (ta ρ).bind (kIfE fa fb) := rfl
theorem kIfE_t : kIfE fa fb true ρ = fa ρ := rfl
theorem kIfE_f : kIfE fa fb false ρ = fb ρ := rfl
theorem ev_D : fD x ρ = .ok (.d x) ρ := rfl
theorem ev_var : fVar i ρ = varS i ρ ρ[i]? := by
  unfold fVar
  cases ρ[i]? with
  | none => rfl
  | some o =>
    cases o with
    | none => rfl
    | some s => cases s <;> rfl
theorem varS_d : varS i ρ (some (some (.d x))) = .ok (.d x) ρ := rfl
theorem varS_l : varS i ρ (some (some (.l xs))) = .ok (.own i) ρ := rfl
theorem varS_z {ns : List Int} : varS i ρ (some (some (.z ns))) = .ok (.own i) ρ := rfl
theorem varS_m {kvs : List (D × D)} : varS i ρ (some (some (.m kvs))) = .ok (.own i) ρ := rfl
theorem ev_bin : fBin o fa fb ρ = (fa ρ).bind (kBin1 o fb) := by
  first
  | rfl
  | unfold fBin kBin1 kBin2 binR optR
    cases fa ρ with
    | ok w ρ1 =>
      simp only [R.bind_ok]
      cases fb ρ1 with
      | ok u ρ2 =>
        simp only [R.bind_ok]
        cases look ρ2 w <;> cases look ρ2 u <;> rfl
      | _ => rfl
    | _ => rfl
theorem kBin1_e : kBin1 o fb w ρ = (fb ρ).bind (kBin2 o w) := rfl
theorem kBin2_e : kBin2 o w u ρ = binR o ρ (look ρ w) (look ρ u) := rfl
theorem binR_e : binR o ρ (some x) (some y) = optR (o x y) ρ := rfl
theorem optR_e : optR (some z) ρ = .ok (.d z) ρ := rfl
theorem look_d : look ρ (.d x) = some x := rfl
theorem look_own : look ρ (.own i) = lookS ρ[i]? := by
  show (match ρ[i]? with | some (some (.l xs)) => some (PyData.list xs) | _ => none) = _
  cases ρ[i]? with
  | none => rfl
  | some o =>
    cases o with
    | none => rfl
    | some s => cases s <;> rfl
theorem lookS_l : lookS (some (some (.l xs))) = some (.list xs) := rfl
theorem ev_nil : fNil ρ = .ok [] ρ := rfl
theorem ev_cons : fCons f fs ρ = (f ρ).bind (kCons1 fs) := rfl
theorem kCons1_e : kCons1 fs w ρ = (fs ρ).bind (kCons2 w) := rfl
theorem kCons2_e : kCons2 w ws ρ = .ok (w :: ws) ρ := rfl
theorem ev_CB : fCB ob fas ρ = (fas ρ).bind (kCB ob) := by
  first
  | rfl
  | unfold fCB kCB cbR optR
    cases fas ρ with
    | ok w ρ1 =>
      simp only [R.bind_ok]
      cases lookAll ρ1 w <;> rfl
    | _ => rfl
theorem kCB_e : kCB ob ws ρ = cbR ob ρ (lookAll ρ ws) := rfl
theorem cbR_e : cbR ob ρ (some xs) = optR (ob xs) ρ := rfl
theorem lookAll_nil : lookAll ρ [] = some [] := rfl
theorem lookAll_cons : lookAll ρ (w :: ws) = laR (look ρ w) (lookAll ρ ws) := by
  rw [lookAll]
  cases look ρ w <;> cases lookAll ρ ws <;> rfl
theorem laR_e : laR (some x) (some xs) = some (x :: xs) := rfl
theorem ev_tup : fTup fs ρ = (fs ρ).bind kTup := rfl
theorem kTup_e : kTup ws ρ = tupR ρ (datas ws) := rfl
theorem tupR_e : tupR ρ (some xs) = gR (decide (xs.length ≤ 1000000)) (.ok (.d (.tuple xs)) ρ) := gR_if
theorem ev_lst : fLst fs ρ = (fs ρ).bind kLst := rfl
theorem kLst_e : kLst ws ρ = lstR ρ (datas ws) := rfl
theorem lstR_e : lstR ρ (some xs) = gR (decide (xs.length ≤ 1000000)) (.ok (.d (.list xs)) ρ) := gR_if
theorem datas_nil : datas [] = some [] := rfl
theorem datas_cons : datas (.d x :: ws) = (datas ws).map (x :: ·) := rfl
theorem ev_call : fCall m fas ρ = (fas ρ).bind (kCall m) := by
  first
  | rfl
  | unfold fCall kCall caR frR
    cases fas ρ with
    | ok w ρ1 =>
      simp only [R.bind_ok]
      cases argS ρ1 w with
      | none => rfl
      | some ss =>
        simp only
        split
        · cases m ss with
          | ret r ss' => cases r <;> rfl
          | exc c ss' => rfl
          | bad => rfl
        · rfl
    | _ => rfl
theorem kCall_e : kCall m ws ρ = caR m ws ρ (argS ρ ws) := rfl
theorem caR_e {ss : List S} : caR m ws ρ (some ss) = gR (nodupB (ownIx ws)) (frR ws ρ (m ss)) := by
  show (if nodupB (ownIx ws) = true then frR ws ρ (m ss) else .bad) = _
  rw [gR_if]
  congr 1
  cases nodupB (ownIx ws) <;> rfl
theorem frR_ret {ss' : List S} : frR ws ρ (.ret (.d x) ss') = .ok (.d x) (putBack ρ ws ss') := rfl
theorem frR_exc {c : Nat} {ss' : List S} : frR ws ρ (.exc c ss') = .exc c (putBack ρ ws ss') := rfl
theorem argS_nil : argS ρ [] = some [] := rfl
theorem argS_d : argS ρ (.d x :: ws) = (argS ρ ws).map (.d x :: ·) := rfl
def argO (r : Option (List S)) : Option (Option S) → Option (List S)
  | some (some s) => r.map (s :: ·)
  | _ => none
theorem argS_own : argS ρ (.own i :: ws) = argO (argS ρ ws) ρ[i]? := by
  rw [argS]
  unfold argO
  split <;> simp_all
theorem argO_e {s : S} {ss : List S} : argO (some ss) (some (some s)) = some (s :: ss) := rfl
theorem ownIx_nil : ownIx [] = [] := rfl
theorem ownIx_d : ownIx (.d x :: ws) = ownIx ws := rfl
theorem ownIx_own : ownIx (.own i :: ws) = i :: ownIx ws := rfl
theorem putBack_nil {ss : List S} : putBack ρ [] ss = ρ := by cases ss <;> rfl
theorem putBack_d {s : S} {ss : List S} : putBack ρ (.d x :: ws) (s :: ss) = putBack ρ ws ss := rfl
theorem putBack_own {s : S} {ss : List S} : putBack ρ (.own i :: ws) (s :: ss) = putBack (ρ.set i (some s)) ws ss := rfl
theorem ev_asB : asB f ρ = (f ρ).bind kAsB := rfl
theorem kAsB_b : kAsB (.d (.bool b)) ρ = .ok b ρ := rfl
theorem ev_tand : tfAnd ta tb ρ = (ta ρ).bind (kTAnd tb) := rfl
theorem kTAnd_t : kTAnd tb true ρ = tb ρ := rfl
theorem kTAnd_f : kTAnd tb false ρ = .ok false ρ := rfl
theorem ev_tor : tfOr ta tb ρ = (ta ρ).bind (kTOr tb) := rfl
theorem kTOr_t : kTOr tb true ρ = .ok true ρ := rfl
theorem kTOr_f : kTOr tb false ρ = tb ρ := rfl
theorem ev_tnot : tfNot ta ρ = (ta ρ).bind kTNot := rfl
theorem kTNot_e : kTNot b ρ = .ok (!b) ρ := rfl
theorem ev_and : fAnd fa fb ρ = (fa ρ).bind (kAnd fb) := rfl
theorem kAnd_t : kAnd fb (.d (.bool true)) ρ = fb ρ := rfl
theorem kAnd_f : kAnd fb (.d (.bool false)) ρ = .ok (.d (.bool false)) ρ := rfl
theorem ev_or : fOr fa fb ρ = (fa ρ).bind (kOr fb) := rfl
theorem kOr_t : kOr fb (.d (.bool true)) ρ = .ok (.d (.bool true)) ρ := rfl
theorem kOr_f : kOr fb (.d (.bool false)) ρ = fb ρ := rfl
theorem ev_not : fNot f ρ = (f ρ).bind kNot := rfl
theorem kNot_b : kNot (.d (.bool b)) ρ = .ok (.d (.bool (!b))) ρ := rfl
theorem ev_own0 : fOwn [] i fs ρ = (fs ρ).bind (kOwn i) := rfl
theorem ev_own (h : P.contains i = false) : fOwn P i fs ρ = (fs ρ).bind (kOwn i) := by unfold fOwn; rw [if_neg (by rw [h]; decide)]; rfl
theorem kOwn_e : kOwn i ws ρ = ownR i ρ (datas ws) := rfl
theorem ownR_e : ownR i ρ (some xs) = gR (decide (xs.length ≤ 1000000)) (.ok .nx (ρ.set i (some (.l xs)))) := gR_if
theorem ev_ownL0 : fOwnL [] i fs ρ = (fs ρ).bind (kOwnL i) := by
  first
  | rfl
  | unfold fOwnL kOwnL ownLR
    rw [if_neg (by simp)]
    cases fs ρ with
    | ok w ρ1 =>
      simp only [R.bind_ok]
      split <;> simp_all
    | _ => rfl
theorem kOwnL_e : kOwnL i ws ρ = ownLR i ρ (lookAll ρ ws) := rfl
theorem ownLR_l : ownLR i ρ (some [.list xs]) = .ok .nx (ρ.set i (some (.l xs))) := rfl
theorem ownLR_t : ownLR i ρ (some [.tuple xs]) = .ok .nx (ρ.set i (some (.l xs))) := rfl
end
/-! ### a body -/
def runO (ss : List S) : R Fl → FR
  | .ok .nx ρ' => .ret (.d .none) (outS 0 ss ρ')
  | .ok (.rt r) ρ' => .ret r (outS 0 ss ρ')
  | .exc c ρ' => .exc c (outS 0 ss ρ')
  | _ => .bad
theorem ev_run {n : Nat} {body : List Nat → Rho → R Fl} {ss : List S} : runF n body ss = runO ss (body (ownIdx 0 ss) (rho0 n ss)) := by
  unfold runF runO
  split <;> simp_all
theorem runO_rt {ss : List S} {r : S} {ρ : Rho} : runO ss (.ok (.rt r) ρ) = .ret r (outS 0 ss ρ) := rfl
theorem runO_nx {ss : List S} {ρ : Rho} : runO ss (.ok .nx ρ) = .ret (.d .none) (outS 0 ss ρ) := rfl
theorem runO_exc {ss : List S} {c : Nat} {ρ : Rho} : runO ss (.exc c ρ) = .exc c (outS 0 ss ρ) := rfl
/-! ### arithmetic -/
section
variable {a b : Int}
theorem addD_i : addD (.int a) (.int b) = some (.int (a + b)) := rfl
theorem subD_i : subD (.int a) (.int b) = some (.int (a - b)) := rfl
theorem ltD_i : ltD (.int a) (.int b) = some (.bool (decide (a < b))) := rfl
theorem gtD_i : gtD (.int a) (.int b) = some (.bool (decide (b < a))) := rfl
theorem leD_i : leD (.int a) (.int b) = some (.bool (decide (a ≤ b))) := rfl
theorem geD_i : geD (.int a) (.int b) = some (.bool (decide (b ≤ a))) := rfl
theorem len_l {xs : List D} : lenD [.list xs] = some (.int (xs.length : Nat)) := rfl
theorem len_t {xs : List D} : lenD [.tuple xs] = some (.int (xs.length : Nat)) := rfl
theorem tuple_l {xs : List D} : tupleD [.list xs] = some (.tuple xs) := rfl
theorem list_l {xs : List D} : listD [.list xs] = some (.list xs) := rfl
theorem list_t {xs : List D} : listD [.tuple xs] = some (.list xs) := rfl
theorem is_b {c : Bool} {x : D} : isD x (.bool c) = some (.bool (isB c x)) := rfl
theorem isNot_b {c : Bool} {x : D} : isNotD x (.bool c) = some (.bool (!isB c x)) := rfl
theorem isB_b {c d : Bool} : isB c (.bool d) = (d == c) := rfl
end
end FL
namespace FL
theorem nodup0 : nodupB [] = true := rfl
theorem nodup1 {a : Nat} : nodupB [a] = true := rfl
theorem nodup01 : nodupB [0, 1] = true := rfl
end FL


namespace FL
open PySem L2
/-! ### what the law asks, in numbers -/
def prI (L : List Nat) (a : Nat) : List Nat → Nat
  | [] => 0
  | b :: r => (if th a b ∈ L then 1 else 0) + prI L a r
def prG (L : List Nat) : List Nat → Nat
  | [] => 0
  | a :: r => prI L a r + prG L r
def prK (L : List Nat) : Nat → List Nat → Nat
  | 0, _ => 0
  | _, [] => 0
  | k + 1, a :: r => prI L a r + prK L k r
theorem prK_all (L : List Nat) : ∀ r : List Nat, prK L r.length r = prG L r
  | [] => rfl
  | a :: r => by rw [List.length_cons, prK, prG, prK_all L r]
theorem prK_succ (L : List Nat) : ∀ (k : Nat) (r : List Nat) (a : Nat), r[k]? = some a → prK L (k + 1) r = prK L k r + prI L a (r.drop (k + 1))
  | _, [], _, h => by simp at h
  | 0, a :: r, b, h => by simp at h; subst h; simp [prK]
  | k + 1, a :: r, b, h => by
    rw [prK, prK_succ L k r b (by simpa using h), prK]
    simp
    omega
theorem prI_snoc (L : List Nat) (a b : Nat) : ∀ r : List Nat, prI L a (r ++ [b]) = prI L a r + (if th a b ∈ L then 1 else 0)
  | [] => by simp [prI]
  | c :: r => by rw [List.cons_append, prI, prI, prI_snoc L a b r]; omega
def pts3 (p : Nat × Nat × Nat) : List Nat := [p.1, p.2.1, p.2.2]
def thr (s n : Nat) : List (Nat × Nat × Nat) := (ll (List.range (sz s))).filter fun p => decide (n ∈ pts3 p)
def tgt (n : Nat) (T : List (Nat × Nat × Nat)) : List Nat := T.flatMap fun p => (pts3 p).filter fun a => !decide (a = n)
theorem thr_chk : (([1, 2, 3] : List Nat).all fun s => onesB s fun n => decide ((thr s n).length * 2 = sz s - 1) && decide ((ll (List.range (sz s))).length * 3 = (thr s n).length * sz s) && decide (nsort (tgt n (thr s n) ++ [n]) = List.range (sz s))) = true := by decide +kernel
theorem thr_ok {s n : Nat} (hs : Sz s) (hn : n < sz s) : (thr s n).length * 2 = sz s - 1 ∧ (ll (List.range (sz s))).length * 3 = (thr s n).length * sz s ∧ nsort (tgt n (thr s n) ++ [n]) = List.range (sz s) := by
  have := onesB_ok (three thr_chk hs) hn
  simp only [Bool.and_eq_true, decide_eq_true_eq] at this
  exact ⟨this.1.1, this.1.2, this.2⟩
theorem gr_self : (([1, 2, 3] : List Nat).all fun s => PyData.eqv (gr s) (gr s)) = true := by decide +kernel
theorem lenT {f : Rho → R W} {ρ ρ1 : Rho} {w : W} {xs : List D} {n : Nat} (h : f ρ = .ok w ρ1) (hl : look ρ1 w = some (.tuple xs)) (hn : xs.length = n) : fCB lenD (fCons f fNil) ρ = .ok (.d (.int (n : Nat))) ρ1 := by
  refine fCB_d (ds := [.tuple xs]) (fCons_of h rfl) ?_ (by rw [← hn]; rfl)
  show (match look ρ1 w, lookAll ρ1 [] with | some x, some xs => some (x :: xs) | _, _ => none) = _
  rw [hl]
  rfl
theorem lenLi {f : Rho → R W} {ρ ρ1 : Rho} {w : W} {xs : List D} {n : Nat} (h : f ρ = .ok w ρ1) (hl : look ρ1 w = some (.list xs)) (hn : xs.length = n) : fCB lenD (fCons f fNil) ρ = .ok (.d (.int (n : Nat))) ρ1 := by
  refine fCB_d (ds := [.list xs]) (fCons_of h rfl) ?_ (by rw [← hn]; rfl)
  show (match look ρ1 w, lookAll ρ1 [] with | some x, some xs => some (x :: xs) | _, _ => none) = _
  rw [hl]
  rfl
/-- the places outside a set -/
def outs (s : Nat) (L : List Nat) : List Nat := (List.range (sz s)).filter fun a => !decide (a ∈ L)
theorem outs_ok (s : Nat) (L : List Nat) : OkSet s (outs s L) := ⟨List.Pairwise.filter _ List.pairwise_lt_range, fun a ha => List.mem_range.mp (List.mem_filter.mp ha).1⟩
theorem count_in {L : List Nat} : ∀ {n : Nat}, L.Pairwise (· < ·) → (∀ a ∈ L, a < n) → ((List.range n).filter fun a => decide (a ∈ L)).length = L.length := by
  intro n h hb
  have e : ((List.range n).filter fun a => decide (a ∈ L)).Perm L := by
    refine (List.perm_ext_iff_of_nodup ?_ ?_).mpr fun a => ?_
    · exact List.Pairwise.filter _ List.nodup_range
    · exact h.imp fun h => by omega
    · simp only [List.mem_filter, List.mem_range, decide_eq_true_eq]
      exact ⟨fun h => h.2, fun h => ⟨hb a h, h⟩⟩
  exact e.length_eq
theorem filter_both {α : Type} (p : α → Bool) : ∀ l : List α, (l.filter p).length + (l.filter fun a => !p a).length = l.length
  | [] => rfl
  | a :: l => by
    have := filter_both p l
    cases h : p a <;> simp [h] <;> omega
theorem outs_len {s : Nat} {L : List Nat} (h : OkSet s L) : (outs s L).length + L.length = sz s := by
  have h1 := filter_both (fun a => decide (a ∈ L)) (List.range (sz s))
  rw [count_in h.srt h.lt, List.length_range] at h1
  unfold outs
  omega
theorem lines_spec {s : Nat} (hs : Sz s) : m_lines [.d (.int s)] = .ret (.d (.list ((ll (List.range (sz s))).map (tri s)))) [.d (.int s)] := by
  refine runR [some (.d (.int s))] ?_ rfl
  show b_lines [] [some (.d (.int s))] = _
  unfold b_lines
  have hz := sz_le hs
  exact seqN (fDrop_ok (callR (check_size_spec hs) rfl rfl rfl rfl)) (seqR (fRet_d (callR (ws := [.d (gr s)]) (line_list_spec hs false (fun a ha => List.mem_range.mp ha) (by rw [List.length_range]; omega)) (fCons_of (callR (all_places_spec hs) rfl rfl rfl rfl) rfl) rfl rfl rfl)))
theorem mem_ll {L : List Nat} : ∀ {r : List Nat} {p : Nat × Nat × Nat}, p ∈ llG L r → p.1 ∈ r ∧ p.2.1 ∈ r ∧ p.2.2 ∈ L
  | [], _, h => by cases h
  | a :: r, p, h => by
    rcases List.mem_append.mp h with h | h
    · have : ∀ {t : List Nat}, p ∈ llI L a t → p.1 = a ∧ p.2.1 ∈ t ∧ p.2.2 ∈ L := by
        intro t
        induction t with
        | nil => intro h; cases h
        | cons b t ih =>
          intro h
          rcases List.mem_append.mp h with h | h
          · split at h
            · rename_i hc
              simp at h
              subst h
              exact ⟨rfl, List.mem_cons_self, hc.2⟩
            · cases h
          · obtain ⟨h1, h2, h3⟩ := ih h
            exact ⟨h1, List.mem_cons_of_mem _ h2, h3⟩
      obtain ⟨h1, h2, h3⟩ := this h
      exact ⟨by rw [h1]; exact List.mem_cons_self, List.mem_cons_of_mem _ h2, h3⟩
    · obtain ⟨h1, h2, h3⟩ := mem_ll h
      exact ⟨List.mem_cons_of_mem _ h1, List.mem_cons_of_mem _ h2, h3⟩
theorem pts3_lt {s : Nat} {L : List Nat} (h : ∀ a ∈ L, a < sz s) {p : Nat × Nat × Nat} (hp : p ∈ ll L) : ∀ a ∈ pts3 p, a < sz s := by
  obtain ⟨h1, h2, h3⟩ := mem_ll hp
  intro a ha
  unfold pts3 at ha
  simp only [List.mem_cons, List.not_mem_nil, or_false] at ha
  rcases ha with e | e | e
  · rw [e]; exact h _ h1
  · rw [e]; exact h _ h2
  · rw [e]; exact h _ h3
/-- a comprehension over coded items -/
theorem fLc_c {α : Type} (enc : α → D) {fsrc : Rho → R (List D × Dep)} {dep : Dep} {i : Nat} {cond : Rho → R Bool} {elt : Rho → R W} {ρ ρ1 : Rho} {xs : List α} (p : α → Bool) (e : α → D) (hs : fsrc ρ = .ok (xs.map enc, dep) ρ1) (hl : xs.length ≤ 1000000) (hi : i < ρ1.length) (hn : nonOwn ρ1[i]? = true) (hd : chk dep ρ1 = true)
    (hc : ∀ x ∈ xs, cond (ρ1.set i (some (.d (enc x)))) = .ok (p x) (ρ1.set i (some (.d (enc x))))) (he : ∀ x ∈ xs, p x = true → elt (ρ1.set i (some (.d (enc x)))) = .ok (.d (e x)) (ρ1.set i (some (.d (enc x))))) :
    fLc fsrc (.n i) [i] cond elt ρ = .ok (.d (.list ((xs.filter p).map e))) ρ1 := by
  unfold fLc
  rw [hs]
  simp only [R.bind_ok]
  rw [if_pos ⟨by simpa using hl, by simpa using hn, by simp [Tg.inn]⟩]
  have h1 : wipeR ρ1 [i] = ρ1.set i none := rfl
  have h3 : restR ρ1 [i] (ρ1.set i none) = ρ1 := by
    unfold restR restR
    rw [List.set_set, List.getD_eq_getElem?_getD, List.getElem?_eq_getElem hi]
    exact List.set_getElem_self hi
  have key : ∀ (ys : List α), (∀ y ∈ ys, y ∈ xs) → lcF dep (.n i) [i] cond elt (ys.map enc) (ρ1.set i none) = .ok ((ys.filter p).map e) (ρ1.set i none) := by
    intro ys
    induction ys with
    | nil => intro _; rw [List.map_nil, lcF, if_pos (chk_set hd hn)]; rfl
    | cons y ys ih =>
      intro hm
      have hy := hm y List.mem_cons_self
      have ih := ih fun z hz => hm z (List.mem_cons_of_mem _ hz)
      have hw : wipeR (ρ1.set i (some (.d (enc y)))) [i] = ρ1.set i none := by
        unfold wipeR wipeR
        rw [List.set_set]
      have ht : Tg.set [] (.n i) (enc y) (ρ1.set i none) = some (ρ1.set i (some (.d (enc y)))) := by simp [Tg.set, List.set_set]
      rw [List.map_cons, lcF, if_pos (chk_set hd hn), ht]
      simp only [hc y hy, noexc, R.bind_ok]
      cases hp : p y with
      | true =>
        simp only [he y hy hp, noexc, R.bind_ok, hw, ih]
        rw [List.filter_cons_of_pos hp, List.map_cons]
      | false =>
        simp only [hw, ih]
        rw [List.filter_cons_of_neg (by rw [hp]; decide)]
  rw [h1, key xs fun y hy => hy]
  simp only [R.bind_ok]
  rw [h3]
theorem fIf_t {fc : Rho → R Bool} {fa fb : Rho → R W} {ρ ρ1 : Rho} {r : R W} (h : fc ρ = .ok true ρ1) (h2 : fa ρ1 = r) : fIf fc fa fb ρ = r := by
  unfold fIf
  rw [h]
  exact h2
theorem fIf_f {fc : Rho → R Bool} {fa fb : Rho → R W} {ρ ρ1 : Rho} {r : R W} (h : fc ρ = .ok false ρ1) (h2 : fb ρ1 = r) : fIf fc fa fb ρ = r := by
  unfold fIf
  rw [h]
  exact h2
theorem augD {P : List Nat} {i : Nat} {f : Rho → R W} {ρ ρ1 ρ2 : Rho} {a b : Int} (hp : P.contains i = false) (h0 : getI ρ i = some a) (h : f ρ = .ok (.d (.int b)) ρ1) (h2 : ρ1.set i (some (.d (.int (a + b)))) = ρ2) : fAug P i f ρ = .ok .nx ρ2 := by
  unfold fAug
  rw [if_neg (by rw [hp]; decide), h0]
  simp only [h, R.bind_ok]
  rw [h2]
end FL

namespace FL
/-! ### sums -/
def sm : List Nat → (Nat → Nat) → Nat
  | [], _ => 0
  | a :: r, f => f a + sm r f
theorem sm_congr {f g : Nat → Nat} : ∀ {L : List Nat}, (∀ a ∈ L, f a = g a) → sm L f = sm L g
  | [], _ => rfl
  | a :: r, h => by rw [sm, sm, h a List.mem_cons_self, sm_congr fun b hb => h b (List.mem_cons_of_mem _ hb)]
theorem sm_add (f g : Nat → Nat) : ∀ L : List Nat, sm L (fun a => f a + g a) = sm L f + sm L g
  | [] => rfl
  | a :: r => by rw [sm, sm, sm, sm_add f g r]; omega
theorem sm_zero : ∀ L : List Nat, sm L (fun _ => 0) = 0
  | [] => rfl
  | a :: r => by rw [sm, sm_zero r]
theorem sm_swap (f : Nat → Nat → Nat) : ∀ L M : List Nat, sm L (fun a => sm M fun b => f a b) = sm M fun b => sm L fun a => f a b
  | [], M => (sm_zero M).symm
  | a :: r, M => by
    rw [sm, sm_swap f r M, ← sm_add]
    exact sm_congr fun b _ => rfl
def ind (p : Prop) [Decidable p] : Nat := if p then 1 else 0
theorem ind_t {p : Prop} [Decidable p] (h : p) : ind p = 1 := if_pos h
theorem ind_f {p : Prop} [Decidable p] (h : ¬ p) : ind p = 0 := if_neg h
theorem sm_ind {L : List Nat} (h : L.Pairwise (· < ·)) (x : Nat) : sm L (fun c => ind (c = x)) = ind (x ∈ L) := by
  induction L with
  | nil => rfl
  | cons a r ih =>
    rw [List.pairwise_cons] at h
    rw [sm, ih h.2]
    unfold ind
    by_cases e : a = x
    · subst e
      have : a ∉ r := fun hm => by have := h.1 a hm; omega
      simp [this]
    · have e' : ¬ x = a := fun z => e z.symm
      simp [e, e']
theorem ind_and {p q : Prop} [Decidable p] [Decidable q] : ind (p ∧ q) = if p then ind q else 0 := by
  unfold ind
  by_cases hp : p <;> simp [hp]
/-- pairs of a rising list, by its members -/
theorem pr_sum (L : List Nat) : ∀ {r : List Nat}, r.Pairwise (· < ·) → prG L r = sm r fun a => sm r fun b => ind (a < b ∧ th a b ∈ L)
  | [], _ => rfl
  | a :: r, h => by
    rw [List.pairwise_cons] at h
    have e1 : prI L a r = sm r fun b => ind (a < b ∧ th a b ∈ L) := by
      have : ∀ {t : List Nat}, (∀ b ∈ t, a < b) → prI L a t = sm t fun b => ind (a < b ∧ th a b ∈ L) := by
        intro t
        induction t with
        | nil => intro _; rfl
        | cons b t ih =>
          intro hb
          rw [prI, sm, ih fun c hc => hb c (List.mem_cons_of_mem _ hc)]
          have := hb b List.mem_cons_self
          unfold ind
          simp [this]
      exact this h.1
    have z1 : ind (a < a ∧ th a a ∈ L) = 0 := by simp [ind]
    have z2 : ∀ x ∈ r, ind (x < a ∧ th x a ∈ L) = 0 := fun x hx => by
      have := h.1 x hx
      have : ¬ x < a := by omega
      simp [ind, this]
    rw [prG, sm, sm, z1, Nat.zero_add, e1, pr_sum L h.2]
    congr 1
    refine sm_congr fun x hx => ?_
    rw [sm, z2 x hx, Nat.zero_add]
theorem ll_sum (L : List Nat) : ∀ {r : List Nat}, r.Pairwise (· < ·) → (llG L r).length = sm r fun a => sm r fun b => ind (a < b ∧ b < th a b ∧ th a b ∈ L)
  | [], _ => rfl
  | a :: r, h => by
    rw [List.pairwise_cons] at h
    have e1 : (llI L a r).length = sm r fun b => ind (a < b ∧ b < th a b ∧ th a b ∈ L) := by
      have : ∀ {t : List Nat}, (∀ b ∈ t, a < b) → (llI L a t).length = sm t fun b => ind (a < b ∧ b < th a b ∧ th a b ∈ L) := by
        intro t
        induction t with
        | nil => intro _; rfl
        | cons b t ih =>
          intro hb
          rw [llI, List.length_append, sm, ih fun c hc => hb c (List.mem_cons_of_mem _ hc)]
          have h1 := hb b List.mem_cons_self
          unfold ind
          by_cases hc : b < th a b ∧ th a b ∈ L
          · simp [h1, hc]
          · rw [if_neg hc, if_neg fun z => hc z.2]
            rfl
      exact this h.1
    have z1 : ind (a < a ∧ a < th a a ∧ th a a ∈ L) = 0 := by simp [ind]
    have z2 : ∀ x ∈ r, ind (x < a ∧ a < th x a ∧ th x a ∈ L) = 0 := fun x hx => by
      have := h.1 x hx
      have : ¬ x < a := by omega
      simp [ind, this]
    rw [llG, List.length_append, sm, sm, z1, Nat.zero_add, e1, ll_sum L h.2]
    congr 1
    refine sm_congr fun x hx => ?_
    rw [sm, z2 x hx, Nat.zero_add]
abbrev sm3 (L : List Nat) (f : Nat → Nat → Nat → Nat) : Nat := sm L fun a => sm L fun b => sm L fun c => f a b c
theorem pairs_ok {s : Nat} (hs : Sz s) {L : List Nat} (hL : OkSet s L) : prG L L = 3 * (ll L).length := by
  have F : ∀ {a b}, a ∈ L → b ∈ L → _ := fun {a b} ha hb => th_facts hs (hL.lt a ha) (hL.lt b hb)
  -- as triples
  have A : ∀ a b : Nat, ind (a < b ∧ th a b ∈ L) = sm L fun c => ind (a < b ∧ c = th a b) := fun a b => by
    rw [ind_and]
    by_cases h : a < b
    · rw [if_pos h, ← sm_ind hL.srt]
      exact sm_congr fun c _ => by simp [ind, h]
    · rw [if_neg h]
      refine ((sm_congr fun c _ => ?_).trans (sm_zero L)).symm
      simp [ind, h]
  have B : ∀ a b : Nat, ind (a < b ∧ b < th a b ∧ th a b ∈ L) = sm L fun c => ind (a < b ∧ b < c ∧ c = th a b) := fun a b => by
    by_cases h : a < b ∧ b < th a b
    · have e1 : ind (a < b ∧ b < th a b ∧ th a b ∈ L) = ind (th a b ∈ L) := by simp [ind, h]
      rw [e1, ← sm_ind hL.srt]
      refine sm_congr fun c _ => ?_
      unfold ind
      by_cases hc : c = th a b
      · subst hc; simp [h]
      · simp [hc]
    · have e1 : ind (a < b ∧ b < th a b ∧ th a b ∈ L) = 0 := by
        unfold ind
        exact if_neg fun z => h ⟨z.1, z.2.1⟩
      rw [e1]
      refine ((sm_congr fun c _ => ?_).trans (sm_zero L)).symm
      unfold ind
      refine if_neg fun z => h ⟨z.1, ?_⟩
      rw [← z.2.2]
      exact z.2.1
  have T : (ll L).length = sm3 L fun a b c => ind (a < b ∧ b < c ∧ c = th a b) := by
    rw [show ll L = llG L L from rfl, ll_sum L hL.srt]
    exact sm_congr fun a _ => sm_congr fun b _ => B a b
  have P : prG L L = sm3 L fun a b c => ind (a < b ∧ c = th a b) := by
    rw [pr_sum L hL.srt]
    exact sm_congr fun a _ => sm_congr fun b _ => A a b
  have Q : (sm3 L fun a b c => ind (a < b ∧ c = th a b)) = (sm3 L fun a b c => ind (a < b ∧ b < c ∧ c = th a b)) + ((sm3 L fun a b c => ind (a < c ∧ c < b ∧ c = th a b)) + sm3 L fun a b c => ind (c < a ∧ a < b ∧ c = th a b)) := by
    unfold sm3
    rw [← sm_add, ← sm_add]
    refine sm_congr fun a ha => ?_
    rw [← sm_add, ← sm_add]
    refine sm_congr fun b hb => ?_
    rw [← sm_add, ← sm_add]
    refine sm_congr fun c hc => ?_
    obtain ⟨_, _, _, f4⟩ := F ha hb
    show ind (a < b ∧ c = th a b) = ind (a < b ∧ b < c ∧ c = th a b) + (ind (a < c ∧ c < b ∧ c = th a b) + ind (c < a ∧ a < b ∧ c = th a b))
    by_cases e : c = th a b
    · by_cases hab : a < b
      · have h1 : c ≠ a ∧ c ≠ b := by
          rcases f4 with f4 | f4
          · omega
          · rw [e]; exact f4
        rw [ind_t ⟨hab, e⟩]
        rcases Nat.lt_or_gt_of_ne h1.1 with h | h
        · rw [ind_f (fun z => by omega), ind_f (fun z => by omega), ind_t ⟨h, hab, e⟩]
        · rcases Nat.lt_or_gt_of_ne h1.2 with h' | h'
          · rw [ind_f (fun z => by omega), ind_t ⟨h, h', e⟩, ind_f (fun z => by omega)]
          · rw [ind_t ⟨hab, h', e⟩, ind_f (fun z => by omega), ind_f (fun z => by omega)]
      · rw [ind_f (fun z => hab z.1), ind_f (fun z => hab z.1), ind_f (fun z => by omega), ind_f (fun z => hab z.2.1)]
    · rw [ind_f (fun z => e z.2), ind_f (fun z => e z.2.2), ind_f (fun z => e z.2.2), ind_f (fun z => e z.2.2)]
  have Q2 : (sm3 L fun a b c => ind (a < c ∧ c < b ∧ c = th a b)) = sm3 L fun a b c => ind (a < b ∧ b < c ∧ c = th a b) := by
    unfold sm3
    refine sm_congr fun a ha => ?_
    rw [sm_swap (fun b c => ind (a < c ∧ c < b ∧ c = th a b)) L L]
    refine sm_congr fun b hb => sm_congr fun c hc => ?_
    have f1 := (F ha hb).2.2.1
    have f2 := (F ha hc).2.2.1
    show ind (a < b ∧ b < c ∧ b = th a c) = ind (a < b ∧ b < c ∧ c = th a b)
    by_cases h : a < b ∧ b < c ∧ b = th a c
    · rw [ind_t h, ind_t ⟨h.1, h.2.1, by rw [h.2.2, f2]⟩]
    · rw [ind_f h, ind_f fun z => h ⟨z.1, z.2.1, by rw [z.2.2, f1]⟩]
  have Q3 : (sm3 L fun a b c => ind (c < a ∧ a < b ∧ c = th a b)) = sm3 L fun a b c => ind (a < b ∧ b < c ∧ c = th a b) := by
    unfold sm3
    have e1 : (sm L fun a => sm L fun b => sm L fun c => ind (c < a ∧ a < b ∧ c = th a b)) = sm L fun a => sm L fun c => sm L fun b => ind (c < a ∧ a < b ∧ c = th a b) := sm_congr fun a _ => sm_swap (fun b c => ind (c < a ∧ a < b ∧ c = th a b)) L L
    rw [e1, sm_swap (fun a c => sm L fun b => ind (c < a ∧ a < b ∧ c = th a b)) L L]
    refine sm_congr fun c hc => sm_congr fun a ha => sm_congr fun b hb => ?_
    have f0 := (F ha hb)
    have f1 := (F ha hc)
    have f2 := (F hc ha)
    show ind (c < a ∧ a < b ∧ c = th a b) = ind (c < a ∧ a < b ∧ b = th c a)
    by_cases h : c < a ∧ a < b ∧ b = th c a
    · rw [ind_t h, ind_t ⟨h.1, h.2.1, by rw [h.2.2, f2.2.1, f1.2.2.1]⟩]
    · rw [ind_f h, ind_f fun z => h ⟨z.1, z.2.1, by rw [f2.2.1]; rw [z.2.2]; exact f0.2.2.1.symm⟩]
  rw [P, Q, Q2, Q3, T]
  omega
end FL

namespace FL
def subs : List Nat → List (List Nat)
  | [] => [[]]
  | a :: r => subs r ++ (subs r).map (a :: ·)
theorem mem_subs {L X : List Nat} (h : L.Sublist X) : L ∈ subs X := by
  induction h with
  | slnil => simp [subs]
  | cons a _ ih => exact List.mem_append_left _ ih
  | cons_cons a _ ih => exact List.mem_append_right _ (List.mem_map.mpr ⟨_, ih, rfl⟩)
theorem sub_range' : ∀ (k m : Nat) (L : List Nat), L.Pairwise (· < ·) → (∀ a ∈ L, m ≤ a ∧ a < m + k) → L.Sublist (List.range' m k)
  | 0, m, [], _, _ => List.Sublist.refl _
  | 0, m, a :: r, _, h => by have := h a List.mem_cons_self; omega
  | k + 1, m, [], _, _ => List.nil_sublist _
  | k + 1, m, a :: r, hs, h => by
    rw [List.range'_succ]
    have ha := h a List.mem_cons_self
    have hs' := List.pairwise_cons.mp hs
    by_cases e : a = m
    · subst e
      exact (sub_range' k (a + 1) r hs'.2 fun b hb => ⟨hs'.1 b hb, by have := h b (List.mem_cons_of_mem _ hb); omega⟩).cons₂ a
    · refine (sub_range' k (m + 1) (a :: r) hs fun b hb => ?_).cons m
      have := h b hb
      rcases List.mem_cons.mp hb with e' | hb
      · omega
      · have := hs'.1 b hb; omega
theorem sub_range {n : Nat} {L : List Nat} (h : L.Pairwise (· < ·)) (hb : ∀ a ∈ L, a < n) : L ∈ subs (List.range n) := by
  refine mem_subs ?_
  rw [List.range_eq_range']
  exact sub_range' n 0 L h fun a ha => ⟨Nat.zero_le _, by have := hb a ha; omega⟩
theorem sm_null {f : Nat → Nat} : ∀ {L : List Nat}, sm L f = 0 → ∀ a ∈ L, f a = 0
  | [], _, _, h => by cases h
  | b :: r, h, a, ha => by
    rw [sm] at h
    rcases List.mem_cons.mp ha with e | ha
    · rw [e]; omega
    · exact sm_null (by omega) a ha
theorem null_sm {f : Nat → Nat} : ∀ {L : List Nat}, (∀ a ∈ L, f a = 0) → sm L f = 0
  | [], _ => rfl
  | b :: r, h => by rw [sm, h b List.mem_cons_self, null_sm fun a ha => h a (List.mem_cons_of_mem _ ha)]
theorem ll_free {L : List Nat} (h : L.Pairwise (· < ·)) : ll L = [] ↔ ∀ a ∈ L, ∀ b ∈ L, a < b → b < th a b → th a b ∉ L := by
  have e := ll_sum L h
  constructor
  · intro hn a ha b hb h1 h2 h3
    rw [show llG L L = ll L from rfl, hn] at e
    have := sm_null (sm_null e.symm a ha) b hb
    rw [ind_t ⟨h1, h2, h3⟩] at this
    cases this
  · intro hf
    refine List.eq_nil_of_length_eq_zero ?_
    rw [show ll L = llG L L from rfl, e]
    exact null_sm fun a ha => null_sm fun b hb => ind_f fun z => hf a ha b hb z.1 z.2.1 z.2.2
theorem cap12 : (([1, 2] : List Nat).all fun s => (subs (List.range (sz s))).all fun L => decide (L.length ≤ grt s) || !(ll L).isEmpty) = true := by decide +kernel
def FLit : List (List Nat) := [[], [0], [1], [2], [3], [4], [5], [6], [7], [8], [0, 1], [0, 2], [0, 3], [0, 4], [0, 5], [0, 6], [0, 7], [0, 8], [1, 2], [1, 3], [1, 4], [1, 5], [1, 6], [1, 7], [1, 8], [2, 3], [2, 4], [2, 5], [2, 6], [2, 7], [2, 8], [3, 4], [3, 5], [3, 6], [3, 7], [3, 8], [4, 5], [4, 6], [4, 7], [4, 8], [5, 6], [5, 7], [5, 8], [6, 7], [6, 8], [7, 8], [0, 1, 3], [0, 1, 4], [0, 1, 5], [0, 1, 6], [0, 1, 7], [0, 1, 8], [0, 2, 3], [0, 2, 4], [0, 2, 5], [0, 2, 6], [0, 2, 7], [0, 2, 8], [0, 3, 4], [0, 3, 5], [0, 3, 7], [0, 3, 8], [0, 4, 5], [0, 4, 6], [0, 4, 7], [0, 5, 6], [0, 5, 8], [0, 6, 7], [0, 6, 8], [0, 7, 8], [1, 2, 3], [1, 2, 4], [1, 2, 5], [1, 2, 6], [1, 2, 7], [1, 2, 8], [1, 3, 4], [1, 3, 5], [1, 3, 6], [1, 3, 7], [1, 4, 5], [1, 4, 6], [1, 4, 8], [1, 5, 7], [1, 5, 8], [1, 6, 7], [1, 6, 8], [1, 7, 8], [2, 3, 4], [2, 3, 5], [2, 3, 6], [2, 3, 8], [2, 4, 5], [2, 4, 7], [2, 4, 8], [2, 5, 6], [2, 5, 7], [2, 6, 7], [2, 6, 8], [2, 7, 8], [3, 4, 6], [3, 4, 7], [3, 4, 8], [3, 5, 6], [3, 5, 7], [3, 5, 8], [3, 6, 7], [3, 6, 8], [3, 7, 8], [4, 5, 6], [4, 5, 7], [4, 5, 8], [4, 6, 7], [4, 6, 8], [4, 7, 8], [5, 6, 7], [5, 6, 8], [5, 7, 8], [0, 1, 3, 4], [0, 1, 3, 5], [0, 1, 3, 7], [0, 1, 4, 5], [0, 1, 4, 6], [0, 1, 5, 8], [0, 1, 6, 7], [0, 1, 6, 8], [0, 1, 7, 8], [0, 2, 3, 4], [0, 2, 3, 5], [0, 2, 3, 8], [0, 2, 4, 5], [0, 2, 4, 7], [0, 2, 5, 6], [0, 2, 6, 7], [0, 2, 6, 8], [0, 2, 7, 8], [0, 3, 4, 7], [0, 3, 5, 8], [0, 3, 7, 8], [0, 4, 5, 6], [0, 4, 6, 7], [0, 5, 6, 8], [1, 2, 3, 4], [1, 2, 3, 5], [1, 2, 3, 6], [1, 2, 4, 5], [1, 2, 4, 8], [1, 2, 5, 7], [1, 2, 6, 7], [1, 2, 6, 8], [1, 2, 7, 8], [1, 3, 4, 6], [1, 3, 5, 7], [1, 3, 6, 7], [1, 4, 5, 8], [1, 4, 6, 8], [1, 5, 7, 8], [2, 3, 4, 8], [2, 3, 5, 6], [2, 3, 6, 8], [2, 4, 5, 7], [2, 4, 7, 8], [2, 5, 6, 7], [3, 4, 6, 7], [3, 4, 6, 8], [3, 4, 7, 8], [3, 5, 6, 7], [3, 5, 6, 8], [3, 5, 7, 8], [4, 5, 6, 7], [4, 5, 6, 8], [4, 5, 7, 8]]
def tab : Nat → Nat
  | 2 => 1230692573551578313170105935990549358569004579331754936955600425725583986410991251876215616975616833194353712246613111808122124761666585450699895829692415
  | 3 => 4724276602923705338696745330515435178038266482756942071117416554861579335588119046063918026492449221343953376147600884389922623059847252492800434896895
  | _ => 71801316537972169699489955456794730921640027642227274692093409661359397837731087037364049247184312419194993958355873063074667827688413399152066559
theorem flit_ok : ((subs (List.range 9)).all fun A => !(ll A).isEmpty || FLit.contains A) = true := by decide +kernel
def tm1 (a : Nat) (B : List Nat) (m : Nat) : Nat := B.foldl (fun m b => m ||| 2 ^ th a b) m
def tm (A B : List Nat) : Nat := A.foldl (fun m a => tm1 a B m) 0
theorem cross_ok : (FLit.all fun A => FLit.all fun B => decide (A.length + B.length < 6) || !(tab (10 - A.length - B.length)).testBit (tm A B)) = true := by decide +kernel
theorem tab_ok : (([2, 3, 4] : List Nat).all fun k => FLit.all fun C => decide (C.length < k) || (List.range 512).all fun T => C.any (fun c => T.testBit c) || (tab k).testBit T) = true := by decide +kernel
theorem len_ok : (FLit.all fun A => decide (A.length ≤ 4)) = true := by decide +kernel
theorem tm1_bit (a c : Nat) : ∀ (B : List Nat) (m : Nat), (tm1 a B m).testBit c = true → m.testBit c = true ∨ ∃ b ∈ B, th a b = c
  | [], m, h => .inl h
  | b :: B, m, h => by
    rcases tm1_bit a c B (m ||| 2 ^ th a b) h with h | ⟨b', hb, e⟩
    · rw [Nat.testBit_or, Bool.or_eq_true] at h
      rcases h with h | h
      · exact .inl h
      · rw [Nat.testBit_two_pow] at h
        exact .inr ⟨b, List.mem_cons_self, of_decide_eq_true h⟩
    · exact .inr ⟨b', List.mem_cons_of_mem _ hb, e⟩
theorem tm_bit (c : Nat) (B : List Nat) : ∀ (A : List Nat) (m : Nat), (A.foldl (fun m a => tm1 a B m) m).testBit c = true → m.testBit c = true ∨ ∃ a ∈ A, ∃ b ∈ B, th a b = c
  | [], m, h => .inl h
  | a :: A, m, h => by
    rcases tm_bit c B A (tm1 a B m) h with h | ⟨a', ha, b, hb, e⟩
    · rcases tm1_bit a c B m h with h | ⟨b, hb, e⟩
      · exact .inl h
      · exact .inr ⟨a, List.mem_cons_self, b, hb, e⟩
    · exact .inr ⟨a', List.mem_cons_of_mem _ ha, b, hb, e⟩
theorem tm1_lt (a : Nat) : ∀ (B : List Nat) (m : Nat), m < 2 ^ 9 → (∀ b ∈ B, th a b < 9) → tm1 a B m < 2 ^ 9
  | [], m, h, _ => h
  | b :: B, m, h, hb => tm1_lt a B _ (Nat.or_lt_two_pow h (Nat.pow_lt_pow_right (by decide) (hb b List.mem_cons_self))) fun c hc => hb c (List.mem_cons_of_mem _ hc)
theorem tm_lt (B : List Nat) : ∀ (A : List Nat) (m : Nat), m < 2 ^ 9 → (∀ a ∈ A, ∀ b ∈ B, th a b < 9) → A.foldl (fun m a => tm1 a B m) m < 2 ^ 9
  | [], m, h, _ => h
  | a :: A, m, h, hb => tm_lt B A _ (tm1_lt a B m h (hb a List.mem_cons_self)) fun c hc => hb c (List.mem_cons_of_mem _ hc)
/-- no three layers hold ten -/
theorem three_layers {A B C : List Nat} (hA : OkSet 2 A) (hB : OkSet 2 B) (hC : OkSet 2 C) (fA : ll A = []) (fB : ll B = []) (fC : ll C = []) (hx : ∀ a ∈ A, ∀ b ∈ B, th a b ∉ C) : A.length + B.length + C.length ≤ 9 := by
  have mem : ∀ {X : List Nat}, OkSet 2 X → ll X = [] → X ∈ FLit := fun {X} h f => by
    have := List.all_eq_true.mp flit_ok X (sub_range (n := 9) h.srt h.lt)
    rw [f] at this
    simpa using this
  have mA := mem hA fA
  have mB := mem hB fB
  have mC := mem hC fC
  have lA : A.length ≤ 4 := of_decide_eq_true (List.all_eq_true.mp len_ok A mA)
  have lB : B.length ≤ 4 := of_decide_eq_true (List.all_eq_true.mp len_ok B mB)
  have lC : C.length ≤ 4 := of_decide_eq_true (List.all_eq_true.mp len_ok C mC)
  have key := List.all_eq_true.mp (List.all_eq_true.mp cross_ok A mA) B mB
  by_cases h6 : A.length + B.length < 6
  · omega
  · rw [decide_eq_false h6, Bool.false_or] at key
    by_cases h10 : 10 ≤ A.length + B.length + C.length
    · exfalso
      have hk : 10 - A.length - B.length ∈ ([2, 3, 4] : List Nat) := by
        have : 10 - A.length - B.length = 2 ∨ 10 - A.length - B.length = 3 ∨ 10 - A.length - B.length = 4 := by omega
        rcases this with h | h | h <;> simp [h]
      have t := List.all_eq_true.mp (List.all_eq_true.mp tab_ok _ hk) C mC
      rw [decide_eq_false (by omega), Bool.false_or] at t
      have hT : tm A B < 512 := tm_lt B A 0 (by decide) fun a ha b hb => (th_facts (s := 2) (.inr (.inl rfl)) (hA.lt a ha) (hB.lt b hb)).1
      have t2 := List.all_eq_true.mp t (tm A B) (List.mem_range.mpr hT)
      rw [Bool.or_eq_true] at t2
      rcases t2 with t2 | t2
      · obtain ⟨c, hc, e⟩ := List.any_eq_true.mp t2
        rcases tm_bit c B A 0 e with h | ⟨a, ha, b, hb, e⟩
        · simp at h
        · exact hx a ha b hb (by rw [e]; exact hc)
      · rw [t2] at key
        cases key
    · omega
def lay (i : Nat) (L : List Nat) : List Nat := (L.filter fun a => decide (a / 9 = i)).map fun a => a - 9 * i
theorem lay_mem {i a : Nat} {L : List Nat} : a ∈ lay i L → 9 * i + a ∈ L ∧ a < 9 := by
  intro h
  obtain ⟨x, hx, e⟩ := List.mem_map.mp h
  obtain ⟨h1, h2⟩ := List.mem_filter.mp hx
  have h3 := of_decide_eq_true h2
  have : 9 * i + a = x := by omega
  rw [this]
  exact ⟨h1, by omega⟩
theorem lay_ok {i : Nat} {L : List Nat} (h : L.Pairwise (· < ·)) : OkSet 2 (lay i L) := by
  refine ⟨?_, fun a ha => (lay_mem ha).2⟩
  unfold lay
  refine List.pairwise_map.mpr ?_
  refine (List.Pairwise.filter _ h).imp_of_mem fun {a b} ha hb hab => ?_
  have h1 := of_decide_eq_true (List.mem_filter.mp ha).2
  have h2 := of_decide_eq_true (List.mem_filter.mp hb).2
  omega
theorem th_lay : ((List.range 3).all fun i => pairsB 2 fun a b => decide (th (9 * i + a) (9 * i + b) = 9 * i + th a b) && decide (th a (9 + b) = 18 + th a b)) = true := by decide +kernel
theorem th_in {i a b : Nat} (hi : i < 3) (ha : a < 9) (hb : b < 9) : th (9 * i + a) (9 * i + b) = 9 * i + th a b ∧ th a (9 + b) = 18 + th a b := by
  have := pairsB_ok (List.all_eq_true.mp th_lay i (List.mem_range.mpr hi)) (a := a) (b := b) ha hb
  rw [Bool.and_eq_true] at this
  exact ⟨of_decide_eq_true this.1, of_decide_eq_true this.2⟩
theorem lay_cons (i a : Nat) (L : List Nat) : (lay i (a :: L)).length = (if a / 9 = i then 1 else 0) + (lay i L).length := by
  unfold lay
  rw [List.length_map, List.length_map]
  by_cases h : a / 9 = i
  · rw [if_pos h, List.filter_cons_of_pos (by simpa using h), List.length_cons]
    omega
  · rw [if_neg h, List.filter_cons_of_neg (by simpa using h)]
    omega
theorem lay_len : ∀ {L : List Nat}, (∀ a ∈ L, a < 27) → L.length = (lay 0 L).length + (lay 1 L).length + (lay 2 L).length
  | [], _ => rfl
  | a :: L, h => by
    have ih := lay_len (L := L) fun b hb => h b (List.mem_cons_of_mem _ hb)
    have ha := h a List.mem_cons_self
    have : a / 9 = 0 ∨ a / 9 = 1 ∨ a / 9 = 2 := by omega
    rw [lay_cons, lay_cons, lay_cons, List.length_cons]
    rcases this with e | e | e <;> rw [e] <;> simp <;> omega
theorem cap_ok {s : Nat} (hs : Sz s) {L : List Nat} (hL : OkSet s L) (h : grt s < L.length) : ll L ≠ [] := by
  intro hf
  have small : ∀ s' ∈ ([1, 2] : List Nat), s' = s → False := fun s' hs' e => by
    subst e
    have := List.all_eq_true.mp (List.all_eq_true.mp cap12 s' hs') L (sub_range hL.srt hL.lt)
    rw [hf, decide_eq_false (by omega)] at this
    cases this
  rcases hs with rfl | rfl | rfl
  · exact small 1 (by simp) rfl
  · exact small 2 (by simp) rfl
  · have fr := (ll_free hL.srt).mp hf
    have lf : ∀ i, i < 3 → ll (lay i L) = [] := fun i hi => by
      refine (ll_free (lay_ok hL.srt).srt).mpr fun a ha b hb hab hbt hm => ?_
      have h1 := lay_mem ha
      have h2 := lay_mem hb
      have h3 := lay_mem hm
      have e := (th_in hi h1.2 h2.2).1
      exact fr _ h1.1 _ h2.1 (by omega) (by rw [e]; omega) (by rw [e]; exact h3.1)
    have := three_layers (lay_ok (i := 0) hL.srt) (lay_ok (i := 1) hL.srt) (lay_ok (i := 2) hL.srt) (lf 0 (by decide)) (lf 1 (by decide)) (lf 2 (by decide)) fun a ha b hb hm => by
      have h1 := lay_mem ha
      have h2 := lay_mem hb
      have h3 := lay_mem hm
      have e := (th_in (i := 0) (by decide) h1.2 h2.2).2
      simp only [Nat.mul_zero, Nat.zero_add, Nat.mul_one] at h1 h2
      exact fr _ h1.1 _ h2.1 (by omega) (by rw [e]; omega) (by rw [e]; exact h3.1)
    have e := lay_len hL.lt
    have : grt 3 = 9 := rfl
    omega
end FL

namespace FL
open PySem L2
/-- a loop whose states are told -/
theorem forF_st {α : Type} {dep : Dep} {P : List Nat} {tg : Tg} {body : Rho → R Fl} (enc : α → D) (st : Nat → Rho) : ∀ (xs : List α) (k0 : Nat), (∀ (k : Nat) (a : α), xs[k]? = some a → chk dep (st (k0 + k)) = true ∧ ∃ ρ1, tg.set P (enc a) (st (k0 + k)) = some ρ1 ∧ body ρ1 = .ok .nx (st (k0 + k + 1))) →
    chk dep (st (k0 + xs.length)) = true → forF dep P tg body (xs.map enc) (st k0) = .ok .nx (st (k0 + xs.length))
  | [], k0, _, hc => by rw [List.map_nil, forF, if_pos (show chk dep (st k0) = true from hc)]; rfl
  | a :: xs, k0, h, hc => by
    obtain ⟨h1, ρ1, h2, h3⟩ := h 0 a rfl
    rw [Nat.add_zero] at h1 h2 h3
    rw [List.map_cons, forF, if_pos h1]
    rw [h2]
    simp only [h3]
    have := forF_st enc st xs (k0 + 1) (fun k b hb => by
      have := h (k + 1) b (by simpa using hb)
      rw [show k0 + (k + 1) = k0 + 1 + k by omega] at this
      exact this) (by rw [List.length_cons, show k0 + (xs.length + 1) = k0 + 1 + xs.length by omega] at hc; exact hc)
    rw [this, List.length_cons, show k0 + (xs.length + 1) = k0 + 1 + xs.length by omega]
theorem fFor_st {α : Type} {fsrc : Rho → R (List D × Dep)} {dep : Dep} {P : List Nat} {tg : Tg} {body : List Nat → Rho → R Fl} {ρ : Rho} (enc : α → D) (st : Nat → Rho) (xs : List α) (hs : fsrc ρ = .ok (xs.map enc, dep) (st 0))
    (h : ∀ (k : Nat) (a : α), xs[k]? = some a → chk dep (st k) = true ∧ ∃ ρ1, tg.set (pinDep dep P) (enc a) (st k) = some ρ1 ∧ body (pinDep dep P) ρ1 = .ok .nx (st (k + 1))) (hc : chk dep (st xs.length) = true) :
    fFor fsrc tg body P ρ = .ok .nx (st xs.length) := by
  rw [fFor_of hs]
  have := forF_st (dep := dep) (P := pinDep dep P) (tg := tg) (body := body (pinDep dep P)) enc st xs 0 (fun k a ha => by rw [Nat.zero_add]; exact h k a ha) (by rw [Nat.zero_add]; exact hc)
  rw [Nat.zero_add] at this
  exact this
theorem tg_n {P : List Nat} {i : Nat} {x : D} {ρ : Rho} (h : P.contains i = false) : Tg.set P (.n i) x ρ = some (ρ.set i (some (.d x))) := by
  show (if P.contains i = true then none else some (ρ.set i (some (.d x)))) = _
  rw [h]
  rfl
/-- all lines of a board -/
abbrev lam (s : Nat) : List (Nat × Nat × Nat) := ll (List.range (sz s))
theorem llI_filter {n a : Nat} (χ : Nat → Bool) (ha : a < n) (ht : ∀ b, b < n → th a b < n) : ∀ R : List Nat, (∀ b ∈ R, b < n) → llI ((List.range n).filter χ) a (R.filter χ) = (llI (List.range n) a R).filter fun t => χ t.2.1 && χ t.2.2
  | [], _ => rfl
  | b :: R, h => by
    have ih := llI_filter χ ha ht R fun c hc => h c (List.mem_cons_of_mem _ hc)
    have hb := h b List.mem_cons_self
    have htb := ht b hb
    rw [llI, List.filter_append, ← ih]
    cases hχ : χ b with
    | true =>
      rw [List.filter_cons_of_pos hχ, llI]
      congr 1
      by_cases h1 : b < th a b
      · cases h2 : χ (th a b) <;> simp [h1, h2, hχ, htb, List.mem_filter]
      · simp [h1]
    | false =>
      rw [List.filter_cons_of_neg (by rw [hχ]; decide)]
      have : List.filter (fun t : Nat × Nat × Nat => χ t.2.1 && χ t.2.2) (if b < th a b ∧ th a b ∈ List.range n then [(a, b, th a b)] else []) = [] := by
        split <;> simp [hχ]
      rw [this]
      rfl
theorem llI_fst {L : List Nat} {a : Nat} : ∀ {R : List Nat} {t : Nat × Nat × Nat}, t ∈ llI L a R → t.1 = a
  | [], _, h => by cases h
  | b :: R, t, h => by
    rw [llI] at h
    rcases List.mem_append.mp h with h | h
    · split at h
      · simp at h; rw [h]
      · cases h
    · exact llI_fst h
theorem llG_filter {n : Nat} (χ : Nat → Bool) (ht : ∀ a b, a < n → b < n → th a b < n) : ∀ R : List Nat, (∀ b ∈ R, b < n) → llG ((List.range n).filter χ) (R.filter χ) = (llG (List.range n) R).filter fun t => χ t.1 && (χ t.2.1 && χ t.2.2)
  | [], _ => rfl
  | a :: R, h => by
    have ih := llG_filter χ ht R fun c hc => h c (List.mem_cons_of_mem _ hc)
    have ha := h a List.mem_cons_self
    rw [llG, List.filter_append, ← ih]
    cases hχ : χ a with
    | true =>
      rw [List.filter_cons_of_pos hχ, llG, llI_filter χ ha (fun b hb => ht a b ha hb) R fun c hc => h c (List.mem_cons_of_mem _ hc)]
      congr 1
      refine List.filter_congr fun t hm => ?_
      rw [llI_fst hm, hχ]
      rfl
    | false =>
      rw [List.filter_cons_of_neg (by rw [hχ]; decide)]
      have : List.filter (fun t : Nat × Nat × Nat => χ t.1 && (χ t.2.1 && χ t.2.2)) (llI (List.range n) a R) = [] := by
        refine List.filter_eq_nil_iff.mpr fun t hm => ?_
        rw [llI_fst hm, hχ]
        simp
      rw [this]
      rfl
/-- a set by its members -/
theorem OkSet.eq {s : Nat} {L : List Nat} (h : OkSet s L) : (List.range (sz s)).filter (fun n => decide (n ∈ L)) = L := by
  have e1 : ((List.range (sz s)).filter fun n => decide (n ∈ L)).Pairwise (· < ·) := List.Pairwise.filter _ List.pairwise_lt_range
  have uniq : ∀ {A B : List Nat}, A.Pairwise (· < ·) → B.Pairwise (· < ·) → (∀ x, x ∈ A ↔ x ∈ B) → A = B := by
    intro A
    induction A with
    | nil =>
      intro B _ _ hm
      cases B with
      | nil => rfl
      | cons b B => exact absurd ((hm b).mpr List.mem_cons_self) (by simp)
    | cons a A ih =>
      intro B hA hB hm
      cases B with
      | nil => exact absurd ((hm a).mp List.mem_cons_self) (by simp)
      | cons b B =>
        rw [List.pairwise_cons] at hA hB
        have hab : a = b := by
          rcases List.mem_cons.mp ((hm a).mp List.mem_cons_self) with e | hb
          · exact e
          · rcases List.mem_cons.mp ((hm b).mpr List.mem_cons_self) with e | ha
            · exact e.symm
            · have := hA.1 b ha; have := hB.1 a hb; omega
        subst hab
        rw [ih hA.2 hB.2 fun x => ?_]
        constructor
        · intro hx
          rcases List.mem_cons.mp ((hm x).mp (List.mem_cons_of_mem _ hx)) with e | h'
          · have := hA.1 x hx; omega
          · exact h'
        · intro hx
          rcases List.mem_cons.mp ((hm x).mpr (List.mem_cons_of_mem _ hx)) with e | h'
          · have := hB.1 x hx; omega
          · exact h'
  refine uniq e1 h.srt fun x => ?_
  rw [List.mem_filter, decide_eq_true_eq, List.mem_range]
  exact ⟨fun q => q.2, fun q => ⟨h.lt x q, q⟩⟩
theorem th_lt {s a b : Nat} (hs : Sz s) (ha : a < sz s) (hb : b < sz s) : th a b < sz s := (th_facts hs ha hb).1
theorem ll_lam {s : Nat} (hs : Sz s) {L : List Nat} (hL : OkSet s L) : ll L = (lam s).filter fun t => decide (t.1 ∈ L) && (decide (t.2.1 ∈ L) && decide (t.2.2 ∈ L)) := by
  have := llG_filter (n := sz s) (fun n => decide (n ∈ L)) (fun a b ha hb => th_lt hs ha hb) (List.range (sz s)) fun b hb => List.mem_range.mp hb
  rw [hL.eq] at this
  exact this
end FL
namespace FL
open PySem L2
theorem draw_at {ns : List Int} (hn : ns.length ≤ 63) (tw : List D) (ht : tw.length ≤ 100000) (many : Nat) (M : Int) (hM : M = (many : Nat)) (hm : 0 < many) : ∃ r : Nat, r < many ∧ m__law_draw [.z ns, .l tw, .d (.int M)] = .ret (.d (.int r)) [.z ns, .l (tw ++ [.int 0]), .d (.int M)] := by
  subst hM
  exact draw_spec hn tw many ht hm
/-! ### loops, unrolled -/
def kFor (tg : Tg) (body : List Nat → Rho → R Fl) (P : List Nat) : List D × Dep → Rho → R Fl := fun xd ρ1 => forF xd.2 (pinDep xd.2 P) tg (body (pinDep xd.2 P)) xd.1 ρ1
theorem ev_for {fsrc : Rho → R (List D × Dep)} {tg : Tg} {body : List Nat → Rho → R Fl} {P : List Nat} {ρ : Rho} : fFor fsrc tg body P ρ = (fsrc ρ).bind (kFor tg body P) := rfl
theorem kFor_e {tg : Tg} {body : List Nat → Rho → R Fl} {P : List Nat} {ρ : Rho} {xs : List D} {dep : Dep} : kFor tg body P (xs, dep) ρ = forF dep (pinDep dep P) tg (body (pinDep dep P)) xs ρ := rfl
def forK (k : Rho → R Fl) : R Fl → R Fl
  | .ok .nx ρ2 => k ρ2
  | .ok .ct ρ2 => k ρ2
  | .ok .bk ρ2 => .ok .nx ρ2
  | .ok (.rt r) ρ2 => .ok (.rt r) ρ2
  | .exc c ρ2 => .exc c ρ2
  | .bad => .bad
theorem for_nil {P : List Nat} {tg : Tg} {body : Rho → R Fl} {ρ : Rho} : forF none P tg body [] ρ = .ok .nx ρ := rfl
theorem for_cons {i : Nat} {body : Rho → R Fl} {x : D} {xs : List D} {ρ : Rho} : forF none [] (.n i) body (x :: xs) ρ = forK (forF none [] (.n i) body xs) (body (ρ.set i (some (.d x)))) := by
  rw [forF, if_pos (show chk none ρ = true from rfl), tg_n (show ([] : List Nat).contains i = false from rfl)]
  simp only
  cases body (ρ.set i (some (.d x))) with
  | ok fl ρ2 => cases fl <;> rfl
  | exc c ρ2 => rfl
  | bad => rfl
theorem forK_nx {k : Rho → R Fl} {ρ : Rho} : forK k (.ok .nx ρ) = k ρ := rfl
theorem forK_rt {k : Rho → R Fl} {ρ : Rho} {r : S} : forK k (.ok (.rt r) ρ) = .ok (.rt r) ρ := rfl
theorem ev_src {f : Rho → R W} {ρ : Rho} : fSrc f ρ = (f ρ).bind kSrc := by
  unfold fSrc kSrc
  cases f ρ <;> rfl
theorem kSrc_l {xs : List D} {ρ : Rho} : kSrc (.d (.list xs)) ρ = .ok (xs, none) ρ := rfl
theorem kSrc_t {xs : List D} {ρ : Rho} : kSrc (.d (.tuple xs)) ρ = .ok (xs, none) ρ := rfl
def srcR (ρ : Rho) : Option (List D × Dep) → R (List D × Dep)
  | some xd => .ok xd ρ
  | none => .bad
def kSrcs (k : Rho → List W → Option (List D × Dep)) : List W → Rho → R (List D × Dep) := fun w ρ1 => srcR ρ1 (k ρ1 w)
theorem ev_srcs {k : Rho → List W → Option (List D × Dep)} {f : Rho → R (List W)} {ρ : Rho} : fSrcs k f ρ = (f ρ).bind (kSrcs k) := by
  first
  | rfl
  | unfold fSrcs kSrcs srcR
    cases f ρ with
    | ok w ρ1 => simp only [R.bind_ok]; cases k ρ1 w <;> rfl
    | _ => rfl
theorem kSrcs_e {k : Rho → List W → Option (List D × Dep)} {ws : List W} {ρ : Rho} : kSrcs k ws ρ = srcR ρ (k ρ ws) := rfl
theorem srcR_e {xd : List D × Dep} {ρ : Rho} : srcR ρ (some xd) = .ok xd ρ := rfl
/-! ### x += e, x.append(e), slices -/
def kAug (i : Nat) (a : Int) : W → Rho → R Fl := fun w ρ1 => match w with
  | .d (.int b) => .ok .nx (ρ1.set i (some (.d (.int (a + b)))))
  | _ => .bad
def augR (i : Nat) (f : Rho → R W) (ρ : Rho) : Option (Option S) → R Fl
  | some (some (.d (.int a))) => (f ρ).bind (kAug i a)
  | _ => .bad
theorem ev_aug0 {i : Nat} {f : Rho → R W} {ρ : Rho} : fAug [] i f ρ = augR i f ρ ρ[i]? := by
  unfold fAug getI augR
  rw [if_neg (by simp)]
  generalize ρ[i]? = o
  rcases o with _ | _ | v
  · rfl
  · rfl
  · cases v with
    | d x =>
      cases x with
      | int a =>
        show (f ρ).bind _ = (f ρ).bind _
        cases f ρ with
        | ok w ρ1 =>
          cases w with
          | own _ => rfl
          | d y => cases y <;> rfl
        | _ => rfl
      | _ => rfl
    | _ => rfl
theorem augR_e {i : Nat} {f : Rho → R W} {ρ : Rho} {a : Int} : augR i f ρ (some (some (.d (.int a)))) = (f ρ).bind (kAug i a) := rfl
theorem kAug_e {i : Nat} {a b : Int} {ρ : Rho} : kAug i a (.d (.int b)) ρ = .ok .nx (ρ.set i (some (.d (.int (a + b))))) := rfl
def getLS : Option (Option S) → Option (List D)
  | some (some (.l xs)) => some xs
  | _ => none
theorem getL_e {ρ : Rho} {i : Nat} : getL ρ i = getLS ρ[i]? := by
  unfold getL getLS
  rfl
theorem getLS_l {xs : List D} : getLS (some (some (.l xs))) = some xs := rfl
def appR2 (i : Nat) (ρ : Rho) (x : Option D) : Option (List D) → R W
  | some xs => (match x with
    | some x => gR (decide (xs.length < 1000000)) (.ok (.d .none) (ρ.set i (some (.l (xs ++ [x])))))
    | none => .bad)
  | none => .bad
def kApp (i : Nat) : List W → Rho → R W := fun ws ρ1 => appR2 i ρ1 (one? ws) (getL ρ1 i)
def appR1 (i : Nat) (fs : Rho → R (List W)) (ρ : Rho) : Option (List D) → R W
  | none => .bad
  | some _ => (fs ρ).bind (kApp i)
theorem ev_app {i : Nat} {fs : Rho → R (List W)} {ρ : Rho} : fApp i fs ρ = appR1 i fs ρ (getL ρ i) := by
  first
  | rfl
  | unfold fApp appR1
    cases getL ρ i with
    | none => rfl
    | some xs0 =>
      simp only
      cases fs ρ with
      | ok ws ρ1 =>
        simp only [R.bind_ok]
        unfold kApp appR2
        cases one? ws <;> cases getL ρ1 i <;> simp only
        exact gR_if
      | _ => rfl
theorem appR1_e {i : Nat} {fs : Rho → R (List W)} {ρ : Rho} {xs : List D} : appR1 i fs ρ (some xs) = (fs ρ).bind (kApp i) := rfl
theorem kApp_e {i : Nat} {ws : List W} {ρ : Rho} : kApp i ws ρ = appR2 i ρ (one? ws) (getL ρ i) := rfl
theorem appR2_e {i : Nat} {ρ : Rho} {x : D} {xs : List D} : appR2 i ρ (some x) (some xs) = gR (decide (xs.length < 1000000)) (.ok (.d .none) (ρ.set i (some (.l (xs ++ [x]))))) := rfl
theorem one_e {x : D} : one? [.d x] = some x := rfl
theorem ev_yes {ρ : Rho} : fYes ρ = .ok true ρ := rfl
def kNeg : W → Rho → R W := fun w ρ1 => match w with
  | .d (.int a) => .ok (.d (.int (-a))) ρ1
  | _ => .bad
theorem ev_neg {f : Rho → R W} {ρ : Rho} : fNeg f ρ = (f ρ).bind kNeg := rfl
theorem kNeg_e {a : Int} {ρ : Rho} : kNeg (.d (.int a)) ρ = .ok (.d (.int (-a))) ρ := rfl
def kPart : W → Rho → R (Option Int) := fun w ρ' => match w with
  | .d (.int i) => .ok (some i) ρ'
  | _ => .bad
theorem ev_part {f : Rho → R W} {ρ : Rho} : fPart f ρ = (f ρ).bind kPart := rfl
theorem kPart_e {a : Int} {ρ : Rho} : kPart (.d (.int a)) ρ = .ok (some a) ρ := rfl
theorem ev_nopart {ρ : Rho} : fNoPart ρ = .ok none ρ := rfl
def slR (lo hi : Option Int) (ρ : Rho) : Option D → R W
  | some x => optR (slD x lo hi) ρ
  | none => .bad
def kSl3 (w : W) (lo : Option Int) : Option Int → Rho → R W := fun hi ρ => slR lo hi ρ (look ρ w)
def kSl2 (w : W) (fh : Rho → R (Option Int)) : Option Int → Rho → R W := fun lo ρ => (fh ρ).bind (kSl3 w lo)
def kSl1 (fl fh : Rho → R (Option Int)) : W → Rho → R W := fun w ρ => (fl ρ).bind (kSl2 w fh)
theorem ev_sl {fa : Rho → R W} {fl fh : Rho → R (Option Int)} {ρ : Rho} : fSl fa fl fh ρ = (fa ρ).bind (kSl1 fl fh) := by
  first
  | rfl
  | unfold fSl kSl1 kSl2 kSl3 slR optR
    cases fa ρ with
    | ok w ρ1 =>
      simp only [R.bind_ok]
      cases fl ρ1 with
      | ok lo ρ2 =>
        simp only [R.bind_ok]
        cases fh ρ2 with
        | ok hi ρ3 =>
          simp only [R.bind_ok]
          cases look ρ3 w <;> rfl
        | _ => rfl
      | _ => rfl
    | _ => rfl
theorem kSl1_e {fl fh : Rho → R (Option Int)} {w : W} {ρ : Rho} : kSl1 fl fh w ρ = (fl ρ).bind (kSl2 w fh) := rfl
theorem kSl2_e {fh : Rho → R (Option Int)} {w : W} {lo : Option Int} {ρ : Rho} : kSl2 w fh lo ρ = (fh ρ).bind (kSl3 w lo) := rfl
theorem kSl3_e {w : W} {lo hi : Option Int} {ρ : Rho} : kSl3 w lo hi ρ = slR lo hi ρ (look ρ w) := rfl
theorem slR_e {x : D} {lo hi : Option Int} {ρ : Rho} : slR lo hi ρ (some x) = optR (slD x lo hi) ρ := rfl
theorem lenD_int {n : Nat} : ((n : Nat) : Int) = n := rfl
end FL
namespace FL
theorem dec_natEq {a b : Nat} : decide ((a : Int) = (b : Int)) = decide (a = b) := decide_eq_decide.mpr (by omega)
theorem dec_natLt {a b : Nat} : decide ((a : Int) < (b : Int)) = decide (a < b) := decide_eq_decide.mpr (by omega)
theorem range3 : rangeOf [.d (.int 3)] = some ([.int 0, .int 1, .int 2], none) := rfl
/-- members counted -/
theorem len_filter_sm (f : Nat → Bool) : ∀ L : List Nat, (L.filter f).length = sm L fun a => if f a = true then 1 else 0
  | [] => rfl
  | a :: L => by
    rw [sm]
    cases h : f a with
    | true => rw [List.filter_cons_of_pos h, List.length_cons, len_filter_sm f L]; simp; omega
    | false => rw [List.filter_cons_of_neg (by rw [h]; decide), len_filter_sm f L]; simp
theorem sm_filter (χ : Nat → Bool) (f : Nat → Nat) : ∀ L : List Nat, sm (L.filter χ) f = sm L fun a => if χ a = true then f a else 0
  | [] => rfl
  | a :: L => by
    rw [sm]
    cases h : χ a with
    | true => rw [List.filter_cons_of_pos h, sm, sm_filter χ f L]; simp
    | false => rw [List.filter_cons_of_neg (by rw [h]; decide), sm_filter χ f L]; simp
theorem sm_len {α : Type} (g : Nat → List α) : ∀ L : List Nat, (L.flatMap g).length = sm L fun a => (g a).length
  | [] => rfl
  | a :: L => by rw [List.flatMap_cons, List.length_append, sm, sm_len g L]
end FL

namespace FL
open PySem L2
/-! ### exact values: rows, hits, open places -/
theorem row_tab : (([1, 2, 3] : List Nat).all fun s => pairsB s fun a b => onesB s fun c => rowS s a b c == decide (c = th a b)) = true := by decide +kernel
theorem row_eq {s a b c : Nat} (hs : Sz s) (ha : a < sz s) (hb : b < sz s) (hc : c < sz s) : rowS s a b c = decide (c = th a b) := eq_of_beq (onesB_ok (pairsB_ok (three row_tab hs) ha hb) hc)
end FL

namespace FL
open PySem L2
def hitN (c : Nat) : List Nat → Bool
  | [] => false
  | a :: r => (r.any fun b => decide (c = th a b)) || hitN c r
theorem hitN_iff {c : Nat} : ∀ {L : List Nat}, hitN c L = true ↔ ∃ j a, L[j]? = some a ∧ ∃ b ∈ L.drop (j + 1), c = th a b
  | [] => by simp [hitN]
  | a :: r => by
    rw [hitN, Bool.or_eq_true, hitN_iff (L := r)]
    constructor
    · rintro (h | ⟨j, x, h1, b, h2, h3⟩)
      · obtain ⟨b, hb, e⟩ := List.any_eq_true.mp h
        exact ⟨0, a, rfl, b, hb, of_decide_eq_true e⟩
      · exact ⟨j + 1, x, h1, b, h2, h3⟩
    · rintro ⟨j, x, h1, b, h2, h3⟩
      cases j with
      | zero =>
        cases h1
        exact .inl (List.any_eq_true.mpr ⟨b, h2, decide_eq_true h3⟩)
      | succ j => exact .inr ⟨j, x, h1, b, h2, h3⟩
theorem hits_d {s : Nat} (hs : Sz s) {M : List Nat} (hM : ∀ a ∈ M, a < sz s) (hl : M.length ≤ 1000) {c : Nat} (hc : c < sz s) : m__law_hits [.d (st s M), .d (pt s c)] = .ret (.d (.bool (hitN c M))) [.d (st s M), .d (pt s c)] := by
  let ρ (k a : Nat) : Rho := [some (.d (st s M)), some (.d (pt s c)), some (.d (.int k)), some (.d (pt s a)), none]
  have step : ∀ (k a : Nat), M[k]? = some a → asB (fBin neD (fLc (fSrc (fSl (fVar 0) (fPart (fBin addD (fVar 2) (fD (.int 1)))) fNoPart)) (.n 4) [4] (asB (fCall m__law_rowed (fCons (fVar 3) (fCons (fVar 4) (fCons (fVar 1) fNil))))) (fD (.int 1))) (fLst fNil)) (ρ k a) = .ok ((M.drop (k + 1)).any fun b => decide (c = th a b)) (ρ k a) := by
    intro k a hk
    have ha := hM a (List.mem_of_getElem? hk)
    have src : fSrc (fSl (fVar 0) (fPart (fBin addD (fVar 2) (fD (.int 1)))) fNoPart) (ρ k a) = .ok ((M.drop (k + 1)).map (pt s), none) (ρ k a) := by
      refine fSrc_of (w := .d (.tuple ((M.map (pt s)).drop (k + 1)))) (fSl_d (x := st s M) rfl rfl rfl rfl ?_) ?_
      · exact slice_spec true _ (k + 1)
      · rw [List.map_drop]
        rfl
    have lc := fLc_c (dep := none) (pt s) (xs := M.drop (k + 1)) (i := 4) (ρ1 := ρ k a) (cond := asB (fCall m__law_rowed (fCons (fVar 3) (fCons (fVar 4) (fCons (fVar 1) fNil))))) (elt := fD (.int 1)) (fun b => decide (c = th a b)) (fun _ => .int 1) src (by rw [List.length_drop]; omega) (by simp [ρ]) rfl rfl (fun b hb => by
        have hb' := hM b (List.mem_of_mem_drop hb)
        rw [← row_eq hs ha hb' hc]
        exact asB_b (callR (rowed_pt hs a b c) rfl rfl rfl rfl)) (fun b _ _ => rfl)
    refine (asB_b (fBin_d (x := _) (y := .list []) lc rfl rfl rfl (ne_nil_spec ?_))).trans ?_
    · have := shp_ones (((M.drop (k + 1)).filter fun b => decide (c = th a b)).map (pt s))
      rw [List.map_map] at this
      exact this
    · congr 1
      induction M.drop (k + 1) with
      | nil => rfl
      | cons b r ih =>
        rw [List.any_cons, List.filter_cons]
        cases decide (c = th a b) <;> simp_all
  have key : ∃ ρ', (forF none [] (.p 2 3) (fun ρ => (fSeq (fIfS (asB (fBin neD (fLc (fSrc (fSl (fVar 0) (fPart (fBin addD (fVar 2) (fD (.int 1)))) fNoPart)) (.n 4) [4] (asB (fCall m__law_rowed (fCons (fVar 3) (fCons (fVar 4) (fCons (fVar 1) fNil))))) (fD (.int 1))) (fLst fNil))) (fSeq (fRet [] (fD (.bool true))) fNext) fNext) fNext) ρ) (enumD 0 (M.map (pt s))) [some (.d (st s M)), some (.d (pt s c)), none, none, none] = .ok .nx ρ' ∧ (∃ o2 o3, ρ' = [some (.d (st s M)), some (.d (pt s c)), o2, o3, none]) ∧ ∀ j a, j < 0 + (enumD 0 (M.map (pt s))).length → M[j]? = some a → ((M.drop (j + 1)).any fun b => decide (c = th a b)) = false) ∨
      ∃ r, forF none [] (.p 2 3) (fun ρ => (fSeq (fIfS (asB (fBin neD (fLc (fSrc (fSl (fVar 0) (fPart (fBin addD (fVar 2) (fD (.int 1)))) fNoPart)) (.n 4) [4] (asB (fCall m__law_rowed (fCons (fVar 3) (fCons (fVar 4) (fCons (fVar 1) fNil))))) (fD (.int 1))) (fLst fNil))) (fSeq (fRet [] (fD (.bool true))) fNext) fNext) fNext) ρ) (enumD 0 (M.map (pt s))) [some (.d (st s M)), some (.d (pt s c)), none, none, none] = .ok (.rt r) ρ' ∧ r = .d (.bool true) ∧ hitN c M = true ∧ ∃ o2 o3, ρ' = [some (.d (st s M)), some (.d (pt s c)), o2, o3, none] := by
    refine forF_ret (dep := none) (fun k ρ' => (∃ o2 o3, ρ' = [some (.d (st s M)), some (.d (pt s c)), o2, o3, none]) ∧ ∀ j a, j < k → M[j]? = some a → ((M.drop (j + 1)).any fun b => decide (c = th a b)) = false) (fun r ρ' => r = .d (.bool true) ∧ hitN c M = true ∧ ∃ o2 o3, ρ' = [some (.d (st s M)), some (.d (pt s c)), o2, o3, none])
      (enumD 0 (M.map (pt s))) 0 _ ⟨⟨none, none, rfl⟩, fun j a h => absurd h (Nat.not_lt_zero j)⟩ (fun _ _ _ => rfl) ?_
    rintro j x ρ' hx ⟨⟨o2, o3, rfl⟩, hj⟩
    obtain ⟨y, hy, rfl⟩ := enumD_get hx
    rw [List.getElem?_map] at hy
    obtain ⟨n, hn, rfl⟩ := Option.map_eq_some_iff.mp hy
    rw [Nat.zero_add] at hj ⊢
    have hb := step j n hn
    refine ⟨ρ j n, ρ j n, rfl, ?_⟩
    cases hc : ((M.drop (j + 1)).any fun b => decide (c = th n b)) with
    | true =>
      rw [hc] at hb
      obtain ⟨b, hb1, hb2⟩ := List.any_eq_true.mp hc
      exact .inr ⟨_, seqR (ifT hb (seqR rfl)), rfl, hitN_iff.mpr ⟨j, n, hn, b, hb1, of_decide_eq_true hb2⟩, _, _, rfl⟩
    | false =>
      rw [hc] at hb
      refine .inl ⟨seqN (ifF hb rfl) rfl, ⟨_, _, rfl⟩, fun i a hi ha => ?_⟩
      by_cases e : i = j
      · subst e
        rw [hn] at ha
        cases ha
        exact hc
      · exact hj i a (by omega) ha
  have src : fSrcs enumOf (fCons (fVar 0) fNil) [some (.d (st s M)), some (.d (pt s c)), none, none, none] = .ok (enumD 0 (M.map (pt s)), none) [some (.d (st s M)), some (.d (pt s c)), none, none, none] := fSrcs_of rfl rfl
  obtain ⟨ρ', h⟩ := key
  rcases h with ⟨h1, ⟨o2, o3, rfl⟩, h2⟩ | ⟨r, h1, rfl, h2, o2, o3, rfl⟩
  · have hf : hitN c M = false := by
      rw [Bool.eq_false_iff]
      intro ht
      obtain ⟨j, a, hj, b, hb1, hb2⟩ := hitN_iff.mp ht
      have hlt : j < M.length := (List.getElem?_eq_some_iff.mp hj).1
      have := h2 j a (by rw [enumD_length, List.length_map]; omega) hj
      rw [List.any_eq_false] at this
      exact this b hb1 (decide_eq_true hb2)
    rw [hf]
    refine runR [some (.d (st s M)), some (.d (pt s c)), o2, o3, none] ?_ rfl
    show b__law_hits [] [some (.d (st s M)), some (.d (pt s c)), none, none, none] = _
    unfold b__law_hits
    exact seqN ((fFor_of src).trans h1) (seqR rfl)
  · rw [h2]
    refine runR [some (.d (st s M)), some (.d (pt s c)), o2, o3, none] ?_ rfl
    show b__law_hits [] [some (.d (st s M)), some (.d (pt s c)), none, none, none] = _
    unfold b__law_hits
    exact seqR ((fFor_of src).trans h1)
end FL

namespace FL
open PySem L2
/-! ### own dicts keyed by places -/
abbrev kv (s n : Nat) : D × D := (pt s n, .bool true)
theorem deq_tab : (([1, 2, 3] : List Nat).all fun s => pairsB s fun a b => deq (pt s a) (pt s b) == decide (a = b)) = true := by decide +kernel
theorem nk_tab : (([1, 2, 3] : List Nat).all fun s => onesB s fun a => nkOk (pt s a)) = true := by decide +kernel
theorem deq_pt {s a b : Nat} (hs : Sz s) (ha : a < sz s) (hb : b < sz s) : deq (pt s a) (pt s b) = decide (a = b) := eq_of_beq (pairsB_ok (three deq_tab hs) ha hb)
theorem nk_pt {s a : Nat} (hs : Sz s) (ha : a < sz s) : nkOk (pt s a) = true := onesB_ok (three nk_tab hs) ha
def nadd (K : List Nat) (n : Nat) : List Nat := if n ∈ K then K else K ++ [n]
theorem mem_nadd {K : List Nat} {n m : Nat} : m ∈ nadd K n ↔ m ∈ K ∨ m = n := by
  unfold nadd
  split
  · rename_i h
    constructor
    · exact .inl
    · rintro (h1 | rfl)
      · exact h1
      · exact h
  · simp
theorem dhas_pt {s : Nat} (hs : Sz s) {K : List Nat} (hK : ∀ a ∈ K, a < sz s) {n : Nat} (hn : n < sz s) : dhas (K.map (kv s)) (pt s n) = decide (n ∈ K) := by
  unfold dhas
  rw [List.any_map]
  induction K with
  | nil => rfl
  | cons a K ih =>
    rw [List.any_cons, ih (fun b hb => hK b (.tail _ hb))]
    show (deq (pt s a) (pt s n) || _) = _
    rw [deq_pt hs (hK a (.head _)) hn]
    by_cases e : a = n
    · subst e; simp
    · have : ¬ n = a := fun h => e h.symm
      simp [e, this]
theorem dput_pt {s : Nat} (hs : Sz s) {K : List Nat} (hK : ∀ a ∈ K, a < sz s) {n : Nat} (hn : n < sz s) : dput (K.map (kv s)) (pt s n) (.bool true) = (nadd K n).map (kv s) := by
  unfold dput nadd
  rw [dhas_pt hs hK hn]
  by_cases h : n ∈ K
  · rw [if_pos (decide_eq_true h), if_pos h, List.map_map]
    refine List.map_congr_left fun a _ => ?_
    show (if _ then _ else _) = _
    split <;> rfl
  · rw [if_neg (by simpa using h), if_neg h, List.map_append]
    rfl
theorem nadd_lt {s : Nat} {K : List Nat} (hK : ∀ a ∈ K, a < sz s) {n : Nat} (hn : n < sz s) : ∀ a ∈ nadd K n, a < sz s := fun a ha => (mem_nadd.mp ha).elim (hK a) (fun e => e ▸ hn)
theorem nadd_nodup {K : List Nat} (h : K.Nodup) (n : Nat) : (nadd K n).Nodup := by
  unfold nadd
  split
  · exact h
  · rename_i hn
    rw [List.nodup_append]
    exact ⟨h, by simp, fun a ha b hb e => hn (by simp at hb; subst hb; subst e; exact ha)⟩
theorem nodup_len {s : Nat} (hs : Sz s) {K : List Nat} (hK : ∀ a ∈ K, a < sz s) (h : K.Nodup) : K.length ≤ sz s := by
  have := h.length_le_of_subset (l₂ := List.range (sz s)) (fun a ha => List.mem_range.mpr (hK a ha))
  rwa [List.length_range] at this
theorem dsetD {i : Nat} {fv fk : Rho → R W} {ρ ρ1 ρ2 ρ3 : Rho} {v x : D} {k0 kvs : List (D × D)} (h1 : fv ρ = .ok (.d v) ρ1) (h2 : getM ρ1 i = some k0) (h3 : fk ρ1 = .ok (.d x) ρ2) (h4 : getM ρ2 i = some kvs) (h5 : nkOk x = true) (h6 : kvs.length ≤ 1000000) (h7 : ρ2.set i (some (.m (dput kvs x v))) = ρ3) : fDset i fv fk ρ = .ok .nx ρ3 := by
  unfold fDset
  rw [h1]
  simp only [R.bind_ok, h2, h3, h4]
  rw [if_pos ⟨h5, h6⟩, h7]
theorem dinD {neg : Bool} {i : Nat} {f : Rho → R W} {ρ ρ1 : Rho} {x : D} {kvs : List (D × D)} (h1 : f ρ = .ok (.d x) ρ1) (h2 : getM ρ1 i = some kvs) (h3 : nkOk x = true) : fDin neg i f ρ = .ok (.d (.bool (if neg = true then !dhas kvs x else dhas kvs x))) ρ1 := by
  unfold fDin
  rw [h1]
  simp only [R.bind_ok, h2]
  rw [if_pos h3]
/-! ### open places -/
def clI (a : Nat) (K : List Nat) : List Nat → List Nat
  | [] => K
  | b :: r => clI a (nadd K (th a b)) r
theorem clI_snoc (a : Nat) (b : Nat) : ∀ (R K : List Nat), clI a K (R ++ [b]) = nadd (clI a K R) (th a b)
  | [], K => rfl
  | c :: R, K => clI_snoc a b R (nadd K (th a c))
theorem mem_clI {a m : Nat} : ∀ {R K : List Nat}, m ∈ clI a K R ↔ m ∈ K ∨ ∃ b ∈ R, m = th a b
  | [], K => by simp [clI]
  | b :: R, K => by
    rw [clI, mem_clI, mem_nadd]
    simp [or_assoc]
theorem clI_nodup {a : Nat} : ∀ {R K : List Nat}, K.Nodup → (clI a K R).Nodup
  | [], K, h => h
  | b :: R, K, h => clI_nodup (R := R) (nadd_nodup h (th a b))
def ckN (L : List Nat) : Nat → List Nat
  | 0 => []
  | k + 1 => match L[k]? with
    | some a => clI a (nadd (ckN L k) a) (L.drop (k + 1))
    | none => ckN L k
theorem ckN_nodup (L : List Nat) : ∀ k, (ckN L k).Nodup
  | 0 => .nil
  | k + 1 => by
    rw [ckN]
    split
    · exact clI_nodup (nadd_nodup (ckN_nodup L k) _)
    · exact ckN_nodup L k
theorem mem_ckN {L : List Nat} {m : Nat} : ∀ {k}, m ∈ ckN L k ↔ ∃ j a, j < k ∧ L[j]? = some a ∧ (m = a ∨ ∃ b ∈ L.drop (j + 1), m = th a b)
  | 0 => by simp [ckN]
  | k + 1 => by
    rw [ckN]
    constructor
    · intro h
      split at h
      · rename_i a e
        rw [mem_clI, mem_nadd, mem_ckN] at h
        rcases h with (⟨j, x, h1, h2, h3⟩ | rfl) | h
        · exact ⟨j, x, by omega, h2, h3⟩
        · exact ⟨k, m, by omega, e, .inl rfl⟩
        · exact ⟨k, a, by omega, e, .inr h⟩
      · obtain ⟨j, x, h1, h2, h3⟩ := mem_ckN.mp h
        exact ⟨j, x, by omega, h2, h3⟩
    · rintro ⟨j, x, h1, h2, h3⟩
      by_cases e : j = k
      · subst e
        rw [h2]
        simp only [mem_clI, mem_nadd]
        rcases h3 with h3 | h3
        · exact .inl (.inr h3)
        · exact .inr h3
      · have : m ∈ ckN L k := mem_ckN.mpr ⟨j, x, by omega, h2, h3⟩
        split
        · exact mem_clI.mpr (.inl (mem_nadd.mpr (.inl this)))
        · exact this
theorem mem_ckN_all {L : List Nat} {m : Nat} : m ∈ ckN L L.length ↔ m ∈ L ∨ hitN m L = true := by
  rw [mem_ckN, hitN_iff]
  constructor
  · rintro ⟨j, a, h1, h2, rfl | h3⟩
    · exact .inl (List.mem_of_getElem? h2)
    · exact .inr ⟨j, a, h2, h3⟩
  · rintro (h | ⟨j, a, h1, h2⟩)
    · obtain ⟨j, hj⟩ := List.mem_iff_getElem?.mp h
      exact ⟨j, m, (List.getElem?_eq_some_iff.mp hj).1, hj, .inl rfl⟩
    · exact ⟨j, a, (List.getElem?_eq_some_iff.mp h1).1, h1, .inr h2⟩
def opn (s : Nat) (L : List Nat) : List Nat := (List.range (sz s)).filter fun n => !decide (n ∈ L) && !hitN n L
section
variable {s : Nat} (hs : Sz s) {L : List Nat} (hL : ∀ a ∈ L, a < sz s) (hl : L.length ≤ 500)
include hs hL
theorem ckN_lt (k : Nat) : ∀ a ∈ ckN L k, a < sz s := by
  intro a ha
  obtain ⟨j, x, _, h2, h3⟩ := mem_ckN.mp ha
  have hx := hL x (List.mem_of_getElem? h2)
  rcases h3 with rfl | ⟨b, hb, rfl⟩
  · exact hx
  · exact th_lt hs hx (hL b (List.mem_of_mem_drop hb))
theorem clI_lt {a : Nat} (ha : a < sz s) {K : List Nat} (hK : ∀ x ∈ K, x < sz s) (k R : List Nat) (hR : ∀ x ∈ R, x ∈ L) : ∀ x ∈ clI a K R, x < sz s := by
  intro x hx
  rcases mem_clI.mp hx with h | ⟨b, hb, rfl⟩
  · exact hK x h
  · exact th_lt hs ha (hL b (hR b hb))
abbrev qo (s : Nat) (L K : List Nat) (o3 o4 o5 : Option S) : Rho := [some (.d (.int s)), some (.d (st s L)), some (.m (K.map (kv s))), o3, o4, o5, none]
theorem open_l2 {k a : Nat} (hk : L[k]? = some a) {K : List Nat} (hK : ∀ x ∈ K, x < sz s) (hn : K.Nodup) {o5 : Option S} : ∃ o5', L_open_list_2 [] (qo s L K (some (.d (.int k))) (some (.d (pt s a))) o5) = .ok .nx (qo s L (clI a K (L.drop (k + 1))) (some (.d (.int k))) (some (.d (pt s a))) o5') := by
  have ha := hL a (List.mem_of_getElem? hk)
  have key : ∃ ρ', forF none [] (.n 5) (B_open_list_1 []) ((L.drop (k + 1)).map (pt s)) (qo s L K (some (.d (.int k))) (some (.d (pt s a))) o5) = .ok .nx ρ' ∧ ∃ p, ρ' = qo s L (clI a K ((L.drop (k + 1)).take (0 + ((L.drop (k + 1)).map (pt s)).length))) (some (.d (.int k))) (some (.d (pt s a))) p := by
    refine forF_inv (dep := none) (fun j ρ => ∃ p, ρ = qo s L (clI a K ((L.drop (k + 1)).take j)) (some (.d (.int k))) (some (.d (pt s a))) p) ((L.drop (k + 1)).map (pt s)) 0 _ ⟨o5, rfl⟩ (fun _ _ _ => rfl) (fun j x ρ hx hI => ?_)
    obtain ⟨p, rfl⟩ := hI
    rw [List.getElem?_map] at hx
    obtain ⟨b, hb, rfl⟩ := Option.map_eq_some_iff.mp hx
    have hb' := hL b (List.mem_of_mem_drop (List.mem_of_getElem? hb))
    have ht := th_lt hs ha hb'
    have hlt := clI_lt hs hL ha hK [] ((L.drop (k + 1)).take j) (fun x hx => List.mem_of_mem_drop (List.mem_of_mem_take hx))
    refine ⟨_, qo s L (clI a K ((L.drop (k + 1)).take (0 + j + 1))) (some (.d (.int k))) (some (.d (pt s a))) (some (.d (pt s b))), tg_n rfl, ?_, _, rfl⟩
    unfold B_open_list_1
    rw [Nat.zero_add]
    refine seqN (dsetD (v := .bool true) (x := pt s (th a b)) rfl rfl (callR (ws := [.d (pt s a), .d (pt s b)]) (third_of_spec hs ha hb') rfl rfl rfl rfl) rfl (nk_pt hs ht) ?_ ?_) rfl
    · rw [List.length_map]
      have := nodup_len hs hlt (clI_nodup hn)
      have := sz_le hs
      omega
    · rw [dput_pt hs hlt ht, List.take_add_one, hb, show (some b).toList = [b] from rfl, clI_snoc]
      rfl
  obtain ⟨ρ', h1, o5', h2⟩ := key
  refine ⟨o5', ?_⟩
  unfold L_open_list_2
  refine (fFor_of (fSrc_of (w := .d (.tuple ((L.map (pt s)).drop (k + 1)))) (xd := ((L.drop (k + 1)).map (pt s), none)) (fSl_d (x := st s L) (w := .d (st s L)) (lo := some ((k + 1 : Nat) : Int)) (hi := none) (ρ1 := qo s L K (some (.d (.int k))) (some (.d (pt s a))) o5) (ρ2 := qo s L K (some (.d (.int k))) (some (.d (pt s a))) o5) (ρ3 := qo s L K (some (.d (.int k))) (some (.d (pt s a))) o5) rfl rfl rfl rfl ?_) ?_)).trans ?_
  · exact slice_spec true _ (k + 1)
  · rw [List.map_drop]
    rfl
  · rw [List.length_map, Nat.zero_add, List.take_length] at h2
    rw [← h2]
    exact h1
include hl
theorem open_l4 : ∃ o3 o4 o5, L_open_list_4 [] (qo s L [] none none none) = .ok .nx (qo s L (ckN L L.length) o3 o4 o5) := by
  have key : ∃ ρ', forF none [] (.p 3 4) (B_open_list_3 []) (enumD 0 (L.map (pt s))) (qo s L [] none none none) = .ok .nx ρ' ∧ ∃ o3 o4 o5, ρ' = qo s L (ckN L (0 + (enumD 0 (L.map (pt s))).length)) o3 o4 o5 := by
    refine forF_inv (dep := none) (fun j ρ => ∃ o3 o4 o5, ρ = qo s L (ckN L j) o3 o4 o5) (enumD 0 (L.map (pt s))) 0 _ ⟨none, none, none, rfl⟩ (fun _ _ _ => rfl) (fun j x ρ hx hI => ?_)
    obtain ⟨o3, o4, o5, rfl⟩ := hI
    obtain ⟨y, hy, rfl⟩ := enumD_get hx
    rw [List.getElem?_map] at hy
    obtain ⟨a, ha, rfl⟩ := Option.map_eq_some_iff.mp hy
    have ha' := hL a (List.mem_of_getElem? ha)
    obtain ⟨o5', e⟩ := open_l2 hs hL ha (K := nadd (ckN L j) a) (nadd_lt (ckN_lt hs hL j) ha') (nadd_nodup (ckN_nodup L j) a) (o5 := o5)
    rw [Nat.zero_add]
    refine ⟨qo s L (ckN L j) (some (.d (.int j))) (some (.d (pt s a))) o5, qo s L (ckN L (j + 1)) (some (.d (.int j))) (some (.d (pt s a))) o5', rfl, ?_, _, _, _, rfl⟩
    unfold B_open_list_3
    refine seqN (ρ1 := qo s L (nadd (ckN L j) a) (some (.d (.int j))) (some (.d (pt s a))) o5) (dsetD (v := .bool true) (x := pt s a) rfl rfl rfl rfl (nk_pt hs ha') ?_ ?_) (seqN ?_ rfl)
    · rw [List.length_map]
      have := nodup_len hs (ckN_lt hs hL j) (ckN_nodup L j)
      have := sz_le hs
      omega
    · rw [dput_pt hs (ckN_lt hs hL j) ha']
      rfl
    · rw [e, ckN, ha]
  obtain ⟨ρ', h1, o3, o4, o5, h2⟩ := key
  refine ⟨o3, o4, o5, ?_⟩
  unfold L_open_list_4
  refine (fFor_of (fSrcs_of (ws := [.d (st s L)]) rfl rfl)).trans ?_
  rw [enumD_length, List.length_map, Nat.zero_add] at h2
  rw [← h2]
  exact h1
theorem open_list_spec : m_open_list [.d (.int s), .d (st s L)] = .ret (.d (.list ((opn s L).map (pt s)))) [.d (.int s), .d (st s L)] := by
  obtain ⟨o3, o4, o5, e⟩ := open_l4 hs hL hl
  have hz := sz_le hs
  have c0 : C_open_list_0 (qo s L (ckN L L.length) o3 o4 o5) = .ok (.d (.list ((opn s L).map (pt s)))) (qo s L (ckN L L.length) o3 o4 o5) := by
    refine fLc_c (pt s) (xs := List.range (sz s)) (fun n => !decide (n ∈ L) && !hitN n L) (pt s) (ρ1 := qo s L (ckN L L.length) o3 o4 o5) (dep := none) (fSrc_of (callR (ws := [.d (.int s)]) (all_places_spec hs) rfl rfl rfl rfl) rfl) (by rw [List.length_range]; omega) (by simp) rfl rfl (fun n hn => ?_) (fun n _ _ => rfl)
    have hn' := List.mem_range.mp hn
    refine (asB_b (dinD (x := pt s n) (kvs := (ckN L L.length).map (kv s)) rfl rfl (nk_pt hs hn'))).trans ?_
    congr 1
    rw [if_pos rfl, dhas_pt hs (ckN_lt hs hL _) hn']
    have := mem_ckN_all (L := L) (m := n)
    by_cases h1 : n ∈ L <;> cases h2 : hitN n L <;> simp [this, h1, h2]
  refine runR (qo s L (ckN L L.length) o3 o4 o5) ?_ rfl
  show b_open_list [] [some (.d (.int s)), some (.d (st s L)), none, none, none, none, none] = _
  unfold b_open_list
  refine seqN (ρ1 := qo s L [] none none none) rfl (seqN e (seqR ?_))
  exact fRet_d c0
end
end FL

namespace FL
open PySem L2
/-! ### rows by all triples -/
def rI (a b : Nat) (R : List Nat) : List (Nat × Nat × Nat) := (R.filter fun c => decide (c = th a b)).map fun c => (a, b, c)
def rJ (a : Nat) : Nat → List Nat → List (Nat × Nat × Nat)
  | 0, _ => []
  | _ + 1, [] => []
  | j + 1, b :: r => rI a b r ++ rJ a j r
def rG : Nat → List Nat → List (Nat × Nat × Nat)
  | 0, _ => []
  | _ + 1, [] => []
  | k + 1, a :: r => rJ a r.length r ++ rG k r
theorem rI_len (a b : Nat) (R : List Nat) : (rI a b R).length ≤ R.length := by
  unfold rI
  rw [List.length_map]
  exact List.length_filter_le _ _
theorem rI_snoc (a b c : Nat) (R : List Nat) : rI a b (R ++ [c]) = rI a b R ++ (if c = th a b then [(a, b, c)] else []) := by
  unfold rI
  rw [List.filter_append, List.map_append]
  congr 1
  by_cases h : c = th a b <;> simp [h]
theorem rJ_succ (a : Nat) : ∀ (j : Nat) (r : List Nat) (b : Nat), r[j]? = some b → rJ a (j + 1) r = rJ a j r ++ rI a b (r.drop (j + 1))
  | _, [], _, h => by simp at h
  | 0, c :: r, b, h => by simp at h; subst h; simp [rJ]
  | j + 1, c :: r, b, h => by
    rw [rJ, rJ_succ a j r b (by simpa using h), rJ]
    simp
theorem rJ_len (a : Nat) : ∀ (j : Nat) (r : List Nat), (rJ a j r).length ≤ j * r.length
  | 0, _ => by simp [rJ]
  | _ + 1, [] => by simp [rJ]
  | j + 1, c :: r => by
    rw [rJ, List.length_append, List.length_cons]
    have h1 := rI_len a c r
    have h2 := rJ_len a j r
    have h3 : j * r.length ≤ j * (r.length + 1) := Nat.mul_le_mul_left j (Nat.le_succ _)
    rw [Nat.succ_mul]
    omega
theorem rG_succ : ∀ (k : Nat) (r : List Nat) (a : Nat), r[k]? = some a → rG (k + 1) r = rG k r ++ rJ a (r.drop (k + 1)).length (r.drop (k + 1))
  | _, [], _, h => by simp at h
  | 0, c :: r, b, h => by simp at h; subst h; simp [rG]
  | k + 1, c :: r, b, h => by
    rw [rG, rG_succ k r b (by simpa using h), rG]
    simp
theorem rG_len : ∀ (k : Nat) (r : List Nat), (rG k r).length ≤ k * (r.length * r.length)
  | 0, _ => by simp [rG]
  | _ + 1, [] => by simp [rG]
  | k + 1, c :: r => by
    rw [rG, List.length_append, List.length_cons]
    have h1 := rJ_len c r.length r
    have h2 := rG_len k r
    have h0 : r.length * r.length ≤ (r.length + 1) * (r.length + 1) := Nat.mul_le_mul (Nat.le_succ _) (Nat.le_succ _)
    have h3 := Nat.mul_le_mul_left k h0
    rw [Nat.succ_mul]
    omega
abbrev qr (t : Bool) (s : Nat) (L : List Nat) (F : List D) (o2 o3 o4 o5 o6 : Option S) : Rho := [some (.d (sq t (L.map (pt s)))), some (.l F), o2, o3, o4, o5, o6]
abbrev RB3 : List Nat → Rho → R Fl := fun P => (fSeq (fIfS (asB (fCall m__law_rowed (fCons (fVar 3) (fCons (fVar 5) (fCons (fVar 6) fNil))))) (fSeq (fDrop (fApp 1 (fCons (fTup (fCons (fVar 3) (fCons (fVar 5) (fCons (fVar 6) fNil)))) fNil))) fNext) fNext) fNext)
abbrev RL3 : List Nat → Rho → R Fl := fun P => (fFor (fSrc (fSl (fVar 0) (fPart (fBin addD (fBin addD (fVar 2) (fVar 4)) (fD (.int 2)))) fNoPart)) (.n 6) RB3 P)
abbrev RB2 : List Nat → Rho → R Fl := fun P => (fSeq (RL3 P) fNext)
abbrev RL2 : List Nat → Rho → R Fl := fun P => (fFor (fSrcs enumOf (fCons (fSl (fVar 0) (fPart (fBin addD (fVar 2) (fD (.int 1)))) fNoPart) fNil)) (.p 4 5) RB2 P)
abbrev RB1 : List Nat → Rho → R Fl := fun P => (fSeq (RL2 P) fNext)
abbrev RL1 : List Nat → Rho → R Fl := fun P => (fFor (fSrcs enumOf (fCons (fVar 0) fNil)) (.p 2 3) RB1 P)
section
variable {s : Nat} (hs : Sz s) {t : Bool} {L : List Nat} (hL : ∀ a ∈ L, a < sz s) (hl : L.length ≤ 60)
include hs hL hl
theorem rows_l3 {k j a b : Nat} (hka : a ∈ L) (hjb : b ∈ L) {F : List D} (hF : F.length ≤ 900000) {o6 : Option S} : ∃ o6', RL3 [] (qr t s L F (some (.d (.int k))) (some (.d (pt s a))) (some (.d (.int j))) (some (.d (pt s b))) o6) = .ok .nx (qr t s L (F ++ (rI a b (L.drop (k + j + 2))).map (tri s)) (some (.d (.int k))) (some (.d (pt s a))) (some (.d (.int j))) (some (.d (pt s b))) o6') := by
  let M := L.drop (k + j + 2)
  have hM : M.length ≤ 60 := by
    show (L.drop (k + j + 2)).length ≤ 60
    rw [List.length_drop]; omega
  have key : ∃ ρ', forF none [] (.n 6) (RB3 []) (M.map (pt s)) (qr t s L F (some (.d (.int k))) (some (.d (pt s a))) (some (.d (.int j))) (some (.d (pt s b))) o6) = .ok .nx ρ' ∧ ∃ p, ρ' = qr t s L (F ++ (rI a b (M.take (0 + (M.map (pt s)).length))).map (tri s)) (some (.d (.int k))) (some (.d (pt s a))) (some (.d (.int j))) (some (.d (pt s b))) p := by
    refine forF_inv (dep := none) (fun i ρ => ∃ p, ρ = qr t s L (F ++ (rI a b (M.take i)).map (tri s)) (some (.d (.int k))) (some (.d (pt s a))) (some (.d (.int j))) (some (.d (pt s b))) p) (M.map (pt s)) 0 _ ⟨o6, by simp [rI]⟩ (fun _ _ _ => rfl) (fun i x ρ hx hI => ?_)
    obtain ⟨p, rfl⟩ := hI
    rw [List.getElem?_map] at hx
    obtain ⟨c, hc, rfl⟩ := Option.map_eq_some_iff.mp hx
    have hc' := hL c (List.mem_of_mem_drop (List.mem_of_getElem? hc))
    rw [Nat.zero_add]
    have hr : rowS s a b c = decide (c = th a b) := row_eq hs (hL a hka) (hL b hjb) hc'
    have ext : rI a b (M.take (i + 1)) = rI a b (M.take i) ++ (if c = th a b then [(a, b, c)] else []) := by
      rw [List.take_add_one, hc]
      exact rI_snoc a b c _
    have tst : asB (fCall m__law_rowed (fCons (fVar 3) (fCons (fVar 5) (fCons (fVar 6) fNil)))) (qr t s L (F ++ (rI a b (M.take i)).map (tri s)) (some (.d (.int k))) (some (.d (pt s a))) (some (.d (.int j))) (some (.d (pt s b))) (some (.d (pt s c)))) = .ok (decide (c = th a b)) (qr t s L (F ++ (rI a b (M.take i)).map (tri s)) (some (.d (.int k))) (some (.d (pt s a))) (some (.d (.int j))) (some (.d (pt s b))) (some (.d (pt s c)))) := by
      rw [← hr]
      exact asB_b (callR (rowed_pt hs a b c) rfl rfl rfl rfl)
    refine ⟨_, qr t s L (F ++ (rI a b (M.take (i + 1))).map (tri s)) (some (.d (.int k))) (some (.d (pt s a))) (some (.d (.int j))) (some (.d (pt s b))) (some (.d (pt s c))), tg_n rfl, ?_, _, rfl⟩
    rw [ext]
    by_cases h : c = th a b
    · rw [decide_eq_true h] at tst
      rw [if_pos h, List.map_append, ← List.append_assoc]
      refine seqN (ifT tst (seqN (appD (x := tri s (a, b, c)) (xs0 := F ++ (rI a b (M.take i)).map (tri s)) (xs := F ++ (rI a b (M.take i)).map (tri s)) rfl rfl rfl ?_ rfl) rfl)) rfl
      rw [List.length_append, List.length_map]
      have := rI_len a b (M.take i)
      rw [List.length_take] at this
      omega
    · rw [decide_eq_false h] at tst
      rw [if_neg h, List.append_nil]
      exact seqN (ifF tst rfl) rfl
  obtain ⟨ρ', h1, o6', h2⟩ := key
  refine ⟨o6', ?_⟩
  have e2 : ((k : Int) + (j : Int)) + 2 = ((k + j + 2 : Nat) : Int) := by omega
  unfold RL3
  refine (fFor_of (fSrc_of (w := .d (sq t ((L.map (pt s)).drop (k + j + 2)))) (xd := (M.map (pt s), none)) (fSl_d (x := sq t (L.map (pt s))) (w := .d (sq t (L.map (pt s)))) (lo := some (((k : Int) + (j : Int)) + 2)) (hi := none) (ρ1 := qr t s L F (some (.d (.int k))) (some (.d (pt s a))) (some (.d (.int j))) (some (.d (pt s b))) o6) (ρ2 := qr t s L F (some (.d (.int k))) (some (.d (pt s a))) (some (.d (.int j))) (some (.d (pt s b))) o6) (ρ3 := qr t s L F (some (.d (.int k))) (some (.d (pt s a))) (some (.d (.int j))) (some (.d (pt s b))) o6) rfl rfl rfl rfl ?_) ?_)).trans ?_
  · rw [e2]
    exact slice_spec t _ (k + j + 2)
  · rw [← List.map_drop]
    cases t <;> rfl
  · rw [List.length_map, Nat.zero_add, List.take_length] at h2
    rw [← h2]
    exact h1
theorem rows_l2 {k a : Nat} (hk : L[k]? = some a) {F : List D} (hF : F.length ≤ 800000) {o4 o5 o6 : Option S} : ∃ o4' o5' o6', RL2 [] (qr t s L F (some (.d (.int k))) (some (.d (pt s a))) o4 o5 o6) = .ok .nx (qr t s L (F ++ (rJ a (L.drop (k + 1)).length (L.drop (k + 1))).map (tri s)) (some (.d (.int k))) (some (.d (pt s a))) o4' o5' o6') := by
  have hka := List.mem_of_getElem? hk
  let M := L.drop (k + 1)
  have hM : M.length ≤ 60 := by
    show (L.drop (k + 1)).length ≤ 60
    rw [List.length_drop]; omega
  have key : ∃ ρ', forF none [] (.p 4 5) (RB2 []) (enumD 0 (M.map (pt s))) (qr t s L F (some (.d (.int k))) (some (.d (pt s a))) o4 o5 o6) = .ok .nx ρ' ∧ ∃ p q r, ρ' = qr t s L (F ++ (rJ a (0 + (enumD 0 (M.map (pt s))).length) M).map (tri s)) (some (.d (.int k))) (some (.d (pt s a))) p q r := by
    refine forF_inv (dep := none) (fun i ρ => ∃ p q r, ρ = qr t s L (F ++ (rJ a i M).map (tri s)) (some (.d (.int k))) (some (.d (pt s a))) p q r) (enumD 0 (M.map (pt s))) 0 _ ⟨o4, o5, o6, by simp [rJ]⟩ (fun _ _ _ => rfl) (fun i x ρ hx hI => ?_)
    obtain ⟨p, q, r, rfl⟩ := hI
    obtain ⟨y, hy, rfl⟩ := enumD_get hx
    rw [List.getElem?_map] at hy
    obtain ⟨b, hb, rfl⟩ := Option.map_eq_some_iff.mp hy
    rw [Nat.zero_add]
    have hbm : b ∈ L := List.mem_of_mem_drop (List.mem_of_getElem? hb)
    have hi : i < M.length := (List.getElem?_eq_some_iff.mp hb).1
    have bnd : (F ++ (rJ a i M).map (tri s)).length ≤ 900000 := by
      rw [List.length_append, List.length_map]
      have h1 := rJ_len a i M
      have h2 : i * M.length ≤ 60 * 60 := Nat.mul_le_mul (by omega) hM
      omega
    obtain ⟨o6', e⟩ := rows_l3 hs hL hl (t := t) (k := k) (j := i) hka hbm bnd (o6 := r)
    refine ⟨qr t s L (F ++ (rJ a i M).map (tri s)) (some (.d (.int k))) (some (.d (pt s a))) (some (.d (.int i))) (some (.d (pt s b))) r, qr t s L (F ++ (rJ a (i + 1) M).map (tri s)) (some (.d (.int k))) (some (.d (pt s a))) (some (.d (.int i))) (some (.d (pt s b))) o6', rfl, seqN (e.trans ?_) rfl, _, _, _, rfl⟩
    have ed : L.drop (k + i + 2) = M.drop (i + 1) := by
      show _ = (L.drop (k + 1)).drop (i + 1)
      rw [List.drop_drop]
      congr 1
      omega
    rw [ed, rJ_succ a i M b hb, List.map_append, List.append_assoc]
  obtain ⟨ρ', h1, o4', o5', o6', h2⟩ := key
  refine ⟨o4', o5', o6', ?_⟩
  unfold RL2
  refine (fFor_of (fSrcs_of (ws := [.d (sq t ((L.map (pt s)).drop (k + 1)))]) (xd := (enumD 0 (M.map (pt s)), none)) (ρ1 := qr t s L F (some (.d (.int k))) (some (.d (pt s a))) o4 o5 o6) (fCons_of (fSl_d (x := sq t (L.map (pt s))) (w := .d (sq t (L.map (pt s)))) (lo := some ((k + 1 : Nat) : Int)) (hi := none) (ρ1 := qr t s L F (some (.d (.int k))) (some (.d (pt s a))) o4 o5 o6) (ρ2 := qr t s L F (some (.d (.int k))) (some (.d (pt s a))) o4 o5 o6) (ρ3 := qr t s L F (some (.d (.int k))) (some (.d (pt s a))) o4 o5 o6) rfl rfl rfl rfl ?_) rfl) ?_)).trans ?_
  · exact slice_spec t _ (k + 1)
  · rw [← List.map_drop]
    cases t <;> rfl
  · rw [enumD_length, List.length_map, Nat.zero_add] at h2
    rw [← h2]
    exact h1
theorem rows_in_raw : m__law_rows_in [.d (sq t (L.map (pt s)))] = .ret (.d (.list ((rG L.length L).map (tri s)))) [.d (sq t (L.map (pt s)))] := by
  have key : ∃ ρ', forF none [] (.p 2 3) (RB1 []) (enumD 0 (L.map (pt s))) (qr t s L [] none none none none none) = .ok .nx ρ' ∧ ∃ o p q r u, ρ' = qr t s L ((rG (0 + (enumD 0 (L.map (pt s))).length) L).map (tri s)) o p q r u := by
    refine forF_inv (dep := none) (fun i ρ => ∃ o p q r u, ρ = qr t s L ((rG i L).map (tri s)) o p q r u) (enumD 0 (L.map (pt s))) 0 _ ⟨none, none, none, none, none, rfl⟩ (fun _ _ _ => rfl) (fun i x ρ hx hI => ?_)
    obtain ⟨o, p, q, r, u, rfl⟩ := hI
    obtain ⟨y, hy, rfl⟩ := enumD_get hx
    rw [List.getElem?_map] at hy
    obtain ⟨a, ha, rfl⟩ := Option.map_eq_some_iff.mp hy
    rw [Nat.zero_add]
    have hi : i < L.length := (List.getElem?_eq_some_iff.mp ha).1
    have bnd : ((rG i L).map (tri s)).length ≤ 800000 := by
      rw [List.length_map]
      have h1 := rG_len i L
      have h2 : i * (L.length * L.length) ≤ 60 * (60 * 60) := Nat.mul_le_mul (by omega) (Nat.mul_le_mul hl hl)
      omega
    obtain ⟨o4, o5, o6, e⟩ := rows_l2 hs hL hl (t := t) ha bnd (o4 := q) (o5 := r) (o6 := u)
    refine ⟨qr t s L ((rG i L).map (tri s)) (some (.d (.int i))) (some (.d (pt s a))) q r u, qr t s L ((rG (i + 1) L).map (tri s)) (some (.d (.int i))) (some (.d (pt s a))) o4 o5 o6, rfl, seqN (e.trans ?_) rfl, _, _, _, _, _, rfl⟩
    rw [rG_succ i L a ha, List.map_append]
  obtain ⟨ρ', h1, o, p, q, r, u, h2⟩ := key
  rw [enumD_length, List.length_map, Nat.zero_add] at h2
  subst h2
  refine runR [some (.d (sq t (L.map (pt s)))), some (.d (.list ((rG L.length L).map (tri s)))), o, p, q, r, u] ?_ rfl
  show b__law_rows_in [] [some (.d (sq t (L.map (pt s)))), none, none, none, none, none, none] = _
  have e : RL1 [] (qr t s L [] none none none none none) = .ok .nx (qr t s L ((rG L.length L).map (tri s)) o p q r u) := by
    unfold RL1
    exact (fFor_of (fSrcs_of (ws := [.d (sq t (L.map (pt s)))]) rfl (by cases t <;> rfl))).trans h1
  unfold b__law_rows_in
  exact seqN (ρ1 := qr t s L [] none none none none none) rfl (seqN e (seqR rfl))
end
theorem ite_iff {α : Type} {p q : Prop} [Decidable p] [Decidable q] (h : p ↔ q) (x y : α) : (if p then x else y) = if q then x else y := by
  by_cases hp : p
  · rw [if_pos hp, if_pos (h.mp hp)]
  · rw [if_neg hp, if_neg fun hq => hp (h.mpr hq)]
/-- of rising places: the lines -/
theorem rI_ll {L : List Nat} {a b : Nat} {r pre : List Nat} (hL : L.Pairwise (· < ·)) (e : L = pre ++ b :: r) : rI a b r = if b < th a b ∧ th a b ∈ L then [(a, b, th a b)] else [] := by
  subst e
  rw [List.pairwise_append] at hL
  obtain ⟨_, h2, h3⟩ := hL
  rw [List.pairwise_cons] at h2
  have iff : (b < th a b ∧ th a b ∈ pre ++ b :: r) ↔ th a b ∈ r := by
    constructor
    · rintro ⟨h, hm⟩
      rcases List.mem_append.mp hm with h4 | h4
      · have := h3 _ h4 b (.head _)
        omega
      · rcases List.mem_cons.mp h4 with h5 | h5
        · omega
        · exact h5
    · intro h
      exact ⟨h2.1 _ h, List.mem_append.mpr (.inr (.tail _ h))⟩
  rw [ite_iff iff]
  unfold rI
  have hn : r.Nodup := h2.2.imp fun h => Nat.ne_of_lt h
  clear iff h3 h2
  induction r with
  | nil => rfl
  | cons c r ih =>
    rw [List.nodup_cons] at hn
    rw [List.filter_cons]
    by_cases h : c = th a b
    · have hr : ¬ th a b ∈ r := h ▸ hn.1
      have := ih hn.2
      rw [if_neg hr] at this
      rw [if_pos (decide_eq_true h), List.map_cons, this, if_pos (by rw [← h]; exact .head _), h]
    · rw [if_neg (by simpa using h), ih hn.2]
      refine ite_iff ?_ _ _
      constructor
      · exact fun h => .tail _ h
      · intro h4
        rcases List.mem_cons.mp h4 with h5 | h5
        · exact absurd h5.symm h
        · exact h5
theorem rJ_ll {L : List Nat} (hL : L.Pairwise (· < ·)) (a : Nat) : ∀ (r pre : List Nat), L = pre ++ r → rJ a r.length r = llI L a r
  | [], _, _ => rfl
  | b :: r, pre, e => by
    rw [List.length_cons, rJ, llI, rI_ll hL e, rJ_ll hL a r (pre ++ [b]) (by rw [e]; simp)]
theorem rG_ll {L : List Nat} (hL : L.Pairwise (· < ·)) : ∀ (r pre : List Nat), L = pre ++ r → rG r.length r = llG L r
  | [], _, _ => rfl
  | b :: r, pre, e => by
    rw [List.length_cons, rG, llG, rJ_ll hL b r (pre ++ [b]) (by rw [e]; simp), rG_ll hL r (pre ++ [b]) (by rw [e]; simp)]
theorem rows_in_spec {s : Nat} (hs : Sz s) {t : Bool} {L : List Nat} (hL : OkSet s L) : m__law_rows_in [.d (sq t (L.map (pt s)))] = .ret (.d (.list ((ll L).map (tri s)))) [.d (sq t (L.map (pt s)))] := by
  have hl : L.length ≤ 60 := Nat.le_trans hL.len (Nat.le_trans (sz_le hs) (by decide))
  rw [rows_in_raw hs hL.lt hl, rG_ll hL.srt L [] rfl]
  rfl
end FL

namespace FL
open PySem L2
/-! ### free sets, grown -/
theorem srtN_uniq : ∀ {A B : List Nat}, A.Pairwise (· < ·) → B.Pairwise (· < ·) → (∀ x, x ∈ A ↔ x ∈ B) → A = B
  | [], [], _, _, _ => rfl
  | [], b :: B, _, _, hm => absurd ((hm b).mpr List.mem_cons_self) (by simp)
  | a :: A, [], _, _, hm => absurd ((hm a).mp List.mem_cons_self) (by simp)
  | a :: A, b :: B, hA, hB, hm => by
    rw [List.pairwise_cons] at hA hB
    have hab : a = b := by
      rcases List.mem_cons.mp ((hm a).mp List.mem_cons_self) with e | hb
      · exact e
      · rcases List.mem_cons.mp ((hm b).mpr List.mem_cons_self) with e | ha
        · exact e.symm
        · have := hA.1 b ha; have := hB.1 a hb; omega
    subst hab
    rw [srtN_uniq hA.2 hB.2 fun x => ?_]
    constructor
    · intro hx
      rcases List.mem_cons.mp ((hm x).mp (List.mem_cons_of_mem _ hx)) with e | h'
      · have := hA.1 x hx; omega
      · exact h'
    · intro hx
      rcases List.mem_cons.mp ((hm x).mpr (List.mem_cons_of_mem _ hx)) with e | h'
      · have := hB.1 x hx; omega
      · exact h'
theorem srt_nodup {L : List Nat} (h : L.Pairwise (· < ·)) : L.Nodup := h.imp fun h => Nat.ne_of_lt h
/-- hits, whatever the order -/
theorem hitN_nodup {s : Nat} (hs : Sz s) {L : List Nat} (hL : ∀ a ∈ L, a < sz s) (hn : L.Nodup) {c : Nat} : hitN c L = true ↔ ∃ a ∈ L, ∃ b ∈ L, a ≠ b ∧ c = th a b := by
  rw [hitN_iff]
  constructor
  · rintro ⟨j, a, h1, b, h2, h3⟩
    refine ⟨a, List.mem_of_getElem? h1, b, List.mem_of_mem_drop h2, ?_, h3⟩
    rintro rfl
    obtain ⟨i, hi⟩ := List.mem_iff_getElem?.mp h2
    rw [List.getElem?_drop] at hi
    obtain ⟨hj, ej⟩ := List.getElem?_eq_some_iff.mp h1
    obtain ⟨hk, ek⟩ := List.getElem?_eq_some_iff.mp hi
    exact List.pairwise_iff_getElem.mp hn j (j + 1 + i) hj hk (by omega) (ej.trans ek.symm)
  · rintro ⟨a, ha, b, hb, hab, e⟩
    obtain ⟨i, hi⟩ := List.mem_iff_getElem?.mp ha
    obtain ⟨j, hj⟩ := List.mem_iff_getElem?.mp hb
    have hij : i ≠ j := by
      rintro rfl
      rw [hi] at hj
      cases hj
      exact hab rfl
    rcases Nat.lt_or_gt_of_ne hij with h | h
    · refine ⟨i, a, hi, b, ?_, e⟩
      refine List.mem_iff_getElem?.mpr ⟨j - (i + 1), ?_⟩
      rw [List.getElem?_drop, ← hj]
      congr 1
      omega
    · refine ⟨j, b, hj, a, ?_, ?_⟩
      · refine List.mem_iff_getElem?.mpr ⟨i - (j + 1), ?_⟩
        rw [List.getElem?_drop, ← hi]
        congr 1
        omega
      · rw [e, (th_facts hs (hL a ha) (hL b hb)).2.1]
/-- a line: rising, its last place the third one -/
theorem llI_mem {L : List Nat} {a : Nat} : ∀ {R : List Nat} {t : Nat × Nat × Nat}, t ∈ llI L a R → t.1 = a ∧ t.2.1 ∈ R ∧ t.2.2 = th a t.2.1 ∧ t.2.1 < t.2.2 ∧ t.2.2 ∈ L
  | [], _, h => by cases h
  | b :: R, t, h => by
    rw [llI] at h
    rcases List.mem_append.mp h with h | h
    · split at h
      · rename_i hc
        rw [List.mem_singleton] at h
        subst h
        exact ⟨rfl, .head _, rfl, hc.1, hc.2⟩
      · cases h
    · obtain ⟨h1, h2, h3⟩ := llI_mem h
      exact ⟨h1, .tail _ h2, h3⟩
theorem llI_in {L : List Nat} {a b : Nat} : ∀ {R : List Nat}, b ∈ R → b < th a b → th a b ∈ L → (a, b, th a b) ∈ llI L a R
  | c :: R, h, h1, h2 => by
    rw [llI]
    rcases List.mem_cons.mp h with rfl | h
    · rw [if_pos ⟨h1, h2⟩]
      exact List.mem_append.mpr (.inl (.head _))
    · exact List.mem_append.mpr (.inr (llI_in h h1 h2))
theorem llG_mem {L : List Nat} : ∀ {R : List Nat} {t : Nat × Nat × Nat}, R.Pairwise (· < ·) → t ∈ llG L R → t.1 ∈ R ∧ t.2.1 ∈ R ∧ t.1 < t.2.1 ∧ t.2.2 = th t.1 t.2.1 ∧ t.2.1 < t.2.2 ∧ t.2.2 ∈ L
  | [], _, _, h => by cases h
  | a :: R, t, hs, h => by
    rw [llG] at h
    rw [List.pairwise_cons] at hs
    rcases List.mem_append.mp h with h | h
    · obtain ⟨h1, h2, h3, h4, h5⟩ := llI_mem h
      rw [h1]
      exact ⟨.head _, .tail _ h2, hs.1 _ h2, h3, h4, h5⟩
    · obtain ⟨h1, h2, h3⟩ := llG_mem hs.2 h
      exact ⟨.tail _ h1, .tail _ h2, h3⟩
theorem llG_in {L : List Nat} {a b : Nat} : ∀ {R : List Nat}, R.Pairwise (· < ·) → a ∈ R → b ∈ R → a < b → b < th a b → th a b ∈ L → (a, b, th a b) ∈ llG L R
  | c :: R, hs, ha, hb, hab, h1, h2 => by
    rw [llG]
    rw [List.pairwise_cons] at hs
    rcases List.mem_cons.mp ha with rfl | ha'
    · rcases List.mem_cons.mp hb with rfl | hb'
      · omega
      · exact List.mem_append.mpr (.inl (llI_in hb' h1 h2))
    · rcases List.mem_cons.mp hb with rfl | hb'
      · have := hs.1 a ha'; omega
      · exact List.mem_append.mpr (.inr (llG_in hs.2 ha' hb' hab h1 h2))
section
variable {s : Nat} (hs : Sz s) {L : List Nat} (hL : OkSet s L)
include hs hL
/-- free: no three different places with the third one -/
theorem free_iff : ll L = [] ↔ ∀ a ∈ L, ∀ b ∈ L, a ≠ b → th a b ∉ L := by
  constructor
  · intro h a ha b hb hab hc
    have key : ∀ x y z, x ∈ L → y ∈ L → z ∈ L → x < y → y < z → z = th x y → False := by
      intro x y z hx hy hz h1 h2 h3
      subst h3
      have := llG_in (L := L) hL.srt hx hy h1 h2 hz
      have e : llG L L = [] := h
      rw [e] at this
      cases this
    have f := th_facts hs (hL.lt a ha) (hL.lt b hb)
    have f2 := th_facts hs (hL.lt b hb) (hL.lt a ha)
    have g1 : th a (th a b) = b := f.2.2.1
    have g2 : th b (th a b) = a := by rw [f.2.1]; exact f2.2.2.1
    have sy1 := (th_facts hs (hL.lt a ha) (hL.lt _ hc)).2.1
    have sy2 := (th_facts hs (hL.lt b hb) (hL.lt _ hc)).2.1
    obtain ⟨n1, n2⟩ : th a b ≠ a ∧ th a b ≠ b := by
      rcases f.2.2.2 with e | e
      · exact absurd e hab
      · exact e
    rcases Nat.lt_trichotomy a b with h1 | h1 | h1
    · rcases Nat.lt_trichotomy b (th a b) with h2 | h2 | h2
      · exact key a b _ ha hb hc h1 h2 rfl
      · exact n2 h2.symm
      · rcases Nat.lt_trichotomy a (th a b) with h3 | h3 | h3
        · exact key a _ b ha hc hb h3 h2 g1.symm
        · exact n1 h3.symm
        · exact key _ a b hc ha hb h3 h1 (by rw [← sy1, g1])
    · exact hab h1
    · rcases Nat.lt_trichotomy a (th a b) with h2 | h2 | h2
      · exact key b a _ hb ha hc h1 h2 (by rw [f.2.1])
      · exact n1 h2.symm
      · rcases Nat.lt_trichotomy b (th a b) with h3 | h3 | h3
        · exact key b _ a hb hc ha h3 h2 g2.symm
        · exact n2 h3.symm
        · exact key _ b a hc hb ha h3 h1 (by rw [← sy2, g2])
  · intro h
    cases e : ll L with
    | nil => rfl
    | cons t r =>
      have hm : t ∈ llG L L := by
        show t ∈ ll L
        rw [e]
        exact .head _
      obtain ⟨h1, h2, h3, h4, h5, h6⟩ := llG_mem hL.srt hm
      exact absurd (h4 ▸ h6) (h _ h1 _ h2 (Nat.ne_of_lt h3))
theorem mem_opn {n : Nat} : n ∈ opn s L ↔ n < sz s ∧ n ∉ L ∧ ∀ a ∈ L, ∀ b ∈ L, a ≠ b → n ≠ th a b := by
  unfold opn
  rw [List.mem_filter, List.mem_range, Bool.and_eq_true]
  have hh := hitN_nodup hs hL.lt (srt_nodup hL.srt) (c := n)
  constructor
  · rintro ⟨h1, h2, h3⟩
    refine ⟨h1, by simpa using h2, fun a ha b hb hab e => ?_⟩
    rw [hh.mpr ⟨a, ha, b, hb, hab, e⟩] at h3
    cases h3
  · rintro ⟨h1, h2, h3⟩
    refine ⟨h1, by simpa using h2, ?_⟩
    rw [Bool.not_eq_true', Bool.eq_false_iff]
    intro ht
    obtain ⟨a, ha, b, hb, hab, e⟩ := hh.mp ht
    exact h3 a ha b hb hab e
theorem opn_srt : (opn s L).Pairwise (· < ·) := List.Pairwise.filter _ List.pairwise_lt_range
/-- with a new place -/
theorem nsort_ok {n : Nat} (h1 : n < sz s) (h2 : n ∉ L) : OkSet s (nsort (L ++ [n])) := by
  refine ⟨?_, fun a ha => ?_⟩
  · have p := nsort_perm (L ++ [n])
    have hn : (L ++ [n]).Nodup := by
      rw [List.nodup_append]
      exact ⟨srt_nodup hL.srt, by simp, fun a ha b hb e => h2 (by simp at hb; subst hb; subst e; exact ha)⟩
    have hn2 : (nsort (L ++ [n])).Nodup := p.nodup_iff.mpr hn
    have hle := nsort_srt (L ++ [n])
    exact (List.pairwise_and_iff.mpr ⟨hle, hn2⟩).imp fun h => Nat.lt_of_le_of_ne h.1 h.2
  · rcases List.mem_append.mp ((nsort_perm _).mem_iff.mp ha) with h | h
    · exact hL.lt a h
    · simp at h; subst h; exact h1
theorem mem_new {n m : Nat} : m ∈ nsort (L ++ [n]) ↔ m ∈ L ∨ m = n := by
  rw [(nsort_perm _).mem_iff, List.mem_append, List.mem_singleton]
theorem len_new {n : Nat} : (nsort (L ++ [n])).length = L.length + 1 := by
  rw [(nsort_perm _).length_eq, List.length_append]
  rfl
theorem free_new (hf : ll L = []) {n : Nat} (hn : n ∈ opn s L) : OkSet s (nsort (L ++ [n])) ∧ ll (nsort (L ++ [n])) = [] := by
  obtain ⟨h1, h2, h3⟩ := (mem_opn hs hL).mp hn
  have ok := nsort_ok hs hL h1 h2
  refine ⟨ok, (free_iff hs ok).mpr fun a ha b hb hab hc => ?_⟩
  have hf' := (free_iff hs hL).mp hf
  have f := th_facts hs (ok.lt a ha) (ok.lt b hb)
  have f2 := th_facts hs (ok.lt b hb) (ok.lt a ha)
  rcases (mem_new hs hL).mp ha with ha' | rfl
  · rcases (mem_new hs hL).mp hb with hb' | rfl
    · rcases (mem_new hs hL).mp hc with hc' | hc'
      · exact hf' a ha' b hb' hab hc'
      · exact h3 a ha' b hb' hab hc'.symm
    · rcases (mem_new hs hL).mp hc with hc' | hc'
      · refine h3 a ha' _ hc' (fun e => ?_) f.2.2.1.symm
        rcases f.2.2.2 with z | z
        · exact hab z
        · exact z.1 e.symm
      · rcases f.2.2.2 with z | z
        · exact hab z
        · exact z.2 hc'
  · rcases (mem_new hs hL).mp hb with hb' | e
    · rcases (mem_new hs hL).mp hc with hc' | hc'
      · refine h3 b hb' _ hc' (fun e => ?_) ?_
        · rcases f.2.2.2 with z | z
          · exact hab z
          · exact z.2 e.symm
        · rw [f.2.1]
          exact f2.2.2.1.symm
      · rcases f.2.2.2 with z | z
        · exact hab z
        · exact z.1 hc'
    · exact hab e.symm
/-- the open places after the first one is taken -/
theorem opn_new (n : Nat) (r : List Nat) (e : opn s L = n :: r) : r.filter (fun m => !hitN m (nsort (L ++ [n]))) = opn s (nsort (L ++ [n])) := by
  have hn : n ∈ opn s L := by rw [e]; exact .head _
  have so := opn_srt hs hL
  rw [e, List.pairwise_cons] at so
  obtain ⟨h1, h2, h3⟩ := (mem_opn hs hL).mp hn
  have ok := nsort_ok hs hL h1 h2
  refine srtN_uniq (so.2.filter _) (opn_srt hs ok) fun m => ?_
  rw [List.mem_filter, mem_opn hs ok, Bool.not_eq_true', Bool.eq_false_iff, Ne, hitN_nodup hs ok.lt (srt_nodup ok.srt)]
  have hm : m ∈ opn s L ↔ m = n ∨ m ∈ r := by rw [e, List.mem_cons]
  constructor
  · rintro ⟨q1, q2⟩
    have q := (mem_opn hs hL).mp (hm.mpr (.inr q1))
    refine ⟨q.1, fun z => ?_, fun a ha b hb hab z => q2 ⟨a, ha, b, hb, hab, z⟩⟩
    rcases (mem_new hs hL).mp z with z | z
    · exact q.2.1 z
    · have := so.1 m q1; omega
  · rintro ⟨q1, q2, q3⟩
    have q2' : m ∉ L ∧ m ≠ n := ⟨fun z => q2 ((mem_new hs hL).mpr (.inl z)), fun z => q2 ((mem_new hs hL).mpr (.inr z))⟩
    have : m ∈ opn s L := (mem_opn hs hL).mpr ⟨q1, q2'.1, fun a ha b hb hab z => q3 a ((mem_new hs hL).mpr (.inl ha)) b ((mem_new hs hL).mpr (.inl hb)) hab z⟩
    refine ⟨(hm.mp this).resolve_left q2'.2, ?_⟩
    rintro ⟨a, ha, b, hb, hab, z⟩
    exact q3 a ha b hb hab z
end
/-- places closed by so many -/
theorem nadd_len (K : List Nat) (n : Nat) : (nadd K n).length ≤ K.length + 1 := by
  unfold nadd
  split
  · omega
  · rw [List.length_append]
    exact Nat.le_refl _
theorem clI_len (a : Nat) : ∀ (R K : List Nat), (clI a K R).length ≤ K.length + R.length
  | [], K => Nat.le_refl _
  | b :: R, K => by
    rw [clI, List.length_cons]
    have h1 := clI_len a R (nadd K (th a b))
    have h2 := nadd_len K (th a b)
    omega
def bnd (n : Nat) : Nat → Nat
  | 0 => 0
  | k + 1 => bnd n k + (n - k)
theorem ckN_len (L : List Nat) : ∀ k, k ≤ L.length → (ckN L k).length ≤ bnd L.length k
  | 0, _ => Nat.le_refl _
  | k + 1, h => by
    have ih := ckN_len L k (by omega)
    rw [ckN, bnd]
    split
    · rename_i a e
      have h1 := clI_len a (L.drop (k + 1)) (nadd (ckN L k) a)
      have h2 := nadd_len (ckN L k) a
      rw [List.length_drop] at h1
      omega
    · omega
theorem full_len {s : Nat} (hs : Sz s) {L : List Nat} (hL : OkSet s L) (ho : opn s L = []) : sz s ≤ bnd L.length L.length := by
  refine Nat.le_trans ?_ (ckN_len L L.length (Nat.le_refl _))
  have h : ∀ n ∈ List.range (sz s), n ∈ ckN L L.length := by
    intro n hn
    rw [mem_ckN_all]
    have q : n ∉ opn s L := by rw [ho]; simp
    unfold opn at q
    rw [List.mem_filter, not_and] at q
    have := q hn
    by_cases h1 : n ∈ L
    · exact .inl h1
    · right
      cases h2 : hitN n L with
      | true => rfl
      | false => exact absurd (by simp [h1, h2]) this
  have := List.nodup_range.length_le_of_subset h
  rwa [List.length_range] at this
theorem bnd_small : ∀ k, k ≤ 6 → bnd k k < 27 := by decide
theorem complete_len {s : Nat} (hs : Sz s) {L : List Nat} (hL : OkSet s L) (hf : ll L = []) (ho : opn s L = []) : L.length ≤ grt s ∧ (s = 3 → 7 ≤ L.length) ∧ (s ≠ 3 → L.length = grt s) := by
  have h1 : L.length ≤ grt s := Nat.le_of_not_lt fun hc => cap_ok hs hL hc hf
  have h2 := full_len hs hL ho
  refine ⟨h1, fun e => ?_, fun e => ?_⟩
  · subst e
    refine Nat.lt_of_not_le fun hc => ?_
    have := bnd_small L.length hc
    have e : sz 3 = 27 := rfl
    omega
  · have q : ∀ k, (k ≤ 1 → bnd k k < 3) ∧ (k ≤ 3 → bnd k k < 9) := fun k => ⟨fun hk => by
      have : k = 0 ∨ k = 1 := by omega
      rcases this with rfl | rfl <;> decide, fun hk => by
      have : k = 0 ∨ k = 1 ∨ k = 2 ∨ k = 3 := by omega
      rcases this with rfl | rfl | rfl | rfl <;> decide⟩
    rcases hs with rfl | rfl | rfl
    · have e : sz 1 = 3 := rfl
      have e2 : grt 1 = 2 := rfl
      rw [e2] at h1 ⊢
      rcases Nat.lt_or_ge L.length 2 with h | h
      · have := (q L.length).1 (by omega); omega
      · omega
    · have e : sz 2 = 9 := rfl
      have e2 : grt 2 = 4 := rfl
      rw [e2] at h1 ⊢
      rcases Nat.lt_or_ge L.length 4 with h | h
      · have := (q L.length).2 (by omega); omega
      · omega
    · exact absurd rfl e
end FL

namespace FL
open PySem L2
theorem add_tup {xs ys : List D} (h : xs.length + ys.length ≤ 1000000) : addD (.tuple xs) (.tuple ys) = some (.tuple (xs ++ ys)) := by
  simp only [addD]
  rw [if_pos h]
theorem idx0 (x : D) (xs : List D) : idxD (.list (x :: xs)) (.int 0) = some x := by
  show atI (x :: xs) 0 = some x
  unfold atI ixN
  simp
theorem run2 {n : Nat} {b : List Nat → Rho → R Fl} {x y : D} : runF n b [.d x, .d y] = runO [.d x, .d y] (b [] (rho0 n [.d x, .d y])) := ev_run
section
variable {s : Nat} (hs : Sz s) {L : List Nat} (hL : OkSet s L)
include hs hL
theorem ne_lines : neD (.list ((ll L).map (tri s))) (.list []) = some (.bool (!(ll L).isEmpty)) := by
  rw [ne_nil_spec (shp_tris 5 s _)]
  cases ll L <;> rfl
theorem eq_lines : eqD (.list ((ll L).map (tri s))) (.list []) = some (.bool (ll L).isEmpty) := by
  rw [eq_nil_spec (shp_tris 5 s _)]
  cases ll L <;> rfl
theorem len27 : L.length ≤ 27 := Nat.le_trans hL.len (sz_le hs)
theorem line_list_set : m_line_list [.d (st s L)] = .ret (.d (.list ((ll L).map (tri s)))) [.d (st s L)] := line_list_spec hs true hL.lt (Nat.le_trans (len27 hs hL) (by decide))
theorem open_list_set : m_open_list [.d (.int s), .d (st s L)] = .ret (.d (.list ((opn s L).map (pt s)))) [.d (.int s), .d (st s L)] := open_list_spec hs hL.lt (Nat.le_trans (len27 hs hL) (by decide))
theorem check_free_ok (hf : ll L = []) : m_check_free [.d (.int s), .d (st s L)] = .ret (.d .none) [.d (.int s), .d (st s L)] := by
  have h := ne_lines hs hL
  rw [hf] at h
  unfold m_check_free
  rw [run2]
  show runO _ (b_check_free [] [some (.d (.int s)), some (.d (st s L))]) = _
  unfold b_check_free
  simp -implicitDefEqProofs only [ev_seq, kSeq_nx, kSeq_rt, ev_next, ev_asg0, kAsg_d, ev_ret, kRet_d, ev_drop, kDrop_e, ev_ifS, kIf_t, kIf_f, ev_ifE, kIfE_t, kIfE_f, ev_D, ev_var, varS_d, varS_l, varS_z, varS_m, ev_bin, kBin1_e, kBin2_e, binR_e, optR_e, look_d, look_own, lookS_l, ev_nil, ev_cons, kCons1_e, kCons2_e, ev_CB, kCB_e, cbR_e, lookAll_nil, lookAll_cons, laR_e, ev_tup, kTup_e, tupR_e, ev_lst, kLst_e, lstR_e, datas_nil, datas_cons, ev_call, kCall_e, caR_e, frR_ret, frR_exc, argS_nil, argS_d, argS_own, argO_e, ownIx_nil, ownIx_d, ownIx_own, nodup0, nodup1, nodup01, putBack_nil, putBack_d, putBack_own, ev_asB, kAsB_b, ev_tand, kTAnd_t, kTAnd_f, ev_tor, kTOr_t, kTOr_f, ev_tnot, kTNot_e, ev_and, kAnd_t, kAnd_f, ev_or, kOr_t, kOr_f, ev_not, kNot_b, ev_own0, kOwn_e, ownR_e, ev_ownL0, kOwnL_e, ownLR_l, ownLR_t, R.bind_ok, R.bind_exc, Option.map_some, List.getElem?_cons_zero, List.getElem?_cons_succ, List.set_cons_zero, List.set_cons_succ, List.length_cons, List.length_nil, Nat.reduceAdd, Nat.reduceLeDiff, decide_true, decide_false, gR_t, Nat.le_refl, Nat.zero_le, addD_i, subD_i, ltD_i, gtD_i, leD_i, geD_i, len_l, len_t, tuple_l, list_l, list_t, is_b, isNot_b, isB_b, ev_src, kSrc_l, kSrc_t, ev_srcs, kSrcs_e, srcR_e, ev_aug0, augR_e, kAug_e, getL_e, getLS_l, ev_app, appR1_e, kApp_e, appR2_e, one_e, List.nil_append, List.cons_append, Nat.reduceLT, Nat.zero_lt_succ, ev_yes, ev_neg, kNeg_e, ev_part, kPart_e, ev_nopart, ev_sl, kSl1_e, kSl2_e, kSl3_e, slR_e, runO_rt, Bool.not_true, Bool.not_false, check_set_spec hs hL, line_list_set hs hL, hf, h, List.isEmpty_nil, runO_nx]
  rfl
theorem check_free_bad (hf : ll L ≠ []) : m_check_free [.d (.int s), .d (st s L)] = .exc 6 [.d (.int s), .d (st s L)] := by
  have h := ne_lines hs hL
  have e : (ll L).isEmpty = false := by
    cases hq : ll L with
    | nil => exact absurd hq hf
    | cons _ _ => rfl
  rw [e] at h
  unfold m_check_free
  rw [run2]
  show runO _ (b_check_free [] [some (.d (.int s)), some (.d (st s L))]) = _
  unfold b_check_free fRaise
  simp -implicitDefEqProofs only [ev_seq, kSeq_nx, kSeq_rt, ev_next, ev_asg0, kAsg_d, ev_ret, kRet_d, ev_drop, kDrop_e, ev_ifS, kIf_t, kIf_f, ev_ifE, kIfE_t, kIfE_f, ev_D, ev_var, varS_d, varS_l, varS_z, varS_m, ev_bin, kBin1_e, kBin2_e, binR_e, optR_e, look_d, look_own, lookS_l, ev_nil, ev_cons, kCons1_e, kCons2_e, ev_CB, kCB_e, cbR_e, lookAll_nil, lookAll_cons, laR_e, ev_tup, kTup_e, tupR_e, ev_lst, kLst_e, lstR_e, datas_nil, datas_cons, ev_call, kCall_e, caR_e, frR_ret, frR_exc, argS_nil, argS_d, argS_own, argO_e, ownIx_nil, ownIx_d, ownIx_own, nodup0, nodup1, nodup01, putBack_nil, putBack_d, putBack_own, ev_asB, kAsB_b, ev_tand, kTAnd_t, kTAnd_f, ev_tor, kTOr_t, kTOr_f, ev_tnot, kTNot_e, ev_and, kAnd_t, kAnd_f, ev_or, kOr_t, kOr_f, ev_not, kNot_b, ev_own0, kOwn_e, ownR_e, ev_ownL0, kOwnL_e, ownLR_l, ownLR_t, R.bind_ok, R.bind_exc, Option.map_some, List.getElem?_cons_zero, List.getElem?_cons_succ, List.set_cons_zero, List.set_cons_succ, List.length_cons, List.length_nil, Nat.reduceAdd, Nat.reduceLeDiff, decide_true, decide_false, gR_t, Nat.le_refl, Nat.zero_le, addD_i, subD_i, ltD_i, gtD_i, leD_i, geD_i, len_l, len_t, tuple_l, list_l, list_t, is_b, isNot_b, isB_b, ev_src, kSrc_l, kSrc_t, ev_srcs, kSrcs_e, srcR_e, ev_aug0, augR_e, kAug_e, getL_e, getLS_l, ev_app, appR1_e, kApp_e, appR2_e, one_e, List.nil_append, List.cons_append, Nat.reduceLT, Nat.zero_lt_succ, ev_yes, ev_neg, kNeg_e, ev_part, kPart_e, ev_nopart, ev_sl, kSl1_e, kSl2_e, kSl3_e, slR_e, runO_rt, Bool.not_true, Bool.not_false, check_set_spec hs hL, line_list_set hs hL, h, runO_exc]
  rfl
theorem shp_opn : shpAll 7 ((opn s L).map (pt s)) = true := by
  have := shp_pts 6 s (opn s L)
  exact shp_pts _ s _
theorem ne_opn : neD (.list ((opn s L).map (pt s))) (.list []) = some (.bool (!(opn s L).isEmpty)) := by
  rw [ne_nil_spec (shp_opn hs hL)]
  cases opn s L <;> rfl
theorem eq_opn : eqD (.list ((opn s L).map (pt s))) (.list []) = some (.bool (opn s L).isEmpty) := by
  rw [eq_nil_spec (shp_opn hs hL)]
  cases opn s L <;> rfl
theorem open_places_ok (hf : ll L = []) : m_open_places [.d (.int s), .d (st s L)] = .ret (.d (.list ((opn s L).map (pt s)))) [.d (.int s), .d (st s L)] := by
  unfold m_open_places
  rw [run2]
  show runO _ (b_open_places [] [some (.d (.int s)), some (.d (st s L))]) = _
  unfold b_open_places
  simp -implicitDefEqProofs only [ev_seq, kSeq_nx, kSeq_rt, ev_next, ev_asg0, kAsg_d, ev_ret, kRet_d, ev_drop, kDrop_e, ev_ifS, kIf_t, kIf_f, ev_ifE, kIfE_t, kIfE_f, ev_D, ev_var, varS_d, varS_l, varS_z, varS_m, ev_bin, kBin1_e, kBin2_e, binR_e, optR_e, look_d, look_own, lookS_l, ev_nil, ev_cons, kCons1_e, kCons2_e, ev_CB, kCB_e, cbR_e, lookAll_nil, lookAll_cons, laR_e, ev_tup, kTup_e, tupR_e, ev_lst, kLst_e, lstR_e, datas_nil, datas_cons, ev_call, kCall_e, caR_e, frR_ret, frR_exc, argS_nil, argS_d, argS_own, argO_e, ownIx_nil, ownIx_d, ownIx_own, nodup0, nodup1, nodup01, putBack_nil, putBack_d, putBack_own, ev_asB, kAsB_b, ev_tand, kTAnd_t, kTAnd_f, ev_tor, kTOr_t, kTOr_f, ev_tnot, kTNot_e, ev_and, kAnd_t, kAnd_f, ev_or, kOr_t, kOr_f, ev_not, kNot_b, ev_own0, kOwn_e, ownR_e, ev_ownL0, kOwnL_e, ownLR_l, ownLR_t, R.bind_ok, R.bind_exc, Option.map_some, List.getElem?_cons_zero, List.getElem?_cons_succ, List.set_cons_zero, List.set_cons_succ, List.length_cons, List.length_nil, Nat.reduceAdd, Nat.reduceLeDiff, decide_true, decide_false, gR_t, Nat.le_refl, Nat.zero_le, addD_i, subD_i, ltD_i, gtD_i, leD_i, geD_i, len_l, len_t, tuple_l, list_l, list_t, is_b, isNot_b, isB_b, ev_src, kSrc_l, kSrc_t, ev_srcs, kSrcs_e, srcR_e, ev_aug0, augR_e, kAug_e, getL_e, getLS_l, ev_app, appR1_e, kApp_e, appR2_e, one_e, List.nil_append, List.cons_append, Nat.reduceLT, Nat.zero_lt_succ, ev_yes, ev_neg, kNeg_e, ev_part, kPart_e, ev_nopart, ev_sl, kSl1_e, kSl2_e, kSl3_e, slR_e, runO_rt, Bool.not_true, Bool.not_false, check_free_ok hs hL hf, open_list_set hs hL]
  rfl
theorem open_places_bad (hf : ll L ≠ []) : m_open_places [.d (.int s), .d (st s L)] = .exc 6 [.d (.int s), .d (st s L)] := by
  unfold m_open_places
  rw [run2]
  show runO _ (b_open_places [] [some (.d (.int s)), some (.d (st s L))]) = _
  unfold b_open_places
  simp -implicitDefEqProofs only [ev_seq, kSeq_nx, kSeq_rt, ev_next, ev_asg0, kAsg_d, ev_ret, kRet_d, ev_drop, kDrop_e, ev_ifS, kIf_t, kIf_f, ev_ifE, kIfE_t, kIfE_f, ev_D, ev_var, varS_d, varS_l, varS_z, varS_m, ev_bin, kBin1_e, kBin2_e, binR_e, optR_e, look_d, look_own, lookS_l, ev_nil, ev_cons, kCons1_e, kCons2_e, ev_CB, kCB_e, cbR_e, lookAll_nil, lookAll_cons, laR_e, ev_tup, kTup_e, tupR_e, ev_lst, kLst_e, lstR_e, datas_nil, datas_cons, ev_call, kCall_e, caR_e, frR_ret, frR_exc, argS_nil, argS_d, argS_own, argO_e, ownIx_nil, ownIx_d, ownIx_own, nodup0, nodup1, nodup01, putBack_nil, putBack_d, putBack_own, ev_asB, kAsB_b, ev_tand, kTAnd_t, kTAnd_f, ev_tor, kTOr_t, kTOr_f, ev_tnot, kTNot_e, ev_and, kAnd_t, kAnd_f, ev_or, kOr_t, kOr_f, ev_not, kNot_b, ev_own0, kOwn_e, ownR_e, ev_ownL0, kOwnL_e, ownLR_l, ownLR_t, R.bind_ok, R.bind_exc, Option.map_some, List.getElem?_cons_zero, List.getElem?_cons_succ, List.set_cons_zero, List.set_cons_succ, List.length_cons, List.length_nil, Nat.reduceAdd, Nat.reduceLeDiff, decide_true, decide_false, gR_t, Nat.le_refl, Nat.zero_le, addD_i, subD_i, ltD_i, gtD_i, leD_i, geD_i, len_l, len_t, tuple_l, list_l, list_t, is_b, isNot_b, isB_b, ev_src, kSrc_l, kSrc_t, ev_srcs, kSrcs_e, srcR_e, ev_aug0, augR_e, kAug_e, getL_e, getLS_l, ev_app, appR1_e, kApp_e, appR2_e, one_e, List.nil_append, List.cons_append, Nat.reduceLT, Nat.zero_lt_succ, ev_yes, ev_neg, kNeg_e, ev_part, kPart_e, ev_nopart, ev_sl, kSl1_e, kSl2_e, kSl3_e, slR_e, runO_rt, Bool.not_true, Bool.not_false, check_free_bad hs hL hf, runO_exc]
  rfl
theorem is_complete_ok (hf : ll L = []) : m_is_complete [.d (.int s), .d (st s L)] = .ret (.d (.bool (opn s L).isEmpty)) [.d (.int s), .d (st s L)] := by
  unfold m_is_complete
  rw [run2]
  show runO _ (b_is_complete [] [some (.d (.int s)), some (.d (st s L))]) = _
  unfold b_is_complete
  simp -implicitDefEqProofs only [ev_seq, kSeq_nx, kSeq_rt, ev_next, ev_asg0, kAsg_d, ev_ret, kRet_d, ev_drop, kDrop_e, ev_ifS, kIf_t, kIf_f, ev_ifE, kIfE_t, kIfE_f, ev_D, ev_var, varS_d, varS_l, varS_z, varS_m, ev_bin, kBin1_e, kBin2_e, binR_e, optR_e, look_d, look_own, lookS_l, ev_nil, ev_cons, kCons1_e, kCons2_e, ev_CB, kCB_e, cbR_e, lookAll_nil, lookAll_cons, laR_e, ev_tup, kTup_e, tupR_e, ev_lst, kLst_e, lstR_e, datas_nil, datas_cons, ev_call, kCall_e, caR_e, frR_ret, frR_exc, argS_nil, argS_d, argS_own, argO_e, ownIx_nil, ownIx_d, ownIx_own, nodup0, nodup1, nodup01, putBack_nil, putBack_d, putBack_own, ev_asB, kAsB_b, ev_tand, kTAnd_t, kTAnd_f, ev_tor, kTOr_t, kTOr_f, ev_tnot, kTNot_e, ev_and, kAnd_t, kAnd_f, ev_or, kOr_t, kOr_f, ev_not, kNot_b, ev_own0, kOwn_e, ownR_e, ev_ownL0, kOwnL_e, ownLR_l, ownLR_t, R.bind_ok, R.bind_exc, Option.map_some, List.getElem?_cons_zero, List.getElem?_cons_succ, List.set_cons_zero, List.set_cons_succ, List.length_cons, List.length_nil, Nat.reduceAdd, Nat.reduceLeDiff, decide_true, decide_false, gR_t, Nat.le_refl, Nat.zero_le, addD_i, subD_i, ltD_i, gtD_i, leD_i, geD_i, len_l, len_t, tuple_l, list_l, list_t, is_b, isNot_b, isB_b, ev_src, kSrc_l, kSrc_t, ev_srcs, kSrcs_e, srcR_e, ev_aug0, augR_e, kAug_e, getL_e, getLS_l, ev_app, appR1_e, kApp_e, appR2_e, one_e, List.nil_append, List.cons_append, Nat.reduceLT, Nat.zero_lt_succ, ev_yes, ev_neg, kNeg_e, ev_part, kPart_e, ev_nopart, ev_sl, kSl1_e, kSl2_e, kSl3_e, slR_e, runO_rt, Bool.not_true, Bool.not_false, check_free_ok hs hL hf, open_list_set hs hL, eq_opn hs hL]
  rfl
theorem is_complete_bad (hf : ll L ≠ []) : m_is_complete [.d (.int s), .d (st s L)] = .exc 6 [.d (.int s), .d (st s L)] := by
  unfold m_is_complete
  rw [run2]
  show runO _ (b_is_complete [] [some (.d (.int s)), some (.d (st s L))]) = _
  unfold b_is_complete
  simp -implicitDefEqProofs only [ev_seq, kSeq_nx, kSeq_rt, ev_next, ev_asg0, kAsg_d, ev_ret, kRet_d, ev_drop, kDrop_e, ev_ifS, kIf_t, kIf_f, ev_ifE, kIfE_t, kIfE_f, ev_D, ev_var, varS_d, varS_l, varS_z, varS_m, ev_bin, kBin1_e, kBin2_e, binR_e, optR_e, look_d, look_own, lookS_l, ev_nil, ev_cons, kCons1_e, kCons2_e, ev_CB, kCB_e, cbR_e, lookAll_nil, lookAll_cons, laR_e, ev_tup, kTup_e, tupR_e, ev_lst, kLst_e, lstR_e, datas_nil, datas_cons, ev_call, kCall_e, caR_e, frR_ret, frR_exc, argS_nil, argS_d, argS_own, argO_e, ownIx_nil, ownIx_d, ownIx_own, nodup0, nodup1, nodup01, putBack_nil, putBack_d, putBack_own, ev_asB, kAsB_b, ev_tand, kTAnd_t, kTAnd_f, ev_tor, kTOr_t, kTOr_f, ev_tnot, kTNot_e, ev_and, kAnd_t, kAnd_f, ev_or, kOr_t, kOr_f, ev_not, kNot_b, ev_own0, kOwn_e, ownR_e, ev_ownL0, kOwnL_e, ownLR_l, ownLR_t, R.bind_ok, R.bind_exc, Option.map_some, List.getElem?_cons_zero, List.getElem?_cons_succ, List.set_cons_zero, List.set_cons_succ, List.length_cons, List.length_nil, Nat.reduceAdd, Nat.reduceLeDiff, decide_true, decide_false, gR_t, Nat.le_refl, Nat.zero_le, addD_i, subD_i, ltD_i, gtD_i, leD_i, geD_i, len_l, len_t, tuple_l, list_l, list_t, is_b, isNot_b, isB_b, ev_src, kSrc_l, kSrc_t, ev_srcs, kSrcs_e, srcR_e, ev_aug0, augR_e, kAug_e, getL_e, getLS_l, ev_app, appR1_e, kApp_e, appR2_e, one_e, List.nil_append, List.cons_append, Nat.reduceLT, Nat.zero_lt_succ, ev_yes, ev_neg, kNeg_e, ev_part, kPart_e, ev_nopart, ev_sl, kSl1_e, kSl2_e, kSl3_e, slR_e, runO_rt, Bool.not_true, Bool.not_false, check_free_bad hs hL hf, runO_exc]
  rfl
theorem completed_bad (hf : ll L ≠ []) : m_completed [.d (.int s), .d (st s L)] = .exc 6 [.d (.int s), .d (st s L)] := by
  unfold m_completed
  rw [run2]
  show runO _ (b_completed [] [some (.d (.int s)), some (.d (st s L)), none]) = _
  unfold b_completed
  simp -implicitDefEqProofs only [ev_seq, kSeq_nx, kSeq_rt, ev_next, ev_asg0, kAsg_d, ev_ret, kRet_d, ev_drop, kDrop_e, ev_ifS, kIf_t, kIf_f, ev_ifE, kIfE_t, kIfE_f, ev_D, ev_var, varS_d, varS_l, varS_z, varS_m, ev_bin, kBin1_e, kBin2_e, binR_e, optR_e, look_d, look_own, lookS_l, ev_nil, ev_cons, kCons1_e, kCons2_e, ev_CB, kCB_e, cbR_e, lookAll_nil, lookAll_cons, laR_e, ev_tup, kTup_e, tupR_e, ev_lst, kLst_e, lstR_e, datas_nil, datas_cons, ev_call, kCall_e, caR_e, frR_ret, frR_exc, argS_nil, argS_d, argS_own, argO_e, ownIx_nil, ownIx_d, ownIx_own, nodup0, nodup1, nodup01, putBack_nil, putBack_d, putBack_own, ev_asB, kAsB_b, ev_tand, kTAnd_t, kTAnd_f, ev_tor, kTOr_t, kTOr_f, ev_tnot, kTNot_e, ev_and, kAnd_t, kAnd_f, ev_or, kOr_t, kOr_f, ev_not, kNot_b, ev_own0, kOwn_e, ownR_e, ev_ownL0, kOwnL_e, ownLR_l, ownLR_t, R.bind_ok, R.bind_exc, Option.map_some, List.getElem?_cons_zero, List.getElem?_cons_succ, List.set_cons_zero, List.set_cons_succ, List.length_cons, List.length_nil, Nat.reduceAdd, Nat.reduceLeDiff, decide_true, decide_false, gR_t, Nat.le_refl, Nat.zero_le, addD_i, subD_i, ltD_i, gtD_i, leD_i, geD_i, len_l, len_t, tuple_l, list_l, list_t, is_b, isNot_b, isB_b, ev_src, kSrc_l, kSrc_t, ev_srcs, kSrcs_e, srcR_e, ev_aug0, augR_e, kAug_e, getL_e, getLS_l, ev_app, appR1_e, kApp_e, appR2_e, one_e, List.nil_append, List.cons_append, Nat.reduceLT, Nat.zero_lt_succ, ev_yes, ev_neg, kNeg_e, ev_part, kPart_e, ev_nopart, ev_sl, kSl1_e, kSl2_e, kSl3_e, slR_e, runO_rt, Bool.not_true, Bool.not_false, check_free_bad hs hL hf, runO_exc]
  rfl
end
/-- a while loop with a measure -/
theorem while_of {fc : Rho → R Bool} {body : Rho → R Fl} (I : Nat → Rho → Prop) (Q : Rho → Prop) (h : ∀ m ρ, I m ρ → (fc ρ = .ok false ρ ∧ Q ρ) ∨ ∃ ρ2 m', fc ρ = .ok true ρ ∧ body ρ = .ok .nx ρ2 ∧ m' < m ∧ I m' ρ2) : ∀ (n m : Nat) (ρ : Rho), m < n → I m ρ → ∃ ρ', whileF fc body n ρ = .ok .nx ρ' ∧ Q ρ'
  | 0, m, ρ, hm, _ => absurd hm (Nat.not_lt_zero m)
  | n + 1, m, ρ, hm, hI => by
    rcases h m ρ hI with ⟨h1, h2⟩ | ⟨ρ2, m', h1, h2, h3, h4⟩
    · refine ⟨ρ, ?_, h2⟩
      rw [whileF, h1]
      rfl
    · obtain ⟨ρ', e, q⟩ := while_of I Q h n m' ρ2 (by omega) h4
      refine ⟨ρ', ?_, q⟩
      rw [whileF, h1]
      simp only [R.bind_ok, h2]
      exact e
/-- the completed set: the first open place, again and again -/
def cmpl (s : Nat) : Nat → List Nat → List Nat
  | 0, L => L
  | f + 1, L => match opn s L with
    | [] => L
    | n :: _ => cmpl s f (nsort (L ++ [n]))
theorem cmpl_stop {s f : Nat} {L : List Nat} (h : opn s L = []) : cmpl s f L = L := by
  cases f with
  | zero => rfl
  | succ f => rw [cmpl, h]
theorem cmpl_step {s : Nat} (hs : Sz s) : ∀ {f : Nat} {L : List Nat} {n : Nat} {r : List Nat}, OkSet s L → ll L = [] → opn s L = n :: r → sz s - L.length ≤ f → cmpl s f L = cmpl s f (nsort (L ++ [n])) := by
  have ext : ∀ (d f g : Nat) (L : List Nat), sz s - L.length ≤ d → d ≤ f → d ≤ g → OkSet s L → ll L = [] → cmpl s f L = cmpl s g L := by
    intro d
    induction d with
    | zero =>
      intro f g L h1 _ _ hL hf
      have ho : opn s L = [] := by
        cases e : opn s L with
        | nil => rfl
        | cons n r =>
          obtain ⟨h2, h3, _⟩ := (mem_opn hs hL).mp (by rw [e]; exact .head _ : n ∈ opn s L)
          have := (nsort_ok hs hL h2 h3).len
          rw [len_new hs hL] at this
          omega
      rw [cmpl_stop ho, cmpl_stop ho]
    | succ d ih =>
      intro f g L h1 h2 h3 hL hf
      cases f with
      | zero => omega
      | succ f =>
        cases g with
        | zero => omega
        | succ g =>
          rw [cmpl, cmpl]
          cases e : opn s L with
          | nil => rfl
          | cons n r =>
            obtain ⟨o1, o2⟩ := free_new hs hL hf (by rw [e]; exact .head _ : n ∈ opn s L)
            refine ih f g _ ?_ (by omega) (by omega) o1 o2
            rw [len_new hs hL]
            omega
  intro f L n r hL hf e hd
  have hn : n ∈ opn s L := by rw [e]; exact .head _
  obtain ⟨o1, o2⟩ := free_new hs hL hf hn
  have hl := o1.len
  rw [len_new hs hL] at hl
  cases f with
  | zero => omega
  | succ f =>
    rw [cmpl, e]
    refine ext f f (f + 1) _ ?_ (Nat.le_refl _) (Nat.le_succ _) o1 o2
    rw [len_new hs hL]
    omega
theorem cmpl_ok {s : Nat} (hs : Sz s) : ∀ {f : Nat} {L : List Nat}, OkSet s L → ll L = [] → sz s - L.length ≤ f → OkSet s (cmpl s f L) ∧ ll (cmpl s f L) = [] ∧ opn s (cmpl s f L) = []
  | f, L, hL, hf, hd => by
    cases e : opn s L with
    | nil => rw [cmpl_stop e]; exact ⟨hL, hf, e⟩
    | cons n r =>
      have hn : n ∈ opn s L := by rw [e]; exact .head _
      obtain ⟨o1, o2⟩ := free_new hs hL hf hn
      have hl := o1.len
      rw [len_new hs hL] at hl
      cases f with
      | zero => omega
      | succ f =>
        have : cmpl s (f + 1) L = cmpl s f (nsort (L ++ [n])) := by rw [cmpl, e]
        rw [this]
        refine cmpl_ok hs o1 o2 ?_
        rw [len_new hs hL]
        omega
section
variable {s : Nat} (hs : Sz s)
include hs
theorem comp_body {L : List Nat} (hL : OkSet s L) {n : Nat} {r : List Nat} (hf : ll L = []) (e : opn s L = n :: r) : B_completed_0 [] [some (.d (.int s)), some (.d (st s L)), some (.d (.list ((opn s L).map (pt s))))] = .ok .nx [some (.d (.int s)), some (.d (st s (nsort (L ++ [n])))), some (.d (.list ((opn s (nsort (L ++ [n]))).map (pt s))))] := by
  have hn : n ∈ opn s L := by rw [e]; exact .head _
  obtain ⟨o1, o2⟩ := free_new hs hL hf hn
  have i0 : idxD (.list ((opn s L).map (pt s))) (.int 0) = some (pt s n) := by rw [e]; exact idx0 _ _
  have ad : addD (st s L) (.tuple [pt s n]) = some (.tuple ((L ++ [n]).map (pt s))) := by
    have := len27 hs hL
    rw [List.map_append]
    exact add_tup (by rw [List.length_map]; show L.length + 1 ≤ _; omega)
  have so : sortD [.tuple ((L ++ [n]).map (pt s))] = some (.list ((nsort (L ++ [n])).map (pt s))) := sort_ptsT hs (fun a ha => by
    rcases List.mem_append.mp ha with h | h
    · exact hL.lt a h
    · simp at h; subst h; exact ((mem_opn hs hL).mp hn).1) (by rw [List.length_append]; have := len27 hs hL; show L.length + 1 ≤ _; omega)
  unfold B_completed_0
  simp -implicitDefEqProofs only [ev_seq, kSeq_nx, kSeq_rt, ev_next, ev_asg0, kAsg_d, ev_ret, kRet_d, ev_drop, kDrop_e, ev_ifS, kIf_t, kIf_f, ev_ifE, kIfE_t, kIfE_f, ev_D, ev_var, varS_d, varS_l, varS_z, varS_m, ev_bin, kBin1_e, kBin2_e, binR_e, optR_e, look_d, look_own, lookS_l, ev_nil, ev_cons, kCons1_e, kCons2_e, ev_CB, kCB_e, cbR_e, lookAll_nil, lookAll_cons, laR_e, ev_tup, kTup_e, tupR_e, ev_lst, kLst_e, lstR_e, datas_nil, datas_cons, ev_call, kCall_e, caR_e, frR_ret, frR_exc, argS_nil, argS_d, argS_own, argO_e, ownIx_nil, ownIx_d, ownIx_own, nodup0, nodup1, nodup01, putBack_nil, putBack_d, putBack_own, ev_asB, kAsB_b, ev_tand, kTAnd_t, kTAnd_f, ev_tor, kTOr_t, kTOr_f, ev_tnot, kTNot_e, ev_and, kAnd_t, kAnd_f, ev_or, kOr_t, kOr_f, ev_not, kNot_b, ev_own0, kOwn_e, ownR_e, ev_ownL0, kOwnL_e, ownLR_l, ownLR_t, R.bind_ok, R.bind_exc, Option.map_some, List.getElem?_cons_zero, List.getElem?_cons_succ, List.set_cons_zero, List.set_cons_succ, List.length_cons, List.length_nil, Nat.reduceAdd, Nat.reduceLeDiff, decide_true, decide_false, gR_t, Nat.le_refl, Nat.zero_le, addD_i, subD_i, ltD_i, gtD_i, leD_i, geD_i, len_l, len_t, tuple_l, list_l, list_t, is_b, isNot_b, isB_b, ev_src, kSrc_l, kSrc_t, ev_srcs, kSrcs_e, srcR_e, ev_aug0, augR_e, kAug_e, getL_e, getLS_l, ev_app, appR1_e, kApp_e, appR2_e, one_e, List.nil_append, List.cons_append, Nat.reduceLT, Nat.zero_lt_succ, ev_yes, ev_neg, kNeg_e, ev_part, kPart_e, ev_nopart, ev_sl, kSl1_e, kSl2_e, kSl3_e, slR_e, runO_rt, Bool.not_true, Bool.not_false, i0, ad, so, open_list_set hs o1]
theorem completed_ok {L : List Nat} (hL : OkSet s L) (hf : ll L = []) : m_completed [.d (.int s), .d (st s L)] = .ret (.d (st s (cmpl s 27 L))) [.d (.int s), .d (st s L)] := by
  have key : ∃ ρ', W_completed_1 [] [some (.d (.int s)), some (.d (st s L)), some (.d (.list ((opn s L).map (pt s))))] = .ok .nx ρ' ∧ ∃ o, ρ' = [some (.d (.int s)), some (.d (st s (cmpl s 27 L))), o] := by
    unfold W_completed_1
    refine while_of (fun m ρ => ∃ M, OkSet s M ∧ ll M = [] ∧ cmpl s 27 M = cmpl s 27 L ∧ m = sz s - M.length ∧ ρ = [some (.d (.int s)), some (.d (st s M)), some (.d (.list ((opn s M).map (pt s))))]) _ ?_ 100000 (sz s - L.length) _ ?_ ⟨L, hL, hf, rfl, rfl, rfl⟩
    · rintro m ρ ⟨M, h1, h2, h3, h4, rfl⟩
      cases e : opn s M with
      | nil =>
        left
        have q := ne_opn hs h1
        rw [e] at q
        refine ⟨asB_b (fBin_d (x := .list (([] : List Nat).map (pt s))) (y := .list []) rfl rfl rfl rfl q), ?_⟩
        rw [cmpl_stop e] at h3
        rw [h3]
        exact ⟨_, rfl⟩
      | cons n r =>
        right
        have hn : n ∈ opn s M := by rw [e]; exact .head _
        obtain ⟨o1, o2⟩ := free_new hs h1 h2 hn
        have hl := o1.len
        rw [len_new hs h1] at hl
        have q := ne_opn hs h1
        rw [e] at q
        refine ⟨_, sz s - (nsort (M ++ [n])).length, asB_b (fBin_d (x := .list ((n :: r).map (pt s))) (y := .list []) rfl rfl rfl rfl q), ?_, ?_, nsort (M ++ [n]), o1, o2, ?_, rfl, rfl⟩
        · have b := comp_body hs h1 h2 e
          rw [e] at b
          exact b
        · rw [len_new hs h1]
          omega
        · rw [← h3, ← cmpl_step hs h1 h2 e (by have := sz_le hs; omega)]
    · have := sz_le hs
      omega
  obtain ⟨ρ', h1, o, rfl⟩ := key
  unfold m_completed
  rw [run2]
  show runO _ (b_completed [] [some (.d (.int s)), some (.d (st s L)), none]) = _
  unfold b_completed
  simp -implicitDefEqProofs only [ev_seq, kSeq_nx, kSeq_rt, ev_next, ev_asg0, kAsg_d, ev_ret, kRet_d, ev_drop, kDrop_e, ev_ifS, kIf_t, kIf_f, ev_ifE, kIfE_t, kIfE_f, ev_D, ev_var, varS_d, varS_l, varS_z, varS_m, ev_bin, kBin1_e, kBin2_e, binR_e, optR_e, look_d, look_own, lookS_l, ev_nil, ev_cons, kCons1_e, kCons2_e, ev_CB, kCB_e, cbR_e, lookAll_nil, lookAll_cons, laR_e, ev_tup, kTup_e, tupR_e, ev_lst, kLst_e, lstR_e, datas_nil, datas_cons, ev_call, kCall_e, caR_e, frR_ret, frR_exc, argS_nil, argS_d, argS_own, argO_e, ownIx_nil, ownIx_d, ownIx_own, nodup0, nodup1, nodup01, putBack_nil, putBack_d, putBack_own, ev_asB, kAsB_b, ev_tand, kTAnd_t, kTAnd_f, ev_tor, kTOr_t, kTOr_f, ev_tnot, kTNot_e, ev_and, kAnd_t, kAnd_f, ev_or, kOr_t, kOr_f, ev_not, kNot_b, ev_own0, kOwn_e, ownR_e, ev_ownL0, kOwnL_e, ownLR_l, ownLR_t, R.bind_ok, R.bind_exc, Option.map_some, List.getElem?_cons_zero, List.getElem?_cons_succ, List.set_cons_zero, List.set_cons_succ, List.length_cons, List.length_nil, Nat.reduceAdd, Nat.reduceLeDiff, decide_true, decide_false, gR_t, Nat.le_refl, Nat.zero_le, addD_i, subD_i, ltD_i, gtD_i, leD_i, geD_i, len_l, len_t, tuple_l, list_l, list_t, is_b, isNot_b, isB_b, ev_src, kSrc_l, kSrc_t, ev_srcs, kSrcs_e, srcR_e, ev_aug0, augR_e, kAug_e, getL_e, getLS_l, ev_app, appR1_e, kApp_e, appR2_e, one_e, List.nil_append, List.cons_append, Nat.reduceLT, Nat.zero_lt_succ, ev_yes, ev_neg, kNeg_e, ev_part, kPart_e, ev_nopart, ev_sl, kSl1_e, kSl2_e, kSl3_e, slR_e, runO_rt, Bool.not_true, Bool.not_false, check_free_ok hs hL hf, open_list_set hs hL, h1]
  rfl
end
end FL

namespace FL
open PySem L2
/-! ### equality -/
mutual
theorem eqv_self : ∀ (n : Nat) (x : D), shp n x = true → PyData.eqv x x = true
  | _, .none, _ => rfl
  | _, .bool b, _ => by cases b <;> rfl
  | _, .int i, _ => by simp [PyData.eqv]
  | _, .str x, _ => by simp [PyData.eqv]
  | 0, .list _, h => by simp [shp] at h
  | 0, .tuple _, h => by simp [shp] at h
  | n + 1, .list xs, h => by
    rw [shp] at h
    rw [PyData.eqv]
    exact eqv_selfs n xs h
  | n + 1, .tuple xs, h => by
    rw [shp] at h
    rw [PyData.eqv]
    exact eqv_selfs n xs h
  | n, .dict _, h => by cases n <;> simp [shp] at h
theorem eqv_selfs : ∀ (n : Nat) (xs : List D), shpAll n xs = true → PyData.eqvAll xs xs = true
  | _, [], _ => by rw [PyData.eqvAll]
  | n, x :: xs, h => by
    rw [shpAll, Bool.and_eq_true] at h
    rw [PyData.eqvAll, eqv_self n x h.1, eqv_selfs n xs h.2]
    rfl
end
theorem eqD_self {x : D} (h : shp 8 x = true) : eqD x x = some (.bool true) := by
  unfold eqD
  rw [if_pos ⟨h, h⟩, eqv_self 8 x h]
theorem neD_self {x : D} (h : shp 8 x = true) : neD x x = some (.bool false) := by
  unfold neD
  rw [if_pos ⟨h, h⟩, eqv_self 8 x h]
  rfl
theorem shp_ptL (s : Nat) (M : List Nat) : shp 8 (.list (M.map (pt s))) = true := by
  rw [shp]
  exact shp_pts _ s M
theorem shp_ptT (s : Nat) (M : List Nat) : shp 8 (.tuple (M.map (pt s))) = true := by
  rw [shp]
  exact shp_pts _ s M
theorem shp_triL (s : Nat) (T : List (Nat × Nat × Nat)) : shp 8 (.list (T.map (tri s))) = true := by
  rw [shp]
  exact shp_tris 5 s T
theorem neL_self (s : Nat) (M : List Nat) : neD (.list (M.map (pt s))) (.list (M.map (pt s))) = some (.bool false) := neD_self (shp_ptL s M)
theorem neT_self (s : Nat) (M : List Nat) : neD (.tuple (M.map (pt s))) (.tuple (M.map (pt s))) = some (.bool false) := neD_self (shp_ptT s M)
theorem eqL_self (s : Nat) (M : List Nat) : eqD (.list (M.map (pt s))) (.list (M.map (pt s))) = some (.bool true) := eqD_self (shp_ptL s M)
theorem eqT_self (s : Nat) (M : List Nat) : eqD (.tuple (M.map (pt s))) (.tuple (M.map (pt s))) = some (.bool true) := eqD_self (shp_ptT s M)
theorem neTri_self (s : Nat) (T : List (Nat × Nat × Nat)) : neD (.list (T.map (tri s))) (.list (T.map (tri s))) = some (.bool false) := neD_self (shp_triL s T)
/-- sets: equal if of the same places -/
theorem eqv_pts {s : Nat} (hs : Sz s) : ∀ {A B : List Nat}, (∀ a ∈ A, a < sz s) → (∀ a ∈ B, a < sz s) → PyData.eqvAll (A.map (pt s)) (B.map (pt s)) = decide (A = B)
  | [], [], _, _ => by rw [List.map_nil, PyData.eqvAll]; rfl
  | [], b :: B, _, _ => by rw [List.map_nil, List.map_cons, PyData.eqvAll]; rfl
  | a :: A, [], _, _ => by rw [List.map_nil, List.map_cons, PyData.eqvAll]; rfl
  | a :: A, b :: B, h1, h2 => by
    rw [List.map_cons, List.map_cons, PyData.eqvAll, eqv_spec hs (h1 a (.head _)) (h2 b (.head _)), eqv_pts hs (fun x hx => h1 x (.tail _ hx)) (fun x hx => h2 x (.tail _ hx))]
    by_cases e1 : a = b <;> by_cases e2 : A = B <;> simp [e1, e2]
theorem eq_sets {s : Nat} (hs : Sz s) {A B : List Nat} (h1 : ∀ a ∈ A, a < sz s) (h2 : ∀ a ∈ B, a < sz s) : eqD (st s A) (st s B) = some (.bool (decide (A = B))) := by
  unfold eqD
  rw [if_pos ⟨shp_ptT s A, shp_ptT s B⟩, PyData.eqv, eqv_pts hs h1 h2]
theorem ne_sets {s : Nat} (hs : Sz s) {A B : List Nat} (h1 : ∀ a ∈ A, a < sz s) (h2 : ∀ a ∈ B, a < sz s) : neD (st s A) (st s B) = some (.bool (!decide (A = B))) := by
  unfold neD
  rw [if_pos ⟨shp_ptT s A, shp_ptT s B⟩, PyData.eqv, eqv_pts hs h1 h2]
/-! ### evaluation: more statements -/
def kPar (i j : Nat) : List W → Rho → R Fl := fun ws ρ1 => match ws with
  | [.d x, .d y] => .ok .nx ((ρ1.set i (some (.d x))).set j (some (.d y)))
  | _ => .bad
theorem ev_par0 {i j : Nat} {fs : Rho → R (List W)} {ρ : Rho} : fPar [] i j fs ρ = (fs ρ).bind (kPar i j) := by
  unfold fPar
  rw [if_neg (by simp)]
  rfl
theorem kPar_e {i j : Nat} {x y : D} {ρ : Rho} : kPar i j [.d x, .d y] ρ = .ok .nx ((ρ.set i (some (.d x))).set j (some (.d y))) := rfl
def tryR (i : Nat) : R Fl → R Fl
  | .exc c ρ' => if c < 10 ∧ i < ρ'.length then .ok (.rt (.d (rsd c))) ρ' else .bad
  | r => r
theorem ev_try {i : Nat} {body : Rho → R Fl} {ρ : Rho} : fTry i body ρ = tryR i (body ρ) := by
  unfold fTry tryR
  cases body ρ <;> rfl
theorem tryR_ok {i : Nat} {f : Fl} {ρ : Rho} : tryR i (.ok f ρ) = .ok f ρ := rfl
theorem tryR_exc {i c : Nat} {ρ : Rho} : tryR i (.exc c ρ) = gR (decide (c < 10 ∧ i < ρ.length)) (.ok (.rt (.d (rsd c))) ρ) := gR_if
def tabR (fas : Rho → R (List W)) (ρ : Rho) : Option FM → R W
  | some m => fCall m fas ρ
  | none => .bad
def kTab (ms : List FM) (fas : Rho → R (List W)) : W → Rho → R W := fun w ρ1 => match w with
  | .d (.int k) => tabR fas ρ1 (atI ms k)
  | _ => .bad
theorem ev_tab {ms : List FM} {fi : Rho → R W} {fas : Rho → R (List W)} {ρ : Rho} : fTab ms fi fas ρ = gR (decide (ms.length ≤ 1000)) ((fi ρ).bind (kTab ms fas)) := by
  unfold fTab
  by_cases h : ms.length ≤ 1000
  · rw [if_pos h, decide_eq_true h, gR_t]
    cases fi ρ with
    | ok w ρ1 =>
      cases w with
      | own _ => rfl
      | d x =>
        cases x with
        | int k =>
          show (match atI ms k with | some m => fCall m fas ρ1 | none => .bad) = tabR fas ρ1 (atI ms k)
          cases atI ms k <;> rfl
        | _ => rfl
    | _ => rfl
  · rw [if_neg h, decide_eq_false h]
    rfl
theorem kTab_e {ms : List FM} {fas : Rho → R (List W)} {k : Int} {ρ : Rho} : kTab ms fas (.d (.int k)) ρ = tabR fas ρ (atI ms k) := rfl
theorem tabR_e {m : FM} {fas : Rho → R (List W)} {ρ : Rho} : tabR fas ρ (some m) = fCall m fas ρ := rfl
theorem at_lt {α : Type} (xs : List α) (k : Nat) (x : α) (h : xs[k]? = some x) : atI xs (k : Int) = some x := by
  have hk : k < xs.length := (List.getElem?_eq_some_iff.mp h).1
  unfold atI ixN
  rw [if_pos (by omega), if_pos (by omega)]
  simpa using h
def isI (o : Option D) (i : Int) : Bool := match o with
  | some (.int j) => j == i
  | _ => false
theorem isI_eq {o : Option D} {i : Int} (h : isI o i = true) : o = some (.int i) := by
  unfold isI at h
  split at h
  · rw [eq_of_beq h]
  · cases h
def isDt (o : Option D) (x : D) : Bool := match o with
  | some y => deq y x
  | _ => false
theorem isDt_eq {o : Option D} {x : D} (h : isDt o x = true) : o = some x := by
  unfold isDt at h
  split at h
  · rw [deq_eq _ _ h]
  · cases h
end FL

namespace FL
open PySem L2
/-! ### moves of places -/
def addN (a b : Nat) : Nat := 9 * ((a / 9 + b / 9) % 3) + 3 * ((a / 3 % 3 + b / 3 % 3) % 3) + (a % 3 + b % 3) % 3
def dblN (a : Nat) : Nat := addN a a
def dgN (s n i : Nat) : Nat := n / 3 ^ (s - 1 - i) % 3
def putN (s n i v : Nat) : Nat := n - dgN s n i * 3 ^ (s - 1 - i) + v * 3 ^ (s - 1 - i)
def excN (s i j n : Nat) : Nat := putN s (putN s n i (dgN s n j)) j (dgN s n i)
def paN (s i j n : Nat) : Nat := putN s n j ((dgN s n j + dgN s n i) % 3)
def posB (s : Nat) (f : Nat → Bool) : Bool := (List.range s).all f
theorem posB_ok {s : Nat} {f : Nat → Bool} (h : posB s f = true) {i : Nat} (hi : i < s) : f i = true := List.all_eq_true.mp h i (List.mem_range.mpr hi)
theorem add_tab : (([1, 2, 3] : List Nat).all fun s => pairsB s fun a b => decide ((((dig s a).zip (dig s b)).map fun p => (p.1 + p.2).fmod 3) = dig s (addN a b)) && decide (addN a b < sz s)) = true := by decide +kernel
theorem dbl_tab : (([1, 2, 3] : List Nat).all fun s => onesB s fun a => decide ((dig s a).map (fun i => (2 * i).fmod 3) = dig s (dblN a)) && decide (dblN a < sz s)) = true := by decide +kernel
theorem idx_tab : (([1, 2, 3] : List Nat).all fun s => onesB s fun n => posB s fun i => isI (idxD (pt s n) (.int i)) (dgN s n i : Nat) && decide (dgN s n i < 3)) = true := by decide +kernel
theorem put_tab : (([1, 2, 3] : List Nat).all fun s => onesB s fun n => posB s fun i => posB 3 fun v => isRet (m_put [.d (pt s n), .d (.int i), .d (.int v)]) (pt s (putN s n i v)) [pt s n, .int i, .int v] && decide (putN s n i v < sz s)) = true := by decide +kernel
def mv (f : Nat → Nat) (L : List Nat) : List Nat := nsort (L.map f)
theorem run1 {n : Nat} {b : List Nat → Rho → R Fl} {x : D} : runF n b [.d x] = runO [.d x] (b [] (rho0 n [.d x])) := ev_run
theorem run3 {n : Nat} {b : List Nat → Rho → R Fl} {x y z : D} : runF n b [.d x, .d y, .d z] = runO [.d x, .d y, .d z] (b [] (rho0 n [.d x, .d y, .d z])) := ev_run
theorem run4 {n : Nat} {b : List Nat → Rho → R Fl} {x y z u : D} : runF n b [.d x, .d y, .d z, .d u] = runO [.d x, .d y, .d z, .d u] (b [] (rho0 n [.d x, .d y, .d z, .d u])) := ev_run
section
variable {s : Nat} (hs : Sz s)
include hs
theorem add_ok {a b : Nat} (ha : a < sz s) (hb : b < sz s) : (((dig s a).zip (dig s b)).map fun p => (p.1 + p.2).fmod 3) = dig s (addN a b) ∧ addN a b < sz s := by
  have q := pairsB_ok (three add_tab hs) ha hb
  simp only [Bool.and_eq_true, decide_eq_true_eq] at q
  exact q
theorem dbl_ok {a : Nat} (ha : a < sz s) : (dig s a).map (fun i => (2 * i).fmod 3) = dig s (dblN a) ∧ dblN a < sz s := by
  have q := onesB_ok (three dbl_tab hs) ha
  simp only [Bool.and_eq_true, decide_eq_true_eq] at q
  exact q
theorem idx_ok {n i : Nat} (hn : n < sz s) (hi : i < s) : idxD (pt s n) (.int i) = some (.int (dgN s n i : Nat)) ∧ dgN s n i < 3 := by
  have q := posB_ok (onesB_ok (three idx_tab hs) hn) hi
  simp only [Bool.and_eq_true, decide_eq_true_eq] at q
  exact ⟨isI_eq q.1, q.2⟩
theorem put_ok {n i v : Nat} (hn : n < sz s) (hi : i < s) (hv : v < 3) : m_put [.d (pt s n), .d (.int i), .d (.int v)] = .ret (.d (pt s (putN s n i v))) [.d (pt s n), .d (.int i), .d (.int v)] ∧ putN s n i v < sz s := by
  have q := posB_ok (posB_ok (onesB_ok (three put_tab hs) hn) hi) hv
  simp only [Bool.and_eq_true, decide_eq_true_eq] at q
  exact ⟨isRet_eq q.1, q.2⟩
theorem sort_map {f : Nat → Nat} {L : List Nat} (hf : ∀ a ∈ L, f a < sz s) (hl : L.length ≤ 1000) : sortD [.list (L.map fun n => pt s (f n))] = some (.list ((mv f L).map (pt s))) := by
  have e : (L.map fun n => pt s (f n)) = (L.map f).map (pt s) := by rw [List.map_map]; rfl
  rw [e]
  exact sort_pts hs (fun a ha => by
    obtain ⟨b, hb, rfl⟩ := List.mem_map.mp ha
    exact hf b hb) (by rw [List.length_map]; omega)
theorem added_spec {L : List Nat} (hL : ∀ a ∈ L, a < sz s) (hl : L.length ≤ 1000) {p : Nat} (hp : p < sz s) : m_added [.d (st s L), .d (pt s p)] = .ret (.d (st s (mv (fun a => addN a p) L))) [.d (st s L), .d (pt s p)] := by
  have inner : ∀ a ∈ L, fLc (fSrcs (fun _ => zipOf) (fCons (fVar 2) (fCons (fVar 1) fNil))) (.p 3 4) [3, 4] fYes (fBin modD (fBin addD (fVar 3) (fVar 4)) (fD (.int 3))) [some (.d (st s L)), some (.d (pt s p)), some (.d (pt s a)), none, none] = .ok (.d (.list ((dig s (addN a p)).map .int))) [some (.d (st s L)), some (.d (pt s p)), some (.d (pt s a)), none, none] := by
    intro a ha
    have hz : zipOf [.d (pt s a), .d (pt s p)] = some (((((dig s a).map PyData.int).zip ((dig s p).map PyData.int)).map fun x => .tuple [x.1, x.2]), none) := by
      show some (zipD _ _, none) = _
      rw [zipD_eq]
    have hlz : (((dig s a).map PyData.int).zip ((dig s p).map PyData.int)).length ≤ 1000000 := by
      rw [List.length_zip, List.length_map, dig_len hs]
      have : s ≤ 3 := by rcases hs with rfl | rfl | rfl <;> decide
      omega
    refine (fLc_p (fun _ _ => true) (fun x y => match x, y with | .int i, .int j => .int ((i + j).fmod 3) | _, _ => .none) (ρ1 := [some (.d (st s L)), some (.d (pt s p)), some (.d (pt s a)), none, none]) (dep := none) (fSrcs_of (ws := [.d (pt s a), .d (pt s p)]) rfl hz) hlz (by decide) (by simp) (by simp) rfl rfl rfl (fun x _ => rfl) (fun x hx _ => ?_)).trans ?_
    · have h1 := List.of_mem_zip hx
      obtain ⟨i, _, e1⟩ := List.mem_map.mp h1.1
      obtain ⟨j, _, e2⟩ := List.mem_map.mp h1.2
      obtain ⟨x1, x2⟩ := x
      simp only at e1 e2
      subst e1 e2
      simp -implicitDefEqProofs only [ev_seq, kSeq_nx, kSeq_rt, ev_next, ev_asg0, kAsg_d, ev_ret, kRet_d, ev_drop, kDrop_e, ev_ifS, kIf_t, kIf_f, ev_ifE, kIfE_t, kIfE_f, ev_D, ev_var, varS_d, varS_l, varS_z, varS_m, ev_bin, kBin1_e, kBin2_e, binR_e, optR_e, look_d, look_own, lookS_l, ev_nil, ev_cons, kCons1_e, kCons2_e, ev_CB, kCB_e, cbR_e, lookAll_nil, lookAll_cons, laR_e, ev_tup, kTup_e, tupR_e, ev_lst, kLst_e, lstR_e, datas_nil, datas_cons, ev_call, kCall_e, caR_e, frR_ret, frR_exc, argS_nil, argS_d, argS_own, argO_e, ownIx_nil, ownIx_d, ownIx_own, nodup0, nodup1, nodup01, putBack_nil, putBack_d, putBack_own, ev_asB, kAsB_b, ev_tand, kTAnd_t, kTAnd_f, ev_tor, kTOr_t, kTOr_f, ev_tnot, kTNot_e, ev_and, kAnd_t, kAnd_f, ev_or, kOr_t, kOr_f, ev_not, kNot_b, ev_own0, kOwn_e, ownR_e, ev_ownL0, kOwnL_e, ownLR_l, ownLR_t, R.bind_ok, R.bind_exc, Option.map_some, List.getElem?_cons_zero, List.getElem?_cons_succ, List.set_cons_zero, List.set_cons_succ, List.length_cons, List.length_nil, Nat.reduceAdd, Nat.reduceLeDiff, decide_true, decide_false, gR_t, Nat.le_refl, Nat.zero_le, addD_i, subD_i, ltD_i, gtD_i, leD_i, geD_i, len_l, len_t, tuple_l, list_l, list_t, is_b, isNot_b, isB_b, ev_src, kSrc_l, kSrc_t, ev_srcs, kSrcs_e, srcR_e, ev_aug0, augR_e, kAug_e, getL_e, getLS_l, ev_app, appR1_e, kApp_e, appR2_e, one_e, List.nil_append, List.cons_append, Nat.reduceLT, Nat.zero_lt_succ, ev_yes, ev_neg, kNeg_e, ev_part, kPart_e, ev_nopart, ev_sl, kSl1_e, kSl2_e, kSl3_e, slR_e, runO_rt, Bool.not_true, Bool.not_false, ev_par0, kPar_e, ev_try, tryR_ok, tryR_exc, ev_tab, kTab_e, tabR_e, and_self, and_true, true_and, mod_ok (show (3 : Int) ≠ 0 by decide)]
    · congr 3
      rw [← (add_ok hs (hL a ha) hp).1, List.filter_eq_self.mpr (fun _ _ => rfl), List.zip_map, List.map_map, List.map_map]
      rfl
  have outer : fLc (fSrc (fVar 0)) (.n 2) [2] fYes (fCB tupleD (fCons (fLc (fSrcs (fun _ => zipOf) (fCons (fVar 2) (fCons (fVar 1) fNil))) (.p 3 4) [3, 4] fYes (fBin modD (fBin addD (fVar 3) (fVar 4)) (fD (.int 3)))) fNil)) [some (.d (st s L)), some (.d (pt s p)), none, none, none] = .ok (.d (.list (L.map fun a => pt s (addN a p)))) [some (.d (st s L)), some (.d (pt s p)), none, none, none] := by
    refine (fLc_c (pt s) (xs := L) (fun _ => true) (fun a => pt s (addN a p)) (ρ1 := [some (.d (st s L)), some (.d (pt s p)), none, none, none]) (dep := none) rfl (by omega) (by simp) rfl rfl (fun _ _ => rfl) (fun a ha _ => ?_)).trans (by rw [List.filter_eq_self.mpr (fun _ _ => rfl)])
    have e := inner a ha
    simp -implicitDefEqProofs only [ev_seq, kSeq_nx, kSeq_rt, ev_next, ev_asg0, kAsg_d, ev_ret, kRet_d, ev_drop, kDrop_e, ev_ifS, kIf_t, kIf_f, ev_ifE, kIfE_t, kIfE_f, ev_D, ev_var, varS_d, varS_l, varS_z, varS_m, ev_bin, kBin1_e, kBin2_e, binR_e, optR_e, look_d, look_own, lookS_l, ev_nil, ev_cons, kCons1_e, kCons2_e, ev_CB, kCB_e, cbR_e, lookAll_nil, lookAll_cons, laR_e, ev_tup, kTup_e, tupR_e, ev_lst, kLst_e, lstR_e, datas_nil, datas_cons, ev_call, kCall_e, caR_e, frR_ret, frR_exc, argS_nil, argS_d, argS_own, argO_e, ownIx_nil, ownIx_d, ownIx_own, nodup0, nodup1, nodup01, putBack_nil, putBack_d, putBack_own, ev_asB, kAsB_b, ev_tand, kTAnd_t, kTAnd_f, ev_tor, kTOr_t, kTOr_f, ev_tnot, kTNot_e, ev_and, kAnd_t, kAnd_f, ev_or, kOr_t, kOr_f, ev_not, kNot_b, ev_own0, kOwn_e, ownR_e, ev_ownL0, kOwnL_e, ownLR_l, ownLR_t, R.bind_ok, R.bind_exc, Option.map_some, List.getElem?_cons_zero, List.getElem?_cons_succ, List.set_cons_zero, List.set_cons_succ, List.length_cons, List.length_nil, Nat.reduceAdd, Nat.reduceLeDiff, decide_true, decide_false, gR_t, Nat.le_refl, Nat.zero_le, addD_i, subD_i, ltD_i, gtD_i, leD_i, geD_i, len_l, len_t, tuple_l, list_l, list_t, is_b, isNot_b, isB_b, ev_src, kSrc_l, kSrc_t, ev_srcs, kSrcs_e, srcR_e, ev_aug0, augR_e, kAug_e, getL_e, getLS_l, ev_app, appR1_e, kApp_e, appR2_e, one_e, List.nil_append, List.cons_append, Nat.reduceLT, Nat.zero_lt_succ, ev_yes, ev_neg, kNeg_e, ev_part, kPart_e, ev_nopart, ev_sl, kSl1_e, kSl2_e, kSl3_e, slR_e, runO_rt, Bool.not_true, Bool.not_false, ev_par0, kPar_e, ev_try, tryR_ok, tryR_exc, ev_tab, kTab_e, tabR_e, and_self, and_true, true_and, e]
    rfl
  unfold m_added
  rw [run2]
  show runO _ (b_added [] [some (.d (st s L)), some (.d (pt s p)), none, none, none]) = _
  unfold b_added
  simp -implicitDefEqProofs only [ev_seq, kSeq_nx, kSeq_rt, ev_next, ev_asg0, kAsg_d, ev_ret, kRet_d, ev_drop, kDrop_e, ev_ifS, kIf_t, kIf_f, ev_ifE, kIfE_t, kIfE_f, ev_D, ev_var, varS_d, varS_l, varS_z, varS_m, ev_bin, kBin1_e, kBin2_e, binR_e, optR_e, look_d, look_own, lookS_l, ev_nil, ev_cons, kCons1_e, kCons2_e, ev_CB, kCB_e, cbR_e, lookAll_nil, lookAll_cons, laR_e, ev_tup, kTup_e, tupR_e, ev_lst, kLst_e, lstR_e, datas_nil, datas_cons, ev_call, kCall_e, caR_e, frR_ret, frR_exc, argS_nil, argS_d, argS_own, argO_e, ownIx_nil, ownIx_d, ownIx_own, nodup0, nodup1, nodup01, putBack_nil, putBack_d, putBack_own, ev_asB, kAsB_b, ev_tand, kTAnd_t, kTAnd_f, ev_tor, kTOr_t, kTOr_f, ev_tnot, kTNot_e, ev_and, kAnd_t, kAnd_f, ev_or, kOr_t, kOr_f, ev_not, kNot_b, ev_own0, kOwn_e, ownR_e, ev_ownL0, kOwnL_e, ownLR_l, ownLR_t, R.bind_ok, R.bind_exc, Option.map_some, List.getElem?_cons_zero, List.getElem?_cons_succ, List.set_cons_zero, List.set_cons_succ, List.length_cons, List.length_nil, Nat.reduceAdd, Nat.reduceLeDiff, decide_true, decide_false, gR_t, Nat.le_refl, Nat.zero_le, addD_i, subD_i, ltD_i, gtD_i, leD_i, geD_i, len_l, len_t, tuple_l, list_l, list_t, is_b, isNot_b, isB_b, ev_src, kSrc_l, kSrc_t, ev_srcs, kSrcs_e, srcR_e, ev_aug0, augR_e, kAug_e, getL_e, getLS_l, ev_app, appR1_e, kApp_e, appR2_e, one_e, List.nil_append, List.cons_append, Nat.reduceLT, Nat.zero_lt_succ, ev_yes, ev_neg, kNeg_e, ev_part, kPart_e, ev_nopart, ev_sl, kSl1_e, kSl2_e, kSl3_e, slR_e, runO_rt, Bool.not_true, Bool.not_false, ev_par0, kPar_e, ev_try, tryR_ok, tryR_exc, ev_tab, kTab_e, tabR_e, and_self, and_true, true_and, outer, sort_map hs (f := fun a => addN a p) (fun a ha => (add_ok hs (hL a ha) hp).2) hl]
  rfl
theorem doubled_spec {L : List Nat} (hL : ∀ a ∈ L, a < sz s) (hl : L.length ≤ 1000) : m_doubled [.d (st s L)] = .ret (.d (st s (mv dblN L))) [.d (st s L)] := by
  have inner : ∀ a ∈ L, fLc (fSrc (fVar 1)) (.n 2) [2] fYes (fBin modD (fBin mulD' (fD (.int 2)) (fVar 2)) (fD (.int 3))) [some (.d (st s L)), some (.d (pt s a)), none] = .ok (.d (.list ((dig s (dblN a)).map .int))) [some (.d (st s L)), some (.d (pt s a)), none] := by
    intro a ha
    have hd := dig_len hs a
    have h3 : s ≤ 3 := by rcases hs with rfl | rfl | rfl <;> decide
    refine (fLc_c PyData.int (xs := dig s a) (fun _ => true) (fun i => .int ((2 * i).fmod 3)) (ρ1 := [some (.d (st s L)), some (.d (pt s a)), none]) (dep := none) rfl (by omega) (by simp) rfl rfl (fun _ _ => rfl) (fun i _ _ => ?_)).trans ?_
    · have m : mulD' (.int 2) (.int i) = some (.int (2 * i)) := mul_ok (by decide) (by decide)
      simp -implicitDefEqProofs only [ev_seq, kSeq_nx, kSeq_rt, ev_next, ev_asg0, kAsg_d, ev_ret, kRet_d, ev_drop, kDrop_e, ev_ifS, kIf_t, kIf_f, ev_ifE, kIfE_t, kIfE_f, ev_D, ev_var, varS_d, varS_l, varS_z, varS_m, ev_bin, kBin1_e, kBin2_e, binR_e, optR_e, look_d, look_own, lookS_l, ev_nil, ev_cons, kCons1_e, kCons2_e, ev_CB, kCB_e, cbR_e, lookAll_nil, lookAll_cons, laR_e, ev_tup, kTup_e, tupR_e, ev_lst, kLst_e, lstR_e, datas_nil, datas_cons, ev_call, kCall_e, caR_e, frR_ret, frR_exc, argS_nil, argS_d, argS_own, argO_e, ownIx_nil, ownIx_d, ownIx_own, nodup0, nodup1, nodup01, putBack_nil, putBack_d, putBack_own, ev_asB, kAsB_b, ev_tand, kTAnd_t, kTAnd_f, ev_tor, kTOr_t, kTOr_f, ev_tnot, kTNot_e, ev_and, kAnd_t, kAnd_f, ev_or, kOr_t, kOr_f, ev_not, kNot_b, ev_own0, kOwn_e, ownR_e, ev_ownL0, kOwnL_e, ownLR_l, ownLR_t, R.bind_ok, R.bind_exc, Option.map_some, List.getElem?_cons_zero, List.getElem?_cons_succ, List.set_cons_zero, List.set_cons_succ, List.length_cons, List.length_nil, Nat.reduceAdd, Nat.reduceLeDiff, decide_true, decide_false, gR_t, Nat.le_refl, Nat.zero_le, addD_i, subD_i, ltD_i, gtD_i, leD_i, geD_i, len_l, len_t, tuple_l, list_l, list_t, is_b, isNot_b, isB_b, ev_src, kSrc_l, kSrc_t, ev_srcs, kSrcs_e, srcR_e, ev_aug0, augR_e, kAug_e, getL_e, getLS_l, ev_app, appR1_e, kApp_e, appR2_e, one_e, List.nil_append, List.cons_append, Nat.reduceLT, Nat.zero_lt_succ, ev_yes, ev_neg, kNeg_e, ev_part, kPart_e, ev_nopart, ev_sl, kSl1_e, kSl2_e, kSl3_e, slR_e, runO_rt, Bool.not_true, Bool.not_false, ev_par0, kPar_e, ev_try, tryR_ok, tryR_exc, ev_tab, kTab_e, tabR_e, and_self, and_true, true_and, m, mod_ok (show (3 : Int) ≠ 0 by decide)]
    · rw [← (dbl_ok hs (hL a ha)).1, List.filter_eq_self.mpr (fun _ _ => rfl), List.map_map]
      rfl
  have outer : fLc (fSrc (fVar 0)) (.n 1) [1] fYes (fCB tupleD (fCons (fLc (fSrc (fVar 1)) (.n 2) [2] fYes (fBin modD (fBin mulD' (fD (.int 2)) (fVar 2)) (fD (.int 3)))) fNil)) [some (.d (st s L)), none, none] = .ok (.d (.list (L.map fun a => pt s (dblN a)))) [some (.d (st s L)), none, none] := by
    refine (fLc_c (pt s) (xs := L) (fun _ => true) (fun a => pt s (dblN a)) (ρ1 := [some (.d (st s L)), none, none]) (dep := none) rfl (by omega) (by simp) rfl rfl (fun _ _ => rfl) (fun a ha _ => ?_)).trans (by rw [List.filter_eq_self.mpr (fun _ _ => rfl)])
    have e := inner a ha
    simp -implicitDefEqProofs only [ev_seq, kSeq_nx, kSeq_rt, ev_next, ev_asg0, kAsg_d, ev_ret, kRet_d, ev_drop, kDrop_e, ev_ifS, kIf_t, kIf_f, ev_ifE, kIfE_t, kIfE_f, ev_D, ev_var, varS_d, varS_l, varS_z, varS_m, ev_bin, kBin1_e, kBin2_e, binR_e, optR_e, look_d, look_own, lookS_l, ev_nil, ev_cons, kCons1_e, kCons2_e, ev_CB, kCB_e, cbR_e, lookAll_nil, lookAll_cons, laR_e, ev_tup, kTup_e, tupR_e, ev_lst, kLst_e, lstR_e, datas_nil, datas_cons, ev_call, kCall_e, caR_e, frR_ret, frR_exc, argS_nil, argS_d, argS_own, argO_e, ownIx_nil, ownIx_d, ownIx_own, nodup0, nodup1, nodup01, putBack_nil, putBack_d, putBack_own, ev_asB, kAsB_b, ev_tand, kTAnd_t, kTAnd_f, ev_tor, kTOr_t, kTOr_f, ev_tnot, kTNot_e, ev_and, kAnd_t, kAnd_f, ev_or, kOr_t, kOr_f, ev_not, kNot_b, ev_own0, kOwn_e, ownR_e, ev_ownL0, kOwnL_e, ownLR_l, ownLR_t, R.bind_ok, R.bind_exc, Option.map_some, List.getElem?_cons_zero, List.getElem?_cons_succ, List.set_cons_zero, List.set_cons_succ, List.length_cons, List.length_nil, Nat.reduceAdd, Nat.reduceLeDiff, decide_true, decide_false, gR_t, Nat.le_refl, Nat.zero_le, addD_i, subD_i, ltD_i, gtD_i, leD_i, geD_i, len_l, len_t, tuple_l, list_l, list_t, is_b, isNot_b, isB_b, ev_src, kSrc_l, kSrc_t, ev_srcs, kSrcs_e, srcR_e, ev_aug0, augR_e, kAug_e, getL_e, getLS_l, ev_app, appR1_e, kApp_e, appR2_e, one_e, List.nil_append, List.cons_append, Nat.reduceLT, Nat.zero_lt_succ, ev_yes, ev_neg, kNeg_e, ev_part, kPart_e, ev_nopart, ev_sl, kSl1_e, kSl2_e, kSl3_e, slR_e, runO_rt, Bool.not_true, Bool.not_false, ev_par0, kPar_e, ev_try, tryR_ok, tryR_exc, ev_tab, kTab_e, tabR_e, and_self, and_true, true_and, e]
    rfl
  unfold m_doubled
  rw [run1]
  show runO _ (b_doubled [] [some (.d (st s L)), none, none]) = _
  unfold b_doubled
  simp -implicitDefEqProofs only [ev_seq, kSeq_nx, kSeq_rt, ev_next, ev_asg0, kAsg_d, ev_ret, kRet_d, ev_drop, kDrop_e, ev_ifS, kIf_t, kIf_f, ev_ifE, kIfE_t, kIfE_f, ev_D, ev_var, varS_d, varS_l, varS_z, varS_m, ev_bin, kBin1_e, kBin2_e, binR_e, optR_e, look_d, look_own, lookS_l, ev_nil, ev_cons, kCons1_e, kCons2_e, ev_CB, kCB_e, cbR_e, lookAll_nil, lookAll_cons, laR_e, ev_tup, kTup_e, tupR_e, ev_lst, kLst_e, lstR_e, datas_nil, datas_cons, ev_call, kCall_e, caR_e, frR_ret, frR_exc, argS_nil, argS_d, argS_own, argO_e, ownIx_nil, ownIx_d, ownIx_own, nodup0, nodup1, nodup01, putBack_nil, putBack_d, putBack_own, ev_asB, kAsB_b, ev_tand, kTAnd_t, kTAnd_f, ev_tor, kTOr_t, kTOr_f, ev_tnot, kTNot_e, ev_and, kAnd_t, kAnd_f, ev_or, kOr_t, kOr_f, ev_not, kNot_b, ev_own0, kOwn_e, ownR_e, ev_ownL0, kOwnL_e, ownLR_l, ownLR_t, R.bind_ok, R.bind_exc, Option.map_some, List.getElem?_cons_zero, List.getElem?_cons_succ, List.set_cons_zero, List.set_cons_succ, List.length_cons, List.length_nil, Nat.reduceAdd, Nat.reduceLeDiff, decide_true, decide_false, gR_t, Nat.le_refl, Nat.zero_le, addD_i, subD_i, ltD_i, gtD_i, leD_i, geD_i, len_l, len_t, tuple_l, list_l, list_t, is_b, isNot_b, isB_b, ev_src, kSrc_l, kSrc_t, ev_srcs, kSrcs_e, srcR_e, ev_aug0, augR_e, kAug_e, getL_e, getLS_l, ev_app, appR1_e, kApp_e, appR2_e, one_e, List.nil_append, List.cons_append, Nat.reduceLT, Nat.zero_lt_succ, ev_yes, ev_neg, kNeg_e, ev_part, kPart_e, ev_nopart, ev_sl, kSl1_e, kSl2_e, kSl3_e, slR_e, runO_rt, Bool.not_true, Bool.not_false, ev_par0, kPar_e, ev_try, tryR_ok, tryR_exc, ev_tab, kTab_e, tabR_e, and_self, and_true, true_and, outer, sort_map hs (f := dblN) (fun a ha => (dbl_ok hs (hL a ha)).2) hl]
  rfl
theorem exchanged_spec {L : List Nat} (hL : ∀ a ∈ L, a < sz s) (hl : L.length ≤ 1000) {i j : Nat} (hi : i < s) (hj : j < s) : m_exchanged [.d (st s L), .d (.int i), .d (.int j)] = .ret (.d (st s (mv (excN s i j) L))) [.d (st s L), .d (.int i), .d (.int j)] := by
  have bd : ∀ a ∈ L, excN s i j a < sz s := fun a ha => (put_ok hs (put_ok hs (hL a ha) hi (idx_ok hs (hL a ha) hj).2).2 hj (idx_ok hs (hL a ha) hi).2).2
  have outer : fLc (fSrc (fVar 0)) (.n 3) [3] fYes (fCall m_put (fCons (fCall m_put (fCons (fVar 3) (fCons (fVar 1) (fCons (fBin idxD (fVar 3) (fVar 2)) fNil)))) (fCons (fVar 2) (fCons (fBin idxD (fVar 3) (fVar 1)) fNil)))) [some (.d (st s L)), some (.d (.int i)), some (.d (.int j)), none] = .ok (.d (.list (L.map fun a => pt s (excN s i j a)))) [some (.d (st s L)), some (.d (.int i)), some (.d (.int j)), none] := by
    refine (fLc_c (pt s) (xs := L) (fun _ => true) (fun a => pt s (excN s i j a)) (ρ1 := [some (.d (st s L)), some (.d (.int i)), some (.d (.int j)), none]) (dep := none) rfl (by omega) (by simp) rfl rfl (fun _ _ => rfl) (fun a ha _ => ?_)).trans (by rw [List.filter_eq_self.mpr (fun _ _ => rfl)])
    have a' := hL a ha
    have d1 := idx_ok hs a' hi
    have d2 := idx_ok hs a' hj
    have p1 := put_ok hs a' hi d2.2
    have p2 := put_ok hs p1.2 hj d1.2
    simp -implicitDefEqProofs only [ev_seq, kSeq_nx, kSeq_rt, ev_next, ev_asg0, kAsg_d, ev_ret, kRet_d, ev_drop, kDrop_e, ev_ifS, kIf_t, kIf_f, ev_ifE, kIfE_t, kIfE_f, ev_D, ev_var, varS_d, varS_l, varS_z, varS_m, ev_bin, kBin1_e, kBin2_e, binR_e, optR_e, look_d, look_own, lookS_l, ev_nil, ev_cons, kCons1_e, kCons2_e, ev_CB, kCB_e, cbR_e, lookAll_nil, lookAll_cons, laR_e, ev_tup, kTup_e, tupR_e, ev_lst, kLst_e, lstR_e, datas_nil, datas_cons, ev_call, kCall_e, caR_e, frR_ret, frR_exc, argS_nil, argS_d, argS_own, argO_e, ownIx_nil, ownIx_d, ownIx_own, nodup0, nodup1, nodup01, putBack_nil, putBack_d, putBack_own, ev_asB, kAsB_b, ev_tand, kTAnd_t, kTAnd_f, ev_tor, kTOr_t, kTOr_f, ev_tnot, kTNot_e, ev_and, kAnd_t, kAnd_f, ev_or, kOr_t, kOr_f, ev_not, kNot_b, ev_own0, kOwn_e, ownR_e, ev_ownL0, kOwnL_e, ownLR_l, ownLR_t, R.bind_ok, R.bind_exc, Option.map_some, List.getElem?_cons_zero, List.getElem?_cons_succ, List.set_cons_zero, List.set_cons_succ, List.length_cons, List.length_nil, Nat.reduceAdd, Nat.reduceLeDiff, decide_true, decide_false, gR_t, Nat.le_refl, Nat.zero_le, addD_i, subD_i, ltD_i, gtD_i, leD_i, geD_i, len_l, len_t, tuple_l, list_l, list_t, is_b, isNot_b, isB_b, ev_src, kSrc_l, kSrc_t, ev_srcs, kSrcs_e, srcR_e, ev_aug0, augR_e, kAug_e, getL_e, getLS_l, ev_app, appR1_e, kApp_e, appR2_e, one_e, List.nil_append, List.cons_append, Nat.reduceLT, Nat.zero_lt_succ, ev_yes, ev_neg, kNeg_e, ev_part, kPart_e, ev_nopart, ev_sl, kSl1_e, kSl2_e, kSl3_e, slR_e, runO_rt, Bool.not_true, Bool.not_false, ev_par0, kPar_e, ev_try, tryR_ok, tryR_exc, ev_tab, kTab_e, tabR_e, and_self, and_true, true_and, d1.1, d2.1, p1.1, p2.1]
    rfl
  unfold m_exchanged
  rw [run3]
  show runO _ (b_exchanged [] [some (.d (st s L)), some (.d (.int i)), some (.d (.int j)), none]) = _
  unfold b_exchanged
  simp -implicitDefEqProofs only [ev_seq, kSeq_nx, kSeq_rt, ev_next, ev_asg0, kAsg_d, ev_ret, kRet_d, ev_drop, kDrop_e, ev_ifS, kIf_t, kIf_f, ev_ifE, kIfE_t, kIfE_f, ev_D, ev_var, varS_d, varS_l, varS_z, varS_m, ev_bin, kBin1_e, kBin2_e, binR_e, optR_e, look_d, look_own, lookS_l, ev_nil, ev_cons, kCons1_e, kCons2_e, ev_CB, kCB_e, cbR_e, lookAll_nil, lookAll_cons, laR_e, ev_tup, kTup_e, tupR_e, ev_lst, kLst_e, lstR_e, datas_nil, datas_cons, ev_call, kCall_e, caR_e, frR_ret, frR_exc, argS_nil, argS_d, argS_own, argO_e, ownIx_nil, ownIx_d, ownIx_own, nodup0, nodup1, nodup01, putBack_nil, putBack_d, putBack_own, ev_asB, kAsB_b, ev_tand, kTAnd_t, kTAnd_f, ev_tor, kTOr_t, kTOr_f, ev_tnot, kTNot_e, ev_and, kAnd_t, kAnd_f, ev_or, kOr_t, kOr_f, ev_not, kNot_b, ev_own0, kOwn_e, ownR_e, ev_ownL0, kOwnL_e, ownLR_l, ownLR_t, R.bind_ok, R.bind_exc, Option.map_some, List.getElem?_cons_zero, List.getElem?_cons_succ, List.set_cons_zero, List.set_cons_succ, List.length_cons, List.length_nil, Nat.reduceAdd, Nat.reduceLeDiff, decide_true, decide_false, gR_t, Nat.le_refl, Nat.zero_le, addD_i, subD_i, ltD_i, gtD_i, leD_i, geD_i, len_l, len_t, tuple_l, list_l, list_t, is_b, isNot_b, isB_b, ev_src, kSrc_l, kSrc_t, ev_srcs, kSrcs_e, srcR_e, ev_aug0, augR_e, kAug_e, getL_e, getLS_l, ev_app, appR1_e, kApp_e, appR2_e, one_e, List.nil_append, List.cons_append, Nat.reduceLT, Nat.zero_lt_succ, ev_yes, ev_neg, kNeg_e, ev_part, kPart_e, ev_nopart, ev_sl, kSl1_e, kSl2_e, kSl3_e, slR_e, runO_rt, Bool.not_true, Bool.not_false, ev_par0, kPar_e, ev_try, tryR_ok, tryR_exc, ev_tab, kTab_e, tabR_e, and_self, and_true, true_and, outer, sort_map hs (f := excN s i j) bd hl]
  rfl
theorem pos_added_spec {L : List Nat} (hL : ∀ a ∈ L, a < sz s) (hl : L.length ≤ 1000) {i j : Nat} (hi : i < s) (hj : j < s) : m_position_added [.d (st s L), .d (.int i), .d (.int j)] = .ret (.d (st s (mv (paN s i j) L))) [.d (st s L), .d (.int i), .d (.int j)] := by
  have md : ∀ a, (dgN s a j + dgN s a i) % 3 < 3 := fun a => Nat.mod_lt _ (by decide)
  have bd : ∀ a ∈ L, paN s i j a < sz s := fun a ha => (put_ok hs (hL a ha) hj (md a)).2
  have outer : fLc (fSrc (fVar 0)) (.n 3) [3] fYes (fCall m_put (fCons (fVar 3) (fCons (fVar 2) (fCons (fBin modD (fBin addD (fBin idxD (fVar 3) (fVar 2)) (fBin idxD (fVar 3) (fVar 1))) (fD (.int 3))) fNil)))) [some (.d (st s L)), some (.d (.int i)), some (.d (.int j)), none] = .ok (.d (.list (L.map fun a => pt s (paN s i j a)))) [some (.d (st s L)), some (.d (.int i)), some (.d (.int j)), none] := by
    refine (fLc_c (pt s) (xs := L) (fun _ => true) (fun a => pt s (paN s i j a)) (ρ1 := [some (.d (st s L)), some (.d (.int i)), some (.d (.int j)), none]) (dep := none) rfl (by omega) (by simp) rfl rfl (fun _ _ => rfl) (fun a ha _ => ?_)).trans (by rw [List.filter_eq_self.mpr (fun _ _ => rfl)])
    have a' := hL a ha
    have d1 := idx_ok hs a' hi
    have d2 := idx_ok hs a' hj
    have p1 := put_ok hs a' hj (md a)
    have e : ((dgN s a j : Nat) : Int) + ((dgN s a i : Nat) : Int) = ((dgN s a j + dgN s a i : Nat) : Int) := by omega
    have m3 : modD (.int ((dgN s a j + dgN s a i : Nat) : Int)) (.int 3) = some (.int (((dgN s a j + dgN s a i) % 3 : Nat) : Int)) := by
      rw [mod_ok (show (3 : Int) ≠ 0 by decide)]
      congr 2
      exact Int.fmod_eq_emod_of_nonneg _ (by decide)
    simp -implicitDefEqProofs only [ev_seq, kSeq_nx, kSeq_rt, ev_next, ev_asg0, kAsg_d, ev_ret, kRet_d, ev_drop, kDrop_e, ev_ifS, kIf_t, kIf_f, ev_ifE, kIfE_t, kIfE_f, ev_D, ev_var, varS_d, varS_l, varS_z, varS_m, ev_bin, kBin1_e, kBin2_e, binR_e, optR_e, look_d, look_own, lookS_l, ev_nil, ev_cons, kCons1_e, kCons2_e, ev_CB, kCB_e, cbR_e, lookAll_nil, lookAll_cons, laR_e, ev_tup, kTup_e, tupR_e, ev_lst, kLst_e, lstR_e, datas_nil, datas_cons, ev_call, kCall_e, caR_e, frR_ret, frR_exc, argS_nil, argS_d, argS_own, argO_e, ownIx_nil, ownIx_d, ownIx_own, nodup0, nodup1, nodup01, putBack_nil, putBack_d, putBack_own, ev_asB, kAsB_b, ev_tand, kTAnd_t, kTAnd_f, ev_tor, kTOr_t, kTOr_f, ev_tnot, kTNot_e, ev_and, kAnd_t, kAnd_f, ev_or, kOr_t, kOr_f, ev_not, kNot_b, ev_own0, kOwn_e, ownR_e, ev_ownL0, kOwnL_e, ownLR_l, ownLR_t, R.bind_ok, R.bind_exc, Option.map_some, List.getElem?_cons_zero, List.getElem?_cons_succ, List.set_cons_zero, List.set_cons_succ, List.length_cons, List.length_nil, Nat.reduceAdd, Nat.reduceLeDiff, decide_true, decide_false, gR_t, Nat.le_refl, Nat.zero_le, addD_i, subD_i, ltD_i, gtD_i, leD_i, geD_i, len_l, len_t, tuple_l, list_l, list_t, is_b, isNot_b, isB_b, ev_src, kSrc_l, kSrc_t, ev_srcs, kSrcs_e, srcR_e, ev_aug0, augR_e, kAug_e, getL_e, getLS_l, ev_app, appR1_e, kApp_e, appR2_e, one_e, List.nil_append, List.cons_append, Nat.reduceLT, Nat.zero_lt_succ, ev_yes, ev_neg, kNeg_e, ev_part, kPart_e, ev_nopart, ev_sl, kSl1_e, kSl2_e, kSl3_e, slR_e, runO_rt, Bool.not_true, Bool.not_false, ev_par0, kPar_e, ev_try, tryR_ok, tryR_exc, ev_tab, kTab_e, tabR_e, and_self, and_true, true_and, d1.1, d2.1, e, m3, p1.1]
    rfl
  unfold m_position_added
  rw [run3]
  show runO _ (b_position_added [] [some (.d (st s L)), some (.d (.int i)), some (.d (.int j)), none]) = _
  unfold b_position_added
  simp -implicitDefEqProofs only [ev_seq, kSeq_nx, kSeq_rt, ev_next, ev_asg0, kAsg_d, ev_ret, kRet_d, ev_drop, kDrop_e, ev_ifS, kIf_t, kIf_f, ev_ifE, kIfE_t, kIfE_f, ev_D, ev_var, varS_d, varS_l, varS_z, varS_m, ev_bin, kBin1_e, kBin2_e, binR_e, optR_e, look_d, look_own, lookS_l, ev_nil, ev_cons, kCons1_e, kCons2_e, ev_CB, kCB_e, cbR_e, lookAll_nil, lookAll_cons, laR_e, ev_tup, kTup_e, tupR_e, ev_lst, kLst_e, lstR_e, datas_nil, datas_cons, ev_call, kCall_e, caR_e, frR_ret, frR_exc, argS_nil, argS_d, argS_own, argO_e, ownIx_nil, ownIx_d, ownIx_own, nodup0, nodup1, nodup01, putBack_nil, putBack_d, putBack_own, ev_asB, kAsB_b, ev_tand, kTAnd_t, kTAnd_f, ev_tor, kTOr_t, kTOr_f, ev_tnot, kTNot_e, ev_and, kAnd_t, kAnd_f, ev_or, kOr_t, kOr_f, ev_not, kNot_b, ev_own0, kOwn_e, ownR_e, ev_ownL0, kOwnL_e, ownLR_l, ownLR_t, R.bind_ok, R.bind_exc, Option.map_some, List.getElem?_cons_zero, List.getElem?_cons_succ, List.set_cons_zero, List.set_cons_succ, List.length_cons, List.length_nil, Nat.reduceAdd, Nat.reduceLeDiff, decide_true, decide_false, gR_t, Nat.le_refl, Nat.zero_le, addD_i, subD_i, ltD_i, gtD_i, leD_i, geD_i, len_l, len_t, tuple_l, list_l, list_t, is_b, isNot_b, isB_b, ev_src, kSrc_l, kSrc_t, ev_srcs, kSrcs_e, srcR_e, ev_aug0, augR_e, kAug_e, getL_e, getLS_l, ev_app, appR1_e, kApp_e, appR2_e, one_e, List.nil_append, List.cons_append, Nat.reduceLT, Nat.zero_lt_succ, ev_yes, ev_neg, kNeg_e, ev_part, kPart_e, ev_nopart, ev_sl, kSl1_e, kSl2_e, kSl3_e, slR_e, runO_rt, Bool.not_true, Bool.not_false, ev_par0, kPar_e, ev_try, tryR_ok, tryR_exc, ev_tab, kTab_e, tabR_e, and_self, and_true, true_and, outer, sort_map hs (f := paN s i j) bd hl]
  rfl
theorem mem_mv {f : Nat → Nat} {L : List Nat} {x : Nat} : x ∈ mv f L ↔ ∃ a ∈ L, f a = x := by
  unfold mv
  rw [(nsort_perm _).mem_iff, List.mem_map]
theorem mv_len {f : Nat → Nat} {L : List Nat} : (mv f L).length = L.length := by
  unfold mv
  rw [(nsort_perm _).length_eq, List.length_map]
theorem mv_ok {f : Nat → Nat} (hf : ∀ a, a < sz s → f a < sz s) (hi : ∀ a b, a < sz s → b < sz s → f a = f b → a = b) {L : List Nat} (hL : OkSet s L) : OkSet s (mv f L) := by
  refine ⟨nsort_lt ?_, fun x hx => ?_⟩
  · have hn := srt_nodup hL.srt
    refine List.pairwise_map.mpr ?_
    refine List.Pairwise.imp_of_mem (fun {a b} ha hb hab e => hab ?_) hn
    exact hi a b (hL.lt a ha) (hL.lt b hb) e
  · obtain ⟨a, ha, rfl⟩ := (mem_mv hs).mp hx
    exact hf a (hL.lt a ha)
end
end FL

namespace FL
open PySem L2
/-! ### moves of sets -/
theorem pos_tab : (([1, 2, 3] : List Nat).all fun s => posB s fun i => posB s fun j => decide (i = j) || isRet (m_check_positions [.d (.int s), .d (.int i), .d (.int j)]) .none [.int s, .int i, .int j]) = true := by decide +kernel
/-- a move: it keeps the board and lines -/
structure Mv (s : Nat) (f : Nat → Nat) : Prop where
  lt : ∀ a, a < sz s → f a < sz s
  inj : ∀ a b, a < sz s → b < sz s → f a = f b → a = b
  th : ∀ a b, a < sz s → b < sz s → th (f a) (f b) = f (th a b)
def mvB (s : Nat) (f : Nat → Nat) : Bool := pairsB s fun a b => decide (f a < sz s) && (!decide (f a = f b) || decide (a = b)) && decide (th (f a) (f b) = f (th a b))
theorem mvB_ok {s : Nat} {f : Nat → Nat} (h : mvB s f = true) : Mv s f := by
  have q : ∀ a b, a < sz s → b < sz s → f a < sz s ∧ (f a = f b → a = b) ∧ FL.th (f a) (f b) = f (FL.th a b) := by
    intro a b ha hb
    have := pairsB_ok h ha hb
    simp only [Bool.and_eq_true, Bool.or_eq_true, decide_eq_true_eq, Bool.not_eq_true', decide_eq_false_iff_not] at this
    refine ⟨this.1.1, fun e => ?_, this.2⟩
    rcases this.1.2 with z | z
    · exact absurd e z
    · exact z
  exact ⟨fun a ha => (q a a ha ha).1, fun a b ha hb e => (q a b ha hb).2.1 e, fun a b ha hb => (q a b ha hb).2.2⟩
theorem mvA_tab : (([1, 2, 3] : List Nat).all fun s => onesB s fun p => mvB s fun a => addN a p) = true := by decide +kernel
theorem mvD_tab : (([1, 2, 3] : List Nat).all fun s => mvB s dblN) = true := by decide +kernel
theorem mvX_tab : (([1, 2, 3] : List Nat).all fun s => posB s fun i => posB s fun j => decide (i = j) || (mvB s (excN s i j) && mvB s (paN s i j))) = true := by decide +kernel
section
variable {s : Nat} (hs : Sz s)
include hs
theorem mvA {p : Nat} (hp : p < sz s) : Mv s fun a => addN a p := mvB_ok (onesB_ok (three mvA_tab hs) hp)
theorem mvD : Mv s dblN := mvB_ok (three mvD_tab hs)
theorem mvX {i j : Nat} (hi : i < s) (hj : j < s) (hij : i ≠ j) : Mv s (excN s i j) ∧ Mv s (paN s i j) := by
  have q := posB_ok (posB_ok (three mvX_tab hs) hi) hj
  simp only [Bool.or_eq_true, Bool.and_eq_true, decide_eq_true_eq, hij, false_or] at q
  exact ⟨mvB_ok q.1, mvB_ok q.2⟩
theorem pos_ok {i j : Nat} (hi : i < s) (hj : j < s) (hij : i ≠ j) : m_check_positions [.d (.int s), .d (.int i), .d (.int j)] = .ret (.d .none) [.d (.int s), .d (.int i), .d (.int j)] := by
  have q := posB_ok (posB_ok (three pos_tab hs) hi) hj
  simp only [Bool.or_eq_true, decide_eq_true_eq, hij, false_or] at q
  exact isRet_eq q
theorem Mv.ok {f : Nat → Nat} (m : Mv s f) {L : List Nat} (hL : OkSet s L) : OkSet s (mv f L) := mv_ok hs m.lt m.inj hL
variable {L : List Nat} (hL : OkSet s L)
include hL
theorem len1000 : L.length ≤ 1000 := Nat.le_trans (len27 hs hL) (by decide)
theorem add_place_spec {p : Nat} (hp : p < sz s) : m_add_place [.d (.int s), .d (st s L), .d (pt s p)] = .ret (.d (st s (mv (fun a => addN a p) L))) [.d (.int s), .d (st s L), .d (pt s p)] := by
  unfold m_add_place
  rw [run3]
  show runO _ (b_add_place [] [some (.d (.int s)), some (.d (st s L)), some (.d (pt s p))]) = _
  unfold b_add_place
  simp -implicitDefEqProofs only [ev_seq, kSeq_nx, kSeq_rt, ev_next, ev_asg0, kAsg_d, ev_ret, kRet_d, ev_drop, kDrop_e, ev_ifS, kIf_t, kIf_f, ev_ifE, kIfE_t, kIfE_f, ev_D, ev_var, varS_d, varS_l, varS_z, varS_m, ev_bin, kBin1_e, kBin2_e, binR_e, optR_e, look_d, look_own, lookS_l, ev_nil, ev_cons, kCons1_e, kCons2_e, ev_CB, kCB_e, cbR_e, lookAll_nil, lookAll_cons, laR_e, ev_tup, kTup_e, tupR_e, ev_lst, kLst_e, lstR_e, datas_nil, datas_cons, ev_call, kCall_e, caR_e, frR_ret, frR_exc, argS_nil, argS_d, argS_own, argO_e, ownIx_nil, ownIx_d, ownIx_own, nodup0, nodup1, nodup01, putBack_nil, putBack_d, putBack_own, ev_asB, kAsB_b, ev_tand, kTAnd_t, kTAnd_f, ev_tor, kTOr_t, kTOr_f, ev_tnot, kTNot_e, ev_and, kAnd_t, kAnd_f, ev_or, kOr_t, kOr_f, ev_not, kNot_b, ev_own0, kOwn_e, ownR_e, ev_ownL0, kOwnL_e, ownLR_l, ownLR_t, R.bind_ok, R.bind_exc, Option.map_some, List.getElem?_cons_zero, List.getElem?_cons_succ, List.set_cons_zero, List.set_cons_succ, List.length_cons, List.length_nil, Nat.reduceAdd, Nat.reduceLeDiff, decide_true, decide_false, gR_t, Nat.le_refl, Nat.zero_le, addD_i, subD_i, ltD_i, gtD_i, leD_i, geD_i, len_l, len_t, tuple_l, list_l, list_t, is_b, isNot_b, isB_b, ev_src, kSrc_l, kSrc_t, ev_srcs, kSrcs_e, srcR_e, ev_aug0, augR_e, kAug_e, getL_e, getLS_l, ev_app, appR1_e, kApp_e, appR2_e, one_e, List.nil_append, List.cons_append, Nat.reduceLT, Nat.zero_lt_succ, ev_yes, ev_neg, kNeg_e, ev_part, kPart_e, ev_nopart, ev_sl, kSl1_e, kSl2_e, kSl3_e, slR_e, runO_rt, Bool.not_true, Bool.not_false, ev_par0, kPar_e, ev_try, tryR_ok, tryR_exc, ev_tab, kTab_e, tabR_e, and_self, and_true, true_and, check_set_spec hs hL, fits_spec hs hp, added_spec hs hL.lt (len1000 hs hL) hp]
  rfl
theorem double_spec : m_double [.d (.int s), .d (st s L)] = .ret (.d (st s (mv dblN L))) [.d (.int s), .d (st s L)] := by
  unfold m_double
  rw [run2]
  show runO _ (b_double [] [some (.d (.int s)), some (.d (st s L))]) = _
  unfold b_double
  simp -implicitDefEqProofs only [ev_seq, kSeq_nx, kSeq_rt, ev_next, ev_asg0, kAsg_d, ev_ret, kRet_d, ev_drop, kDrop_e, ev_ifS, kIf_t, kIf_f, ev_ifE, kIfE_t, kIfE_f, ev_D, ev_var, varS_d, varS_l, varS_z, varS_m, ev_bin, kBin1_e, kBin2_e, binR_e, optR_e, look_d, look_own, lookS_l, ev_nil, ev_cons, kCons1_e, kCons2_e, ev_CB, kCB_e, cbR_e, lookAll_nil, lookAll_cons, laR_e, ev_tup, kTup_e, tupR_e, ev_lst, kLst_e, lstR_e, datas_nil, datas_cons, ev_call, kCall_e, caR_e, frR_ret, frR_exc, argS_nil, argS_d, argS_own, argO_e, ownIx_nil, ownIx_d, ownIx_own, nodup0, nodup1, nodup01, putBack_nil, putBack_d, putBack_own, ev_asB, kAsB_b, ev_tand, kTAnd_t, kTAnd_f, ev_tor, kTOr_t, kTOr_f, ev_tnot, kTNot_e, ev_and, kAnd_t, kAnd_f, ev_or, kOr_t, kOr_f, ev_not, kNot_b, ev_own0, kOwn_e, ownR_e, ev_ownL0, kOwnL_e, ownLR_l, ownLR_t, R.bind_ok, R.bind_exc, Option.map_some, List.getElem?_cons_zero, List.getElem?_cons_succ, List.set_cons_zero, List.set_cons_succ, List.length_cons, List.length_nil, Nat.reduceAdd, Nat.reduceLeDiff, decide_true, decide_false, gR_t, Nat.le_refl, Nat.zero_le, addD_i, subD_i, ltD_i, gtD_i, leD_i, geD_i, len_l, len_t, tuple_l, list_l, list_t, is_b, isNot_b, isB_b, ev_src, kSrc_l, kSrc_t, ev_srcs, kSrcs_e, srcR_e, ev_aug0, augR_e, kAug_e, getL_e, getLS_l, ev_app, appR1_e, kApp_e, appR2_e, one_e, List.nil_append, List.cons_append, Nat.reduceLT, Nat.zero_lt_succ, ev_yes, ev_neg, kNeg_e, ev_part, kPart_e, ev_nopart, ev_sl, kSl1_e, kSl2_e, kSl3_e, slR_e, runO_rt, Bool.not_true, Bool.not_false, ev_par0, kPar_e, ev_try, tryR_ok, tryR_exc, ev_tab, kTab_e, tabR_e, and_self, and_true, true_and, check_set_spec hs hL, doubled_spec hs hL.lt (len1000 hs hL)]
  rfl
theorem exchange_spec {i j : Nat} (hi : i < s) (hj : j < s) (hij : i ≠ j) : m_exchange [.d (.int s), .d (st s L), .d (.int i), .d (.int j)] = .ret (.d (st s (mv (excN s i j) L))) [.d (.int s), .d (st s L), .d (.int i), .d (.int j)] := by
  unfold m_exchange
  rw [run4]
  show runO _ (b_exchange [] [some (.d (.int s)), some (.d (st s L)), some (.d (.int i)), some (.d (.int j))]) = _
  unfold b_exchange
  simp -implicitDefEqProofs only [ev_seq, kSeq_nx, kSeq_rt, ev_next, ev_asg0, kAsg_d, ev_ret, kRet_d, ev_drop, kDrop_e, ev_ifS, kIf_t, kIf_f, ev_ifE, kIfE_t, kIfE_f, ev_D, ev_var, varS_d, varS_l, varS_z, varS_m, ev_bin, kBin1_e, kBin2_e, binR_e, optR_e, look_d, look_own, lookS_l, ev_nil, ev_cons, kCons1_e, kCons2_e, ev_CB, kCB_e, cbR_e, lookAll_nil, lookAll_cons, laR_e, ev_tup, kTup_e, tupR_e, ev_lst, kLst_e, lstR_e, datas_nil, datas_cons, ev_call, kCall_e, caR_e, frR_ret, frR_exc, argS_nil, argS_d, argS_own, argO_e, ownIx_nil, ownIx_d, ownIx_own, nodup0, nodup1, nodup01, putBack_nil, putBack_d, putBack_own, ev_asB, kAsB_b, ev_tand, kTAnd_t, kTAnd_f, ev_tor, kTOr_t, kTOr_f, ev_tnot, kTNot_e, ev_and, kAnd_t, kAnd_f, ev_or, kOr_t, kOr_f, ev_not, kNot_b, ev_own0, kOwn_e, ownR_e, ev_ownL0, kOwnL_e, ownLR_l, ownLR_t, R.bind_ok, R.bind_exc, Option.map_some, List.getElem?_cons_zero, List.getElem?_cons_succ, List.set_cons_zero, List.set_cons_succ, List.length_cons, List.length_nil, Nat.reduceAdd, Nat.reduceLeDiff, decide_true, decide_false, gR_t, Nat.le_refl, Nat.zero_le, addD_i, subD_i, ltD_i, gtD_i, leD_i, geD_i, len_l, len_t, tuple_l, list_l, list_t, is_b, isNot_b, isB_b, ev_src, kSrc_l, kSrc_t, ev_srcs, kSrcs_e, srcR_e, ev_aug0, augR_e, kAug_e, getL_e, getLS_l, ev_app, appR1_e, kApp_e, appR2_e, one_e, List.nil_append, List.cons_append, Nat.reduceLT, Nat.zero_lt_succ, ev_yes, ev_neg, kNeg_e, ev_part, kPart_e, ev_nopart, ev_sl, kSl1_e, kSl2_e, kSl3_e, slR_e, runO_rt, Bool.not_true, Bool.not_false, ev_par0, kPar_e, ev_try, tryR_ok, tryR_exc, ev_tab, kTab_e, tabR_e, and_self, and_true, true_and, check_set_spec hs hL, pos_ok hs hi hj hij, exchanged_spec hs hL.lt (len1000 hs hL) hi hj]
  rfl
theorem add_position_spec {i j : Nat} (hi : i < s) (hj : j < s) (hij : i ≠ j) : m_add_position [.d (.int s), .d (st s L), .d (.int i), .d (.int j)] = .ret (.d (st s (mv (paN s i j) L))) [.d (.int s), .d (st s L), .d (.int i), .d (.int j)] := by
  unfold m_add_position
  rw [run4]
  show runO _ (b_add_position [] [some (.d (.int s)), some (.d (st s L)), some (.d (.int i)), some (.d (.int j))]) = _
  unfold b_add_position
  simp -implicitDefEqProofs only [ev_seq, kSeq_nx, kSeq_rt, ev_next, ev_asg0, kAsg_d, ev_ret, kRet_d, ev_drop, kDrop_e, ev_ifS, kIf_t, kIf_f, ev_ifE, kIfE_t, kIfE_f, ev_D, ev_var, varS_d, varS_l, varS_z, varS_m, ev_bin, kBin1_e, kBin2_e, binR_e, optR_e, look_d, look_own, lookS_l, ev_nil, ev_cons, kCons1_e, kCons2_e, ev_CB, kCB_e, cbR_e, lookAll_nil, lookAll_cons, laR_e, ev_tup, kTup_e, tupR_e, ev_lst, kLst_e, lstR_e, datas_nil, datas_cons, ev_call, kCall_e, caR_e, frR_ret, frR_exc, argS_nil, argS_d, argS_own, argO_e, ownIx_nil, ownIx_d, ownIx_own, nodup0, nodup1, nodup01, putBack_nil, putBack_d, putBack_own, ev_asB, kAsB_b, ev_tand, kTAnd_t, kTAnd_f, ev_tor, kTOr_t, kTOr_f, ev_tnot, kTNot_e, ev_and, kAnd_t, kAnd_f, ev_or, kOr_t, kOr_f, ev_not, kNot_b, ev_own0, kOwn_e, ownR_e, ev_ownL0, kOwnL_e, ownLR_l, ownLR_t, R.bind_ok, R.bind_exc, Option.map_some, List.getElem?_cons_zero, List.getElem?_cons_succ, List.set_cons_zero, List.set_cons_succ, List.length_cons, List.length_nil, Nat.reduceAdd, Nat.reduceLeDiff, decide_true, decide_false, gR_t, Nat.le_refl, Nat.zero_le, addD_i, subD_i, ltD_i, gtD_i, leD_i, geD_i, len_l, len_t, tuple_l, list_l, list_t, is_b, isNot_b, isB_b, ev_src, kSrc_l, kSrc_t, ev_srcs, kSrcs_e, srcR_e, ev_aug0, augR_e, kAug_e, getL_e, getLS_l, ev_app, appR1_e, kApp_e, appR2_e, one_e, List.nil_append, List.cons_append, Nat.reduceLT, Nat.zero_lt_succ, ev_yes, ev_neg, kNeg_e, ev_part, kPart_e, ev_nopart, ev_sl, kSl1_e, kSl2_e, kSl3_e, slR_e, runO_rt, Bool.not_true, Bool.not_false, ev_par0, kPar_e, ev_try, tryR_ok, tryR_exc, ev_tab, kTab_e, tabR_e, and_self, and_true, true_and, check_set_spec hs hL, pos_ok hs hi hj hij, pos_added_spec hs hL.lt (len1000 hs hL) hi hj]
  rfl
/-- moved sets: free as they were -/
theorem mv_free {f : Nat → Nat} (m : Mv s f) : ll (mv f L) = [] ↔ ll L = [] := by
  have ok := m.ok hs hL
  rw [free_iff hs ok, free_iff hs hL]
  constructor
  · intro h a ha b hb hab hc
    have ha' := hL.lt a ha
    have hb' := hL.lt b hb
    refine h (f a) ((mem_mv hs).mpr ⟨a, ha, rfl⟩) (f b) ((mem_mv hs).mpr ⟨b, hb, rfl⟩) (fun e => hab (m.inj a b ha' hb' e)) ?_
    rw [m.th a b ha' hb']
    exact (mem_mv hs).mpr ⟨_, hc, rfl⟩
  · intro h x hx y hy hxy hc
    obtain ⟨a, ha, rfl⟩ := (mem_mv hs).mp hx
    obtain ⟨b, hb, rfl⟩ := (mem_mv hs).mp hy
    have ha' := hL.lt a ha
    have hb' := hL.lt b hb
    rw [m.th a b ha' hb'] at hc
    obtain ⟨c, hc', e⟩ := (mem_mv hs).mp hc
    have := m.inj c (FL.th a b) (hL.lt c hc') (th_lt hs ha' hb') e
    subst this
    exact h a ha b hb (fun z => hxy (by rw [z])) hc'
end
end FL

namespace FL
open PySem L2
/-! ### alike_to: what it finds -/
theorem Sz2 : Sz 2 := .inr (.inl rfl)
def mvs : List (Nat → Nat) := [fun a => addN a 1, fun a => addN a 3, dblN, excN 2 0 1, paN 2 0 1]
theorem mvs_ok : ∀ f ∈ mvs, Mv 2 f := by
  intro f hf
  simp only [mvs, List.mem_cons, List.not_mem_nil, or_false] at hf
  rcases hf with rfl | rfl | rfl | rfl | rfl
  · exact mvA Sz2 (by decide)
  · exact mvA Sz2 (by decide)
  · exact mvD Sz2
  · exact (mvX Sz2 (by decide) (by decide) (by decide)).1
  · exact (mvX Sz2 (by decide) (by decide) (by decide)).2
/-- one set after another -/
def ksAdd (p : List (List Nat) × List (List Nat)) (x : List Nat) : List (List Nat) × List (List Nat) := if x ∈ p.1 then p else (p.1 ++ [x], p.2 ++ [x])
def ksAll (K S : List (List Nat)) (xs : List (List Nat)) : List (List Nat) × List (List Nat) := xs.foldl ksAdd (K, S)
def after (X : List Nat) : List (List Nat) := mvs.map fun f => mv f X
/-- keys: different sets of the board -/
structure Keys (K : List (List Nat)) : Prop where
  nd : K.Nodup
  ok : ∀ X ∈ K, OkSet 2 X
abbrev kw (X : List Nat) : D × D := (st 2 X, .bool true)
theorem deq_nod {x y : D} (h : nod x = true) : deq x y = true ↔ x = y := ⟨deq_eq x y, fun e => e ▸ deq_refl x h⟩
theorem st_inj {X Y : List Nat} (h1 : ∀ a ∈ X, a < sz 2) (h2 : ∀ a ∈ Y, a < sz 2) (h : st 2 X = st 2 Y) : X = Y := by
  have e : X.map (pt 2) = Y.map (pt 2) := by injection h
  have q := eqv_pts Sz2 h1 h2
  rw [e, eqv_selfs 7 _ (shp_pts _ 2 Y)] at q
  exact of_decide_eq_true q.symm
theorem nod_set (X : List Nat) : nod (st 2 X) = true := by
  show nod (.tuple (X.map (pt 2))) = true
  rw [nod]
  exact nod_pts 2 X
theorem deq_set {X Y : List Nat} (h1 : ∀ a ∈ X, a < sz 2) (h2 : ∀ a ∈ Y, a < sz 2) : deq (st 2 X) (st 2 Y) = decide (X = Y) := by
  by_cases e : X = Y
  · subst e
    rw [decide_eq_true rfl, deq_refl _ (nod_set X)]
  · rw [decide_eq_false e, Bool.eq_false_iff]
    intro h
    exact e (st_inj h1 h2 (deq_eq _ _ h))
theorem dhas_set {K : List (List Nat)} (hK : ∀ X ∈ K, OkSet 2 X) {X : List Nat} (hX : OkSet 2 X) : dhas (K.map kw) (st 2 X) = decide (X ∈ K) := by
  unfold dhas
  rw [List.any_map]
  induction K with
  | nil => rfl
  | cons Y K ih =>
    rw [List.any_cons, ih (fun b hb => hK b (.tail _ hb))]
    show (deq (st 2 Y) (st 2 X) || _) = _
    rw [deq_set (hK Y (.head _)).lt hX.lt]
    by_cases e : Y = X
    · subst e; simp
    · have : ¬ X = Y := fun h => e h.symm
      simp [e, this]
theorem dput_set {K : List (List Nat)} (hK : ∀ X ∈ K, OkSet 2 X) {X : List Nat} (hX : OkSet 2 X) (hn : X ∉ K) : dput (K.map kw) (st 2 X) (.bool true) = (K ++ [X]).map kw := by
  unfold dput
  rw [dhas_set hK hX, decide_eq_false hn, if_neg (by decide), List.map_append]
  rfl
/-! keys of a dict: sets -/
theorem nkS_tab : ((subs (List.range 9)).all fun X => nkOk (st 2 X)) = true := by decide +kernel
theorem subs_len : (subs (List.range 9)).length = 512 := by decide +kernel
theorem in_subs {X : List Nat} (hX : OkSet 2 X) : X ∈ subs (List.range 9) := sub_range hX.srt hX.lt
theorem nk_set {X : List Nat} (hX : OkSet 2 X) : nkOk (st 2 X) = true := List.all_eq_true.mp nkS_tab X (in_subs hX)
theorem Keys.len {K : List (List Nat)} (h : Keys K) : K.length ≤ 512 := by
  have := h.nd.length_le_of_subset (l₂ := subs (List.range 9)) (fun X hX => in_subs (h.ok X hX))
  rwa [subs_len] at this
theorem Keys.add {K S : List (List Nat)} (h : Keys K) {X : List Nat} (hX : OkSet 2 X) : Keys (ksAdd (K, S) X).1 := by
  unfold ksAdd
  split
  · exact h
  · rename_i hn
    refine ⟨?_, fun Y hY => ?_⟩
    · show (K ++ [X]).Nodup
      rw [List.nodup_append]
      exact ⟨h.nd, by simp, fun a ha b hb e => hn (by simp at hb; subst hb; subst e; exact ha)⟩
    · rcases List.mem_append.mp hY with z | z
      · exact h.ok Y z
      · simp at z; subst z; exact hX
theorem ksAll_snoc (K S xs : List (List Nat)) (x : List Nat) : ksAll K S (xs ++ [x]) = ksAdd (ksAll K S xs) x := by
  unfold ksAll
  rw [List.foldl_append]
  rfl
theorem ksAll_keys {K S : List (List Nat)} (h : Keys K) : ∀ {xs : List (List Nat)}, (∀ x ∈ xs, OkSet 2 x) → Keys (ksAll K S xs).1 := by
  intro xs hx
  unfold ksAll
  induction xs generalizing K S with
  | nil => exact h
  | cons x xs ih =>
    rw [List.foldl_cons]
    exact ih (h.add (S := S) (hx x (.head _))) (fun y hy => hx y (.tail _ hy))
theorem ksAll_grow (xs : List (List Nat)) : ∀ K S : List (List Nat), (∀ X ∈ K, X ∈ (ksAll K S xs).1) ∧ (∀ X ∈ S, X ∈ (ksAll K S xs).2) ∧ (∀ x ∈ xs, x ∈ (ksAll K S xs).1) ∧ (∀ X ∈ (ksAll K S xs).1, X ∈ K ∨ (X ∈ xs ∧ X ∈ (ksAll K S xs).2)) ∧ (ksAll K S xs).1.length + S.length = (ksAll K S xs).2.length + K.length := by
  induction xs with
  | nil => exact fun K S => ⟨fun _ h => h, fun _ h => h, fun _ h => (by cases h), fun _ h => .inl h, Nat.add_comm _ _⟩
  | cons x xs ih =>
    intro K S
    have e : ksAll K S (x :: xs) = ksAll (ksAdd (K, S) x).1 (ksAdd (K, S) x).2 xs := rfl
    rw [e]
    obtain ⟨i1, i2, i3, i4, i5⟩ := ih (ksAdd (K, S) x).1 (ksAdd (K, S) x).2
    by_cases hx : x ∈ K
    · have ea : ksAdd (K, S) x = (K, S) := if_pos hx
      rw [ea] at i1 i2 i3 i4 i5 ⊢
      refine ⟨i1, i2, fun y hy => ?_, fun X hX => ?_, i5⟩
      · rcases List.mem_cons.mp hy with rfl | hy
        · exact i1 _ hx
        · exact i3 y hy
      · rcases i4 X hX with h | ⟨h1, h2⟩
        · exact .inl h
        · exact .inr ⟨.tail _ h1, h2⟩
    · have ea : ksAdd (K, S) x = (K ++ [x], S ++ [x]) := if_neg hx
      rw [ea] at i1 i2 i3 i4 i5 ⊢
      refine ⟨fun X hX => i1 X (List.mem_append.mpr (.inl hX)), fun X hX => i2 X (List.mem_append.mpr (.inl hX)), fun y hy => ?_, fun X hX => ?_, ?_⟩
      · rcases List.mem_cons.mp hy with rfl | hy
        · exact i1 _ (List.mem_append.mpr (.inr (.head _)))
        · exact i3 y hy
      · rcases i4 X hX with h | ⟨h1, h2⟩
        · rcases List.mem_append.mp h with h | h
          · exact .inl h
          · simp at h
            subst h
            exact .inr ⟨.head _, i2 _ (List.mem_append.mpr (.inr (.head _)))⟩
        · exact .inr ⟨.tail _ h1, h2⟩
      · have j5 : (ksAll (K ++ [x]) (S ++ [x]) xs).1.length + (S ++ [x]).length = (ksAll (K ++ [x]) (S ++ [x]) xs).2.length + (K ++ [x]).length := i5
        rw [List.length_append, List.length_append] at j5
        show (ksAll (K ++ [x]) (S ++ [x]) xs).1.length + S.length = (ksAll (K ++ [x]) (S ++ [x]) xs).2.length + K.length
        have one : ([x] : List (List Nat)).length = 1 := rfl
        omega
abbrev qa (x0 : D) (K S : List (List Nat)) (o3 o4 o5 : Option FL.S) : List (Option FL.S) := [some (.d x0), some (.m (K.map kw)), some (.l (S.map (st 2))), o3, o4, o5]
theorem alike_b0 {x0 : D} {K S : List (List Nat)} (hK : Keys K) (hS : S.length ≤ 1000) {X : List Nat} (hX : OkSet 2 X) {o3 o4 : Option FL.S} : B_alike_to_0 [] (qa x0 K S o3 o4 (some (.d (st 2 X)))) = .ok .nx (qa x0 (ksAdd (K, S) X).1 (ksAdd (K, S) X).2 o3 o4 (some (.d (st 2 X)))) := by
  have hl := hK.len
  have din : fDin true 1 (fVar 5) (qa x0 K S o3 o4 (some (.d (st 2 X)))) = .ok (.d (.bool (!decide (X ∈ K)))) (qa x0 K S o3 o4 (some (.d (st 2 X)))) := by
    refine (dinD (x := st 2 X) (kvs := K.map kw) rfl rfl (nk_set hX)).trans ?_
    rw [if_pos rfl, dhas_set hK.ok hX]
  unfold B_alike_to_0
  by_cases h : X ∈ K
  · have ea : ksAdd (K, S) X = (K, S) := if_pos h
    rw [ea]
    rw [decide_eq_true h] at din
    exact seqN (ifF (asB_b din) rfl) rfl
  · have ea : ksAdd (K, S) X = (K ++ [X], S ++ [X]) := if_neg h
    rw [ea]
    rw [decide_eq_false h] at din
    refine seqN (ifT (asB_b din) (seqN (ρ1 := qa x0 (K ++ [X]) S o3 o4 (some (.d (st 2 X)))) (dsetD (v := .bool true) (x := st 2 X) (k0 := K.map kw) (kvs := K.map kw) rfl rfl rfl rfl (nk_set hX) (by rw [List.length_map]; omega) ?_) (seqN (appD (x := st 2 X) (xs0 := S.map (st 2)) (xs := S.map (st 2)) rfl rfl rfl (by rw [List.length_map]; omega) ?_) rfl))) rfl
    · rw [dput_set hK.ok hX h]
      rfl
    · have e : (S ++ [X]).map (st 2) = S.map (st 2) ++ [st 2 X] := by rw [List.map_append]; rfl
      show _ = qa x0 (K ++ [X]) (S ++ [X]) o3 o4 (some (.d (st 2 X)))
      unfold qa
      rw [e]
      rfl
theorem alike_l1 {x0 : D} {K S : List (List Nat)} (hK : Keys K) (hS : S.length ≤ K.length) {Y : List Nat} (hY : OkSet 2 Y) {o5 : Option FL.S} : ∃ o5', L_alike_to_1 [] (qa x0 K S (some (.d (st 2 Y))) (some (.l [st 2 (mv (fun a => addN a 1) Y), st 2 (mv (fun a => addN a 3) Y), st 2 (mv dblN Y), st 2 (mv (excN 2 0 1) Y)])) o5) = .ok .nx (qa x0 (ksAll K S (after Y)).1 (ksAll K S (after Y)).2 (some (.d (st 2 Y))) (some (.l [st 2 (mv (fun a => addN a 1) Y), st 2 (mv (fun a => addN a 3) Y), st 2 (mv dblN Y), st 2 (mv (excN 2 0 1) Y)])) o5') := by
  have hok : ∀ x ∈ after Y, OkSet 2 x := by
    intro x hx
    obtain ⟨f, hf, rfl⟩ := List.mem_map.mp hx
    exact (mvs_ok f hf).ok Sz2 hY
  have key : ∃ ρ', forF none [] (.n 5) (B_alike_to_0 []) ((after Y).map (st 2)) (qa x0 K S (some (.d (st 2 Y))) (some (.l [st 2 (mv (fun a => addN a 1) Y), st 2 (mv (fun a => addN a 3) Y), st 2 (mv dblN Y), st 2 (mv (excN 2 0 1) Y)])) o5) = .ok .nx ρ' ∧ ∃ p, ρ' = qa x0 (ksAll K S ((after Y).take (0 + ((after Y).map (st 2)).length))).1 (ksAll K S ((after Y).take (0 + ((after Y).map (st 2)).length))).2 (some (.d (st 2 Y))) (some (.l [st 2 (mv (fun a => addN a 1) Y), st 2 (mv (fun a => addN a 3) Y), st 2 (mv dblN Y), st 2 (mv (excN 2 0 1) Y)])) p := by
    refine forF_inv (dep := none) (fun j ρ => ∃ p, ρ = qa x0 (ksAll K S ((after Y).take j)).1 (ksAll K S ((after Y).take j)).2 (some (.d (st 2 Y))) (some (.l [st 2 (mv (fun a => addN a 1) Y), st 2 (mv (fun a => addN a 3) Y), st 2 (mv dblN Y), st 2 (mv (excN 2 0 1) Y)])) p) ((after Y).map (st 2)) 0 _ ⟨o5, rfl⟩ (fun _ _ _ => rfl) (fun j x ρ hx hI => ?_)
    obtain ⟨p, rfl⟩ := hI
    rw [List.getElem?_map] at hx
    obtain ⟨X, hX, rfl⟩ := Option.map_eq_some_iff.mp hx
    have hX' := hok X (List.mem_of_getElem? hX)
    rw [Nat.zero_add]
    have hk := ksAll_keys (S := S) hK (xs := (after Y).take j) (fun x hx => hok x (List.mem_of_mem_take hx))
    have hlen : (ksAll K S ((after Y).take j)).2.length ≤ 1000 := by
      have g := (ksAll_grow ((after Y).take j) K S).2.2.2.2
      have := hk.len
      omega
    have e := alike_b0 (x0 := x0) hk hlen hX' (o3 := some (.d (st 2 Y))) (o4 := some (.l [st 2 (mv (fun a => addN a 1) Y), st 2 (mv (fun a => addN a 3) Y), st 2 (mv dblN Y), st 2 (mv (excN 2 0 1) Y)]))
    refine ⟨_, _, tg_n rfl, e, some (.d (st 2 X)), ?_⟩
    have es : ksAll K S ((after Y).take (j + 1)) = ksAdd (ksAll K S ((after Y).take j)) X := by
      rw [List.take_add_one, hX]
      exact ksAll_snoc K S _ X
    rw [es]
  obtain ⟨ρ', h1, o5', h2⟩ := key
  refine ⟨o5', ?_⟩
  rw [List.length_map, Nat.zero_add, List.take_length] at h2
  have pa : m_position_added [.d (st 2 Y), .d (.int 0), .d (.int 1)] = .ret (.d (st 2 (mv (paN 2 0 1) Y))) [.d (st 2 Y), .d (.int 0), .d (.int 1)] := pos_added_spec Sz2 hY.lt (len1000 Sz2 hY) (i := 0) (j := 1) (by decide) (by decide)
  have ad : addD (.list [st 2 (mv (fun a => addN a 1) Y), st 2 (mv (fun a => addN a 3) Y), st 2 (mv dblN Y), st 2 (mv (excN 2 0 1) Y)]) (.list [st 2 (mv (paN 2 0 1) Y)]) = some (.list ((after Y).map (st 2))) := rfl
  have src : fSrc (fBin addD (fVar 4) (fLst (fCons (fCall m_position_added (fCons (fVar 3) (fCons (fD (.int 0)) (fCons (fD (.int 1)) fNil)))) fNil))) (qa x0 K S (some (.d (st 2 Y))) (some (.l [st 2 (mv (fun a => addN a 1) Y), st 2 (mv (fun a => addN a 3) Y), st 2 (mv dblN Y), st 2 (mv (excN 2 0 1) Y)])) o5) = .ok ((after Y).map (st 2), none) (qa x0 K S (some (.d (st 2 Y))) (some (.l [st 2 (mv (fun a => addN a 1) Y), st 2 (mv (fun a => addN a 3) Y), st 2 (mv dblN Y), st 2 (mv (excN 2 0 1) Y)])) o5) := by
    refine fSrc_of (w := .d (.list ((after Y).map (st 2)))) ?_ rfl
    simp -implicitDefEqProofs only [ev_seq, kSeq_nx, kSeq_rt, ev_next, ev_asg0, kAsg_d, ev_ret, kRet_d, ev_drop, kDrop_e, ev_ifS, kIf_t, kIf_f, ev_ifE, kIfE_t, kIfE_f, ev_D, ev_var, varS_d, varS_l, varS_z, varS_m, ev_bin, kBin1_e, kBin2_e, binR_e, optR_e, look_d, look_own, lookS_l, ev_nil, ev_cons, kCons1_e, kCons2_e, ev_CB, kCB_e, cbR_e, lookAll_nil, lookAll_cons, laR_e, ev_tup, kTup_e, tupR_e, ev_lst, kLst_e, lstR_e, datas_nil, datas_cons, ev_call, kCall_e, caR_e, frR_ret, frR_exc, argS_nil, argS_d, argS_own, argO_e, ownIx_nil, ownIx_d, ownIx_own, nodup0, nodup1, nodup01, putBack_nil, putBack_d, putBack_own, ev_asB, kAsB_b, ev_tand, kTAnd_t, kTAnd_f, ev_tor, kTOr_t, kTOr_f, ev_tnot, kTNot_e, ev_and, kAnd_t, kAnd_f, ev_or, kOr_t, kOr_f, ev_not, kNot_b, ev_own0, kOwn_e, ownR_e, ev_ownL0, kOwnL_e, ownLR_l, ownLR_t, R.bind_ok, R.bind_exc, Option.map_some, List.getElem?_cons_zero, List.getElem?_cons_succ, List.set_cons_zero, List.set_cons_succ, List.length_cons, List.length_nil, Nat.reduceAdd, Nat.reduceLeDiff, decide_true, decide_false, gR_t, Nat.le_refl, Nat.zero_le, addD_i, subD_i, ltD_i, gtD_i, leD_i, geD_i, len_l, len_t, tuple_l, list_l, list_t, is_b, isNot_b, isB_b, ev_src, kSrc_l, kSrc_t, ev_srcs, kSrcs_e, srcR_e, ev_aug0, augR_e, kAug_e, getL_e, getLS_l, ev_app, appR1_e, kApp_e, appR2_e, one_e, List.nil_append, List.cons_append, Nat.reduceLT, Nat.zero_lt_succ, ev_yes, ev_neg, kNeg_e, ev_part, kPart_e, ev_nopart, ev_sl, kSl1_e, kSl2_e, kSl3_e, slR_e, runO_rt, Bool.not_true, Bool.not_false, ev_par0, kPar_e, ev_try, tryR_ok, tryR_exc, ev_tab, kTab_e, tabR_e, and_self, and_true, true_and, pa, ad]
  unfold L_alike_to_1
  refine (fFor_of src).trans ?_
  rw [← h2]
  exact h1
theorem alike_b2 {x0 : D} {K S : List (List Nat)} (hK : Keys K) (hS : S.length < K.length) {Y : List Nat} (hY : OkSet 2 Y) {o3 o4 o5 : Option FL.S} : ∃ o4' o5', B_alike_to_2 [] (qa x0 K (S ++ [Y]) o3 o4 o5) = .ok .nx (qa x0 (ksAll K S (after Y)).1 (ksAll K S (after Y)).2 (some (.d (st 2 Y))) o4' o5') := by
  obtain ⟨o5', e⟩ := alike_l1 (x0 := x0) hK (Nat.le_of_lt hS) hY (o5 := o5)
  refine ⟨some (.l [st 2 (mv (fun a => addN a 1) Y), st 2 (mv (fun a => addN a 3) Y), st 2 (mv dblN Y), st 2 (mv (excN 2 0 1) Y)]), o5', ?_⟩
  have pop : fPop 2 (qa x0 K (S ++ [Y]) o3 o4 o5) = .ok (.d (st 2 Y)) (qa x0 K S o3 o4 o5) := by
    have e1 : getL (qa x0 K (S ++ [Y]) o3 o4 o5) 2 = some (S.map (st 2) ++ [st 2 Y]) := by
      show some ((S ++ [Y]).map (st 2)) = _
      rw [List.map_append]
      rfl
    unfold fPop
    rw [e1]
    simp only [List.getLast?_append, List.getLast?_singleton, Option.some_or, List.dropLast_concat]
    rfl
  have a1 : m_added [.d (st 2 Y), .d (.tuple [.int 0, .int 1])] = .ret (.d (st 2 (mv (fun a => addN a 1) Y))) [.d (st 2 Y), .d (.tuple [.int 0, .int 1])] := added_spec Sz2 hY.lt (len1000 Sz2 hY) (p := 1) (by decide)
  have a2 : m_added [.d (st 2 Y), .d (.tuple [.int 1, .int 0])] = .ret (.d (st 2 (mv (fun a => addN a 3) Y))) [.d (st 2 Y), .d (.tuple [.int 1, .int 0])] := added_spec Sz2 hY.lt (len1000 Sz2 hY) (p := 3) (by decide)
  have a3 := doubled_spec Sz2 hY.lt (len1000 Sz2 hY)
  have a4 : m_exchanged [.d (st 2 Y), .d (.int 0), .d (.int 1)] = .ret (.d (st 2 (mv (excN 2 0 1) Y))) [.d (st 2 Y), .d (.int 0), .d (.int 1)] := exchanged_spec Sz2 hY.lt (len1000 Sz2 hY) (i := 0) (j := 1) (by decide) (by decide)
  unfold B_alike_to_2
  simp -implicitDefEqProofs only [ev_seq, kSeq_nx, kSeq_rt, ev_next, ev_asg0, kAsg_d, ev_ret, kRet_d, ev_drop, kDrop_e, ev_ifS, kIf_t, kIf_f, ev_ifE, kIfE_t, kIfE_f, ev_D, ev_var, varS_d, varS_l, varS_z, varS_m, ev_bin, kBin1_e, kBin2_e, binR_e, optR_e, look_d, look_own, lookS_l, ev_nil, ev_cons, kCons1_e, kCons2_e, ev_CB, kCB_e, cbR_e, lookAll_nil, lookAll_cons, laR_e, ev_tup, kTup_e, tupR_e, ev_lst, kLst_e, lstR_e, datas_nil, datas_cons, ev_call, kCall_e, caR_e, frR_ret, frR_exc, argS_nil, argS_d, argS_own, argO_e, ownIx_nil, ownIx_d, ownIx_own, nodup0, nodup1, nodup01, putBack_nil, putBack_d, putBack_own, ev_asB, kAsB_b, ev_tand, kTAnd_t, kTAnd_f, ev_tor, kTOr_t, kTOr_f, ev_tnot, kTNot_e, ev_and, kAnd_t, kAnd_f, ev_or, kOr_t, kOr_f, ev_not, kNot_b, ev_own0, kOwn_e, ownR_e, ev_ownL0, kOwnL_e, ownLR_l, ownLR_t, R.bind_ok, R.bind_exc, Option.map_some, List.getElem?_cons_zero, List.getElem?_cons_succ, List.set_cons_zero, List.set_cons_succ, List.length_cons, List.length_nil, Nat.reduceAdd, Nat.reduceLeDiff, decide_true, decide_false, gR_t, Nat.le_refl, Nat.zero_le, addD_i, subD_i, ltD_i, gtD_i, leD_i, geD_i, len_l, len_t, tuple_l, list_l, list_t, is_b, isNot_b, isB_b, ev_src, kSrc_l, kSrc_t, ev_srcs, kSrcs_e, srcR_e, ev_aug0, augR_e, kAug_e, getL_e, getLS_l, ev_app, appR1_e, kApp_e, appR2_e, one_e, List.nil_append, List.cons_append, Nat.reduceLT, Nat.zero_lt_succ, ev_yes, ev_neg, kNeg_e, ev_part, kPart_e, ev_nopart, ev_sl, kSl1_e, kSl2_e, kSl3_e, slR_e, runO_rt, Bool.not_true, Bool.not_false, ev_par0, kPar_e, ev_try, tryR_ok, tryR_exc, ev_tab, kTab_e, tabR_e, and_self, and_true, true_and, pop, a1, a2, a3, a4, e]
/-- what alike_to finds of a set: itself, closed under the moves, and nothing else -/
structure Orb (L : List Nat) (K : List (List Nat)) : Prop where
  keys : Keys K
  self : L ∈ K
  step : ∀ X ∈ K, ∀ f ∈ mvs, mv f X ∈ K
  least : ∀ p : List Nat → Prop, p L → (∀ X, OkSet 2 X → p X → ∀ f ∈ mvs, p (mv f X)) → ∀ X ∈ K, p X
theorem alike_to_spec {L : List Nat} (hL : OkSet 2 L) : ∃ K, Orb L K ∧ m_alike_to [.d (st 2 L)] = .ret (.d (.list (K.map (st 2)))) [.d (st 2 L)] := by
  have key : ∃ ρ', W_alike_to_3 [] (qa (st 2 L) [L] [L] none none none) = .ok .nx ρ' ∧ ∃ K o3 o4 o5, Orb L K ∧ ρ' = qa (st 2 L) K [] o3 o4 o5 := by
    unfold W_alike_to_3
    refine while_of (fun m ρ => ∃ K S o3 o4 o5, Keys K ∧ L ∈ K ∧ (∀ X ∈ S, X ∈ K) ∧ S.length ≤ K.length ∧ (∀ X ∈ K, X ∈ S ∨ ∀ f ∈ mvs, mv f X ∈ K) ∧ (∀ p : List Nat → Prop, p L → (∀ X, OkSet 2 X → p X → ∀ f ∈ mvs, p (mv f X)) → ∀ X ∈ K, p X) ∧ m = 2 * (512 - K.length) + S.length ∧ ρ = qa (st 2 L) K S o3 o4 o5) _ ?_ 100000 (2 * (512 - 1) + 1) _ (by decide) ⟨[L], [L], none, none, none, ⟨by simp, fun X hX => by simp at hX; subst hX; exact hL⟩, .head _, fun _ h => h, Nat.le_refl _, fun X hX => .inl hX, fun p h0 _ X hX => by simp at hX; subst hX; exact h0, rfl, rfl⟩
    rintro m ρ ⟨K, S, o3, o4, o5, h1, h2, h3, h4, h5, h6, h7, rfl⟩
    have q : neD (.list (S.map (st 2))) (.list []) = some (.bool (!S.isEmpty)) := by
      rw [ne_nil_spec ?_]
      · cases S <;> rfl
      · have : ∀ S : List (List Nat), shpAll 7 (S.map (st 2)) = true := by
          intro S
          induction S with
          | nil => rfl
          | cons X S ih =>
            rw [List.map_cons, shpAll, ih, Bool.and_true]
            show shp 7 (.tuple (X.map (pt 2))) = true
            rw [shp]
            exact shp_pts _ 2 X
        exact this S
    have tst : asB (fBin neD (fVar 2) (fLst fNil)) (qa (st 2 L) K S o3 o4 o5) = .ok (!S.isEmpty) (qa (st 2 L) K S o3 o4 o5) := asB_b (fBin_d (w := .own 2) (x := .list (S.map (st 2))) (y := .list []) rfl rfl rfl rfl q)
    rcases (show S = [] ∨ ∃ S' Y, S = S' ++ [Y] by
      rcases List.eq_nil_or_concat S with h | ⟨S', Y, h⟩
      · exact .inl h
      · exact .inr ⟨S', Y, by rw [h, List.concat_eq_append]⟩) with rfl | ⟨S', Y, rfl⟩
    · left
      refine ⟨tst, K, o3, o4, o5, ⟨h1, h2, fun X hX f hf => ?_, h6⟩, rfl⟩
      rcases h5 X hX with z | z
      · cases z
      · exact z f hf
    · right
      have hY := h3 Y (List.mem_append.mpr (.inr (.head _)))
      have hl : S'.length < K.length := by
        rw [List.length_append] at h4
        have : ([Y] : List (List Nat)).length = 1 := rfl
        omega
      obtain ⟨o4', o5', e⟩ := alike_b2 (x0 := st 2 L) h1 hl (h1.ok Y hY) (o3 := o3) (o4 := o4) (o5 := o5)
      obtain ⟨g1, g2, g3, g4, g5⟩ := ksAll_grow (after Y) K S'
      have hok : ∀ x ∈ after Y, OkSet 2 x := by
        intro x hx
        obtain ⟨f, hf, rfl⟩ := List.mem_map.mp hx
        exact (mvs_ok f hf).ok Sz2 (h1.ok Y hY)
      have hk := ksAll_keys (S := S') h1 hok
      have hle : K.length ≤ (ksAll K S' (after Y)).1.length := h1.nd.length_le_of_subset g1
      have em : (!(S' ++ [Y]).isEmpty) = true := by simp
      rw [em] at tst
      refine ⟨_, 2 * (512 - (ksAll K S' (after Y)).1.length) + (ksAll K S' (after Y)).2.length, tst, e, ?_, _, _, some (.d (st 2 Y)), o4', o5', hk, g1 L h2, fun X hX => ?_, ?_, fun X hX => ?_, fun p hp hst X hX => ?_, rfl, rfl⟩
      · rw [List.length_append] at h7
        have : ([Y] : List (List Nat)).length = 1 := rfl
        have := hk.len
        omega
      · have sub : ∀ (xs K S : List (List Nat)), (∀ X ∈ S, X ∈ K) → ∀ X ∈ (ksAll K S xs).2, X ∈ (ksAll K S xs).1 := by
          intro xs
          induction xs with
          | nil => exact fun K S h => h
          | cons x xs ih =>
            intro K S h
            refine ih (ksAdd (K, S) x).1 (ksAdd (K, S) x).2 ?_
            unfold ksAdd
            split
            · exact h
            · intro X hX
              rcases List.mem_append.mp hX with z | z
              · exact List.mem_append.mpr (.inl (h X z))
              · exact List.mem_append.mpr (.inr z)
        exact sub (after Y) K S' (fun X hX => h3 X (List.mem_append.mpr (.inl hX))) X hX
      · omega
      · rcases g4 X hX with z | ⟨_, z⟩
        · rcases h5 X z with w | w
          · rcases List.mem_append.mp w with w | w
            · exact .inl (g2 X w)
            · simp at w
              subst w
              exact .inr fun f hf => g3 _ (List.mem_map.mpr ⟨f, hf, rfl⟩)
          · exact .inr fun f hf => g1 _ (w f hf)
        · exact .inl z
      · rcases g4 X hX with z | ⟨z, _⟩
        · exact h6 p hp hst X z
        · obtain ⟨f, hf, rfl⟩ := List.mem_map.mp z
          exact hst Y (h1.ok Y hY) (h6 p hp hst Y hY) f hf
  obtain ⟨ρ', h1, K, o3, o4, o5, h2, rfl⟩ := key
  refine ⟨K, h2, ?_⟩
  unfold m_alike_to
  rw [run1]
  show runO _ (b_alike_to [] [some (.d (st 2 L)), none, none, none, none, none]) = _
  have hp : fParN [] 1 2 (nDct1 (fVar 0) (fD (.bool true))) (nLst (fCons (fVar 0) fNil)) [some (.d (st 2 L)), none, none, none, none, none] = .ok .nx (qa (st 2 L) [L] [L] none none none) := by
    have e1 : nDct1 (fVar 0) (fD (.bool true)) [some (.d (st 2 L)), none, none, none, none, none] = .ok (.m [(st 2 L, .bool true)]) [some (.d (st 2 L)), none, none, none, none, none] := by
      show (if nkOk (st 2 L) = true then _ else _) = _
      rw [if_pos (nk_set hL)]
    unfold fParN
    rw [if_neg (by decide), e1]
    rfl
  have hd : fDlist 1 (qa (st 2 L) K [] o3 o4 o5) = .ok (.d (.list (K.map (st 2)))) (qa (st 2 L) K [] o3 o4 o5) := by
    show (if (K.map kw).length ≤ 1000000 then _ else _) = _
    have := h2.keys.len
    rw [if_pos (by rw [List.length_map]; omega), List.map_map]
    rfl
  unfold b_alike_to
  simp -implicitDefEqProofs only [ev_seq, kSeq_nx, kSeq_rt, ev_next, ev_asg0, kAsg_d, ev_ret, kRet_d, ev_drop, kDrop_e, ev_ifS, kIf_t, kIf_f, ev_ifE, kIfE_t, kIfE_f, ev_D, ev_var, varS_d, varS_l, varS_z, varS_m, ev_bin, kBin1_e, kBin2_e, binR_e, optR_e, look_d, look_own, lookS_l, ev_nil, ev_cons, kCons1_e, kCons2_e, ev_CB, kCB_e, cbR_e, lookAll_nil, lookAll_cons, laR_e, ev_tup, kTup_e, tupR_e, ev_lst, kLst_e, lstR_e, datas_nil, datas_cons, ev_call, kCall_e, caR_e, frR_ret, frR_exc, argS_nil, argS_d, argS_own, argO_e, ownIx_nil, ownIx_d, ownIx_own, nodup0, nodup1, nodup01, putBack_nil, putBack_d, putBack_own, ev_asB, kAsB_b, ev_tand, kTAnd_t, kTAnd_f, ev_tor, kTOr_t, kTOr_f, ev_tnot, kTNot_e, ev_and, kAnd_t, kAnd_f, ev_or, kOr_t, kOr_f, ev_not, kNot_b, ev_own0, kOwn_e, ownR_e, ev_ownL0, kOwnL_e, ownLR_l, ownLR_t, R.bind_ok, R.bind_exc, Option.map_some, List.getElem?_cons_zero, List.getElem?_cons_succ, List.set_cons_zero, List.set_cons_succ, List.length_cons, List.length_nil, Nat.reduceAdd, Nat.reduceLeDiff, decide_true, decide_false, gR_t, Nat.le_refl, Nat.zero_le, addD_i, subD_i, ltD_i, gtD_i, leD_i, geD_i, len_l, len_t, tuple_l, list_l, list_t, is_b, isNot_b, isB_b, ev_src, kSrc_l, kSrc_t, ev_srcs, kSrcs_e, srcR_e, ev_aug0, augR_e, kAug_e, getL_e, getLS_l, ev_app, appR1_e, kApp_e, appR2_e, one_e, List.nil_append, List.cons_append, Nat.reduceLT, Nat.zero_lt_succ, ev_yes, ev_neg, kNeg_e, ev_part, kPart_e, ev_nopart, ev_sl, kSl1_e, kSl2_e, kSl3_e, slR_e, runO_rt, Bool.not_true, Bool.not_false, ev_par0, kPar_e, ev_try, tryR_ok, tryR_exc, ev_tab, kTab_e, tabR_e, and_self, and_true, true_and, hp, h1, hd]
  rfl
end FL

namespace FL
open PySem L2
/-! ### all free sets -/
theorem gt_tab : (([1, 2, 3] : List Nat).all fun s => pairsB s fun a b => isBo (gtD (pt s a) (pt s b)) (decide (b < a))) = true := by decide +kernel
theorem gt_spec {s a b : Nat} (hs : Sz s) (ha : a < sz s) (hb : b < sz s) : gtD (pt s a) (pt s b) = some (.bool (decide (b < a))) := isBo_eq (pairsB_ok (three gt_tab hs) ha hb)
def lst (L : List Nat) : Nat := L.getLastD 0
def exts (s : Nat) (L : List Nat) : List (List Nat) := ((opn s L).filter fun n => L.isEmpty || decide (lst L < n)).map fun n => L ++ [n]
def fsN (s : Nat) : Nat → List (List Nat)
  | 0 => [[]]
  | k + 1 => (fsN s k).flatMap (exts s)
def risB : List Nat → Bool
  | [] => true
  | [_] => true
  | a :: b :: r => decide (a < b) && risB (b :: r)
theorem risB_lt : ∀ {a : Nat} {r : List Nat}, risB (a :: r) = true → ∀ x ∈ r, a < x
  | a, b :: r, h, x, hx => by
    rw [risB, Bool.and_eq_true] at h
    have hab := of_decide_eq_true h.1
    rcases List.mem_cons.mp hx with rfl | hx
    · exact hab
    · exact Nat.lt_trans hab (risB_lt h.2 x hx)
theorem risB_tl {a : Nat} {r : List Nat} (h : risB (a :: r) = true) : risB r = true := by
  cases r with
  | nil => rfl
  | cons b r =>
    rw [risB, Bool.and_eq_true] at h
    exact h.2
theorem risB_ok : ∀ {L : List Nat}, risB L = true → L.Pairwise (· < ·)
  | [], _ => .nil
  | a :: r, h => List.pairwise_cons.mpr ⟨fun x hx => risB_lt h x hx, risB_ok (risB_tl h)⟩
def okB (s : Nat) (L : List Nat) : Bool := risB L && L.all fun a => decide (a < sz s)
theorem okB_ok {s : Nat} {L : List Nat} (h : okB s L = true) : OkSet s L := by
  unfold okB at h
  rw [Bool.and_eq_true] at h
  exact ⟨risB_ok h.1, fun a ha => of_decide_eq_true (List.all_eq_true.mp h.2 a ha)⟩
theorem fs_tab : (([1, 2] : List Nat).all fun s => (List.range 10).all fun k => decide ((fsN s k).length ≤ 1000) && (fsN s k).all fun L => okB s L && (ll L).isEmpty && ((opn s L).isEmpty == decide (k = grt s))) = true := by decide +kernel
abbrev S12 (s : Nat) : Prop := s = 1 ∨ s = 2
theorem S12.sz {s : Nat} (h : S12 s) : Sz s := by rcases h with rfl | rfl <;> simp [Sz]
theorem fs_ok {s k : Nat} (h : S12 s) (hk : k < 10) : (fsN s k).length ≤ 1000 ∧ ∀ L ∈ fsN s k, OkSet s L ∧ ll L = [] ∧ (opn s L).isEmpty = decide (k = grt s) := by
  have q := List.all_eq_true.mp (List.all_eq_true.mp fs_tab s (by rcases h with rfl | rfl <;> simp)) k (List.mem_range.mpr hk)
  rw [Bool.and_eq_true] at q
  refine ⟨of_decide_eq_true q.1, fun L hL => ?_⟩
  have r := List.all_eq_true.mp q.2 L hL
  rw [Bool.and_eq_true, Bool.and_eq_true] at r
  exact ⟨okB_ok r.1.1, List.isEmpty_iff.mp r.1.2, eq_of_beq r.2⟩
theorem nod_sets (s : Nat) : ∀ A : List (List Nat), nodAll (A.map (st s)) = true
  | [] => rfl
  | L :: A => by
    rw [List.map_cons, nodAll, nod_sets s A]
    show (nod (.tuple (L.map (pt s))) && true) = true
    rw [nod, nod_pts]
    rfl
theorem shp_sets (s : Nat) : ∀ A : List (List Nat), shpAll 7 (A.map (st s)) = true
  | [] => rfl
  | L :: A => by
    rw [List.map_cons, shpAll, shp_sets s A, Bool.and_true]
    show shp 7 (.tuple (L.map (pt s))) = true
    rw [shp]
    exact shp_pts _ s L
theorem shp_setL (s : Nat) (A : List (List Nat)) : shp 8 (.list (A.map (st s))) = true := by
  rw [shp]
  exact shp_sets s A
theorem last_at {L : List Nat} (s : Nat) (h : L ≠ []) : idxD (st s L) (.int (-1)) = some (pt s (lst L)) := by
  show atI (L.map (pt s)) (-1) = _
  unfold atI ixN
  have hp : 0 < L.length := List.length_pos_iff.mpr h
  rw [List.length_map, if_neg (by decide), if_pos (by omega)]
  show (L.map (pt s))[(-1 + (L.length : Int)).toNat]? = _
  have e : (-1 + (L.length : Int)).toNat = L.length - 1 := by omega
  rw [e, List.getElem?_map, ← List.getLast?_eq_getElem?]
  unfold lst
  cases L with
  | nil => exact absurd rfl h
  | cons a r => rw [List.getLast?_eq_some_getLast h, List.getLastD_eq_getLast?, List.getLast?_eq_some_getLast h]; rfl
/-- where a list may lie: own or data -/
def Lies (i : Nat) (v : S) (xs : List D) (dep : Dep) : Prop := (v = .l xs ∧ dep = some (i, xs)) ∨ (v = .d (.list xs) ∧ dep = none)
theorem lies_src {i : Nat} {v : S} {xs : List D} {dep : Dep} {ρ : Rho} (h : Lies i v xs dep) (hi : ρ[i]? = some (some v)) (hn : nodAll xs = true) : fSrc (fVar i) ρ = .ok (xs, dep) ρ ∧ chk dep ρ = true := by
  rcases h with ⟨rfl, rfl⟩ | ⟨rfl, rfl⟩
  · refine ⟨?_, chk_own hi hn⟩
    refine fSrc_of (w := .own i) ?_ ?_
    · unfold fVar
      rw [hi]
    · unfold srcOf
      simp only [hi]
  · refine ⟨?_, rfl⟩
    refine fSrc_of (w := .d (.list xs)) ?_ rfl
    unfold fVar
    rw [hi]
section
variable {s : Nat} (h : Sz s)
include h
abbrev qf (s c : Nat) (v : S) (o3 : Option S) (F : List D) (o5 : Option S) : Rho := [some (.d (.int s)), some (.d (.int c)), some v, o3, some (.l F), o5, none]
theorem fs_c0 {L : List Nat} (hL : OkSet s L) {c : Nat} {v : S} {o3 : Option S} {F : List D} : C_free_sets_0 (qf s c v o3 F (some (.d (st s L)))) = .ok (.d (.list ((exts s L).map (st s)))) (qf s c v o3 F (some (.d (st s L)))) := by
  have hz := sz_le h
  have hol : (opn s L).length ≤ 27 := by
    have := List.length_filter_le (fun n => !decide (n ∈ L) && !hitN n L) (List.range (sz s))
    unfold opn
    rw [List.length_range] at this
    omega
  have e := fLc_c (pt s) (xs := opn s L) (fun n => L.isEmpty || decide (lst L < n)) (fun n => st s (L ++ [n])) (ρ := qf s c v o3 F (some (.d (st s L)))) (ρ1 := qf s c v o3 F (some (.d (st s L)))) (dep := none) (fsrc := fSrc (fCall m_open_list (fCons (fVar 0) (fCons (fVar 5) fNil)))) (i := 6)
    (cond := tfOr (asB (fBin eqD (fVar 5) (fTup fNil))) (asB (fBin gtD (fVar 6) (fBin idxD (fVar 5) (fNeg (fD (.int 1))))))) (elt := fBin addD (fVar 5) (fTup (fCons (fVar 6) fNil)))
    (fSrc_of (callR (ws := [.d (.int s), .d (st s L)]) (open_list_set h hL) rfl rfl rfl rfl) rfl) (by omega) (by simp) rfl rfl (fun n hn => ?_) (fun n hn _ => ?_)
  · refine e.trans ?_
    unfold exts
    rw [List.map_map]
    rfl
  · have hn' := ((mem_opn h hL).mp hn).1
    have q : eqD (st s L) (.tuple []) = some (.bool (decide (L = []))) := eq_sets h hL.lt (B := []) (by simp)
    by_cases hl : L = []
    · subst hl
      simp -implicitDefEqProofs only [ev_seq, kSeq_nx, kSeq_rt, ev_next, ev_asg0, kAsg_d, ev_ret, kRet_d, ev_drop, kDrop_e, ev_ifS, kIf_t, kIf_f, ev_ifE, kIfE_t, kIfE_f, ev_D, ev_var, varS_d, varS_l, varS_z, varS_m, ev_bin, kBin1_e, kBin2_e, binR_e, optR_e, look_d, look_own, lookS_l, ev_nil, ev_cons, kCons1_e, kCons2_e, ev_CB, kCB_e, cbR_e, lookAll_nil, lookAll_cons, laR_e, ev_tup, kTup_e, tupR_e, ev_lst, kLst_e, lstR_e, datas_nil, datas_cons, ev_call, kCall_e, caR_e, frR_ret, frR_exc, argS_nil, argS_d, argS_own, argO_e, ownIx_nil, ownIx_d, ownIx_own, nodup0, nodup1, nodup01, putBack_nil, putBack_d, putBack_own, ev_asB, kAsB_b, ev_tand, kTAnd_t, kTAnd_f, ev_tor, kTOr_t, kTOr_f, ev_tnot, kTNot_e, ev_and, kAnd_t, kAnd_f, ev_or, kOr_t, kOr_f, ev_not, kNot_b, ev_own0, kOwn_e, ownR_e, ev_ownL0, kOwnL_e, ownLR_l, ownLR_t, R.bind_ok, R.bind_exc, Option.map_some, List.getElem?_cons_zero, List.getElem?_cons_succ, List.set_cons_zero, List.set_cons_succ, List.length_cons, List.length_nil, Nat.reduceAdd, Nat.reduceLeDiff, decide_true, decide_false, gR_t, Nat.le_refl, Nat.zero_le, addD_i, subD_i, ltD_i, gtD_i, leD_i, geD_i, len_l, len_t, tuple_l, list_l, list_t, is_b, isNot_b, isB_b, ev_src, kSrc_l, kSrc_t, ev_srcs, kSrcs_e, srcR_e, ev_aug0, augR_e, kAug_e, getL_e, getLS_l, ev_app, appR1_e, kApp_e, appR2_e, one_e, List.nil_append, List.cons_append, Nat.reduceLT, Nat.zero_lt_succ, ev_yes, ev_neg, kNeg_e, ev_part, kPart_e, ev_nopart, ev_sl, kSl1_e, kSl2_e, kSl3_e, slR_e, runO_rt, Bool.not_true, Bool.not_false, ev_par0, kPar_e, ev_try, tryR_ok, tryR_exc, ev_tab, kTab_e, tabR_e, and_self, and_true, true_and, q, List.isEmpty_nil, Bool.true_or]
    · have hg := gt_spec h hn' (hL.lt (lst L) (by
        unfold lst
        rw [List.getLastD_eq_getLast?, List.getLast?_eq_some_getLast hl]
        exact List.getLast_mem hl))
      have hem : L.isEmpty = false := by cases L with
        | nil => exact absurd rfl hl
        | cons _ _ => rfl
      rw [decide_eq_false hl] at q
      simp -implicitDefEqProofs only [ev_seq, kSeq_nx, kSeq_rt, ev_next, ev_asg0, kAsg_d, ev_ret, kRet_d, ev_drop, kDrop_e, ev_ifS, kIf_t, kIf_f, ev_ifE, kIfE_t, kIfE_f, ev_D, ev_var, varS_d, varS_l, varS_z, varS_m, ev_bin, kBin1_e, kBin2_e, binR_e, optR_e, look_d, look_own, lookS_l, ev_nil, ev_cons, kCons1_e, kCons2_e, ev_CB, kCB_e, cbR_e, lookAll_nil, lookAll_cons, laR_e, ev_tup, kTup_e, tupR_e, ev_lst, kLst_e, lstR_e, datas_nil, datas_cons, ev_call, kCall_e, caR_e, frR_ret, frR_exc, argS_nil, argS_d, argS_own, argO_e, ownIx_nil, ownIx_d, ownIx_own, nodup0, nodup1, nodup01, putBack_nil, putBack_d, putBack_own, ev_asB, kAsB_b, ev_tand, kTAnd_t, kTAnd_f, ev_tor, kTOr_t, kTOr_f, ev_tnot, kTNot_e, ev_and, kAnd_t, kAnd_f, ev_or, kOr_t, kOr_f, ev_not, kNot_b, ev_own0, kOwn_e, ownR_e, ev_ownL0, kOwnL_e, ownLR_l, ownLR_t, R.bind_ok, R.bind_exc, Option.map_some, List.getElem?_cons_zero, List.getElem?_cons_succ, List.set_cons_zero, List.set_cons_succ, List.length_cons, List.length_nil, Nat.reduceAdd, Nat.reduceLeDiff, decide_true, decide_false, gR_t, Nat.le_refl, Nat.zero_le, addD_i, subD_i, ltD_i, gtD_i, leD_i, geD_i, len_l, len_t, tuple_l, list_l, list_t, is_b, isNot_b, isB_b, ev_src, kSrc_l, kSrc_t, ev_srcs, kSrcs_e, srcR_e, ev_aug0, augR_e, kAug_e, getL_e, getLS_l, ev_app, appR1_e, kApp_e, appR2_e, one_e, List.nil_append, List.cons_append, Nat.reduceLT, Nat.zero_lt_succ, ev_yes, ev_neg, kNeg_e, ev_part, kPart_e, ev_nopart, ev_sl, kSl1_e, kSl2_e, kSl3_e, slR_e, runO_rt, Bool.not_true, Bool.not_false, ev_par0, kPar_e, ev_try, tryR_ok, tryR_exc, ev_tab, kTab_e, tabR_e, and_self, and_true, true_and, q, last_at s hl, hg, hem, Bool.false_or]
  · have ad : addD (st s L) (.tuple [pt s n]) = some (.tuple ((L ++ [n]).map (pt s))) := by
      have := len27 h hL
      rw [List.map_append]
      exact add_tup (by rw [List.length_map]; show L.length + 1 ≤ _; omega)
    simp -implicitDefEqProofs only [ev_seq, kSeq_nx, kSeq_rt, ev_next, ev_asg0, kAsg_d, ev_ret, kRet_d, ev_drop, kDrop_e, ev_ifS, kIf_t, kIf_f, ev_ifE, kIfE_t, kIfE_f, ev_D, ev_var, varS_d, varS_l, varS_z, varS_m, ev_bin, kBin1_e, kBin2_e, binR_e, optR_e, look_d, look_own, lookS_l, ev_nil, ev_cons, kCons1_e, kCons2_e, ev_CB, kCB_e, cbR_e, lookAll_nil, lookAll_cons, laR_e, ev_tup, kTup_e, tupR_e, ev_lst, kLst_e, lstR_e, datas_nil, datas_cons, ev_call, kCall_e, caR_e, frR_ret, frR_exc, argS_nil, argS_d, argS_own, argO_e, ownIx_nil, ownIx_d, ownIx_own, nodup0, nodup1, nodup01, putBack_nil, putBack_d, putBack_own, ev_asB, kAsB_b, ev_tand, kTAnd_t, kTAnd_f, ev_tor, kTOr_t, kTOr_f, ev_tnot, kTNot_e, ev_and, kAnd_t, kAnd_f, ev_or, kOr_t, kOr_f, ev_not, kNot_b, ev_own0, kOwn_e, ownR_e, ev_ownL0, kOwnL_e, ownLR_l, ownLR_t, R.bind_ok, R.bind_exc, Option.map_some, List.getElem?_cons_zero, List.getElem?_cons_succ, List.set_cons_zero, List.set_cons_succ, List.length_cons, List.length_nil, Nat.reduceAdd, Nat.reduceLeDiff, decide_true, decide_false, gR_t, Nat.le_refl, Nat.zero_le, addD_i, subD_i, ltD_i, gtD_i, leD_i, geD_i, len_l, len_t, tuple_l, list_l, list_t, is_b, isNot_b, isB_b, ev_src, kSrc_l, kSrc_t, ev_srcs, kSrcs_e, srcR_e, ev_aug0, augR_e, kAug_e, getL_e, getLS_l, ev_app, appR1_e, kApp_e, appR2_e, one_e, List.nil_append, List.cons_append, Nat.reduceLT, Nat.zero_lt_succ, ev_yes, ev_neg, kNeg_e, ev_part, kPart_e, ev_nopart, ev_sl, kSl1_e, kSl2_e, kSl3_e, slR_e, runO_rt, Bool.not_true, Bool.not_false, ev_par0, kPar_e, ev_try, tryR_ok, tryR_exc, ev_tab, kTab_e, tabR_e, and_self, and_true, true_and, ad]
theorem exts_len {L : List Nat} : (exts s L).length ≤ 27 := by
  unfold exts opn
  rw [List.length_map]
  have h1 := List.length_filter_le (fun n => L.isEmpty || decide (lst L < n)) ((List.range (sz s)).filter fun n => !decide (n ∈ L) && !hitN n L)
  have h2 := List.length_filter_le (fun n => !decide (n ∈ L) && !hitN n L) (List.range (sz s))
  rw [List.length_range] at h2
  have := sz_le h
  omega
theorem flat_len : ∀ A : List (List Nat), (A.flatMap (exts s)).length ≤ 27 * A.length
  | [] => by simp
  | L :: A => by
    rw [List.flatMap_cons, List.length_append, List.length_cons]
    have h1 := flat_len A
    have h2 := exts_len h (L := L)
    omega
theorem fs_l2 {A : List (List Nat)} (hA : ∀ L ∈ A, OkSet s L) (hl : A.length ≤ 1000) {c : Nat} {v : S} {dep : Dep} (hv : Lies 2 v (A.map (st s)) dep) {o3 o5 : Option S} : ∃ o5', L_free_sets_2 [] (qf s c v o3 [] o5) = .ok .nx (qf s c v o3 ((A.flatMap (exts s)).map (st s)) o5') := by
  have key : ∃ ρ', forF dep (pinDep dep []) (.n 5) (B_free_sets_1 (pinDep dep [])) (A.map (st s)) (qf s c v o3 [] o5) = .ok .nx ρ' ∧ ∃ p, ρ' = qf s c v o3 (((A.take (0 + (A.map (st s)).length)).flatMap (exts s)).map (st s)) p := by
    refine forF_inv (dep := dep) (fun j ρ => ∃ p, ρ = qf s c v o3 (((A.take j).flatMap (exts s)).map (st s)) p) (A.map (st s)) 0 _ ⟨o5, rfl⟩ (fun j ρ hI => ?_) (fun j x ρ hx hI => ?_)
    · obtain ⟨p, rfl⟩ := hI
      exact (lies_src hv rfl (nod_sets s A)).2
    · obtain ⟨p, rfl⟩ := hI
      rw [List.getElem?_map] at hx
      obtain ⟨L, hL, rfl⟩ := Option.map_eq_some_iff.mp hx
      have hLA := hA L (List.mem_of_getElem? hL)
      have hj : j < A.length := (List.getElem?_eq_some_iff.mp hL).1
      rw [Nat.zero_add]
      have pin : (pinDep dep []).contains 5 = false := by rcases hv with ⟨_, rfl⟩ | ⟨_, rfl⟩ <;> rfl
      refine ⟨_, qf s c v o3 (((A.take (j + 1)).flatMap (exts s)).map (st s)) (some (.d (st s L))), tg_n pin, ?_, _, rfl⟩
      unfold B_free_sets_1
      refine seqN (extD (i := 4) (xs0 := ((A.take j).flatMap (exts s)).map (st s)) (xs := ((A.take j).flatMap (exts s)).map (st s)) (ys := (exts s L).map (st s)) (ρ1 := qf s c v o3 (((A.take j).flatMap (exts s)).map (st s)) (some (.d (st s L)))) rfl (fCons_of (fs_c0 h hLA) rfl) rfl ?_ ?_) rfl
      · rw [List.length_map, List.length_map]
        have h1 := flat_len h (A.take j)
        have h2 := exts_len h (L := L)
        rw [List.length_take] at h1
        omega
      · rw [List.take_add_one, hL, show (some L).toList = [L] from rfl, List.flatMap_append, List.map_append]
        simp only [List.flatMap_cons, List.flatMap_nil, List.append_nil]
        rfl
  obtain ⟨ρ', h1, o5', h2⟩ := key
  refine ⟨o5', ?_⟩
  unfold L_free_sets_2
  refine (fFor_of (lies_src hv rfl (nod_sets s A)).1).trans ?_
  rw [List.length_map, Nat.zero_add, List.take_length] at h2
  rw [← h2]
  exact h1
end
theorem range_of {c : Nat} (hc : c ≤ 1000) : rangeOf [.d (.int c)] = some (rangeD 0 c, none) := by
  show (if _ then some (rangeD 0 (c : Int).toNat, none) else none) = _
  rw [if_pos (by omega), Int.toNat_natCast]
theorem free_sets_spec {s c : Nat} (h : S12 s) (hc : c < 10) : m_free_sets [.d (.int s), .d (.int c)] = .ret (.d (.list ((fsN s c).map (st s)))) [.d (.int s), .d (.int c)] := by
  have hs := h.sz
  have i1 : m_is_integer [.d (.int s), .d (.int 1), .d (.int 2)] = .ret (.d (.bool true)) [.d (.int s), .d (.int 1), .d (.int 2)] := by rcases h with rfl | rfl <;> rfl
  have i2 : m_is_integer [.d (.int c), .d (.int 0), .d (.int 9)] = .ret (.d (.bool true)) [.d (.int c), .d (.int 0), .d (.int 9)] := by
    have q : ((List.range 10).all fun c => isRet (m_is_integer [.d (.int c), .d (.int 0), .d (.int 9)]) (.bool true) [.int c, .int 0, .int 9]) = true := by decide +kernel
    exact isRet_eq (List.all_eq_true.mp q c (List.mem_range.mpr hc))
  have key : ∃ ρ', forF none [] (.n 3) (B_free_sets_3 []) (rangeD 0 c) [some (.d (.int s)), some (.d (.int c)), some (.l [.tuple []]), none, none, none, none] = .ok .nx ρ' ∧ ∃ v dep o3 o4 o5, Lies 2 v ((fsN s (0 + (rangeD 0 c).length)).map (st s)) dep ∧ ρ' = [some (.d (.int s)), some (.d (.int c)), some v, o3, o4, o5, none] := by
    refine forF_inv (dep := none) (fun k ρ => ∃ v dep o3 o4 o5, Lies 2 v ((fsN s k).map (st s)) dep ∧ ρ = [some (.d (.int s)), some (.d (.int c)), some v, o3, o4, o5, none]) (rangeD 0 c) 0 _ ⟨_, _, none, none, none, .inl ⟨rfl, rfl⟩, rfl⟩ (fun _ _ _ => rfl) (fun k x ρ hx hI => ?_)
    obtain ⟨v, dep, o3, o4, o5, hv, rfl⟩ := hI
    rw [Nat.zero_add] at hv ⊢
    have hk : k < c := by
      have := (List.getElem?_eq_some_iff.mp hx).1
      rwa [rangeD_length] at this
    have ok := fs_ok h (k := k) (by omega)
    obtain ⟨o5', e⟩ := fs_l2 hs (fun L hL => (ok.2 L hL).1) ok.1 hv (c := c) (o3 := some (.d x)) (o5 := o5)
    refine ⟨[some (.d (.int s)), some (.d (.int c)), some v, some (.d x), o4, o5, none], [some (.d (.int s)), some (.d (.int c)), some (.d (.list ((fsN s (k + 1)).map (st s)))), some (.d x), some (.d (.list ((fsN s (k + 1)).map (st s)))), o5', none], rfl, ?_, _, none, _, _, _, .inr ⟨rfl, rfl⟩, rfl⟩
    unfold B_free_sets_3
    refine seqN (ρ1 := qf s c v (some (.d x)) [] o5) rfl (seqN e (seqN ?_ rfl))
    rfl
  obtain ⟨ρ', h1, v, dep, o3, o4, o5, hv, rfl⟩ := key
  rw [rangeD_length, Nat.zero_add] at hv
  have el : L_free_sets_4 [] [some (.d (.int s)), some (.d (.int c)), some (.l [.tuple []]), none, none, none, none] = .ok .nx [some (.d (.int s)), some (.d (.int c)), some v, o3, o4, o5, none] := by
    unfold L_free_sets_4
    exact (fFor_of (fSrcs_of (ws := [.d (.int c)]) rfl (range_of (by omega)))).trans h1
  unfold m_free_sets
  rw [run2]
  show runO _ (b_free_sets [] [some (.d (.int s)), some (.d (.int c)), none, none, none, none, none]) = _
  unfold b_free_sets
  rcases hv with ⟨rfl, _⟩ | ⟨rfl, _⟩
  · simp -implicitDefEqProofs only [ev_seq, kSeq_nx, kSeq_rt, ev_next, ev_asg0, kAsg_d, ev_ret, kRet_d, ev_drop, kDrop_e, ev_ifS, kIf_t, kIf_f, ev_ifE, kIfE_t, kIfE_f, ev_D, ev_var, varS_d, varS_l, varS_z, varS_m, ev_bin, kBin1_e, kBin2_e, binR_e, optR_e, look_d, look_own, lookS_l, ev_nil, ev_cons, kCons1_e, kCons2_e, ev_CB, kCB_e, cbR_e, lookAll_nil, lookAll_cons, laR_e, ev_tup, kTup_e, tupR_e, ev_lst, kLst_e, lstR_e, datas_nil, datas_cons, ev_call, kCall_e, caR_e, frR_ret, frR_exc, argS_nil, argS_d, argS_own, argO_e, ownIx_nil, ownIx_d, ownIx_own, nodup0, nodup1, nodup01, putBack_nil, putBack_d, putBack_own, ev_asB, kAsB_b, ev_tand, kTAnd_t, kTAnd_f, ev_tor, kTOr_t, kTOr_f, ev_tnot, kTNot_e, ev_and, kAnd_t, kAnd_f, ev_or, kOr_t, kOr_f, ev_not, kNot_b, ev_own0, kOwn_e, ownR_e, ev_ownL0, kOwnL_e, ownLR_l, ownLR_t, R.bind_ok, R.bind_exc, Option.map_some, List.getElem?_cons_zero, List.getElem?_cons_succ, List.set_cons_zero, List.set_cons_succ, List.length_cons, List.length_nil, Nat.reduceAdd, Nat.reduceLeDiff, decide_true, decide_false, gR_t, Nat.le_refl, Nat.zero_le, addD_i, subD_i, ltD_i, gtD_i, leD_i, geD_i, len_l, len_t, tuple_l, list_l, list_t, is_b, isNot_b, isB_b, ev_src, kSrc_l, kSrc_t, ev_srcs, kSrcs_e, srcR_e, ev_aug0, augR_e, kAug_e, getL_e, getLS_l, ev_app, appR1_e, kApp_e, appR2_e, one_e, List.nil_append, List.cons_append, Nat.reduceLT, Nat.zero_lt_succ, ev_yes, ev_neg, kNeg_e, ev_part, kPart_e, ev_nopart, ev_sl, kSl1_e, kSl2_e, kSl3_e, slR_e, runO_rt, Bool.not_true, Bool.not_false, ev_par0, kPar_e, ev_try, tryR_ok, tryR_exc, ev_tab, kTab_e, tabR_e, and_self, and_true, true_and, i1, i2, el]
    rfl
  · simp -implicitDefEqProofs only [ev_seq, kSeq_nx, kSeq_rt, ev_next, ev_asg0, kAsg_d, ev_ret, kRet_d, ev_drop, kDrop_e, ev_ifS, kIf_t, kIf_f, ev_ifE, kIfE_t, kIfE_f, ev_D, ev_var, varS_d, varS_l, varS_z, varS_m, ev_bin, kBin1_e, kBin2_e, binR_e, optR_e, look_d, look_own, lookS_l, ev_nil, ev_cons, kCons1_e, kCons2_e, ev_CB, kCB_e, cbR_e, lookAll_nil, lookAll_cons, laR_e, ev_tup, kTup_e, tupR_e, ev_lst, kLst_e, lstR_e, datas_nil, datas_cons, ev_call, kCall_e, caR_e, frR_ret, frR_exc, argS_nil, argS_d, argS_own, argO_e, ownIx_nil, ownIx_d, ownIx_own, nodup0, nodup1, nodup01, putBack_nil, putBack_d, putBack_own, ev_asB, kAsB_b, ev_tand, kTAnd_t, kTAnd_f, ev_tor, kTOr_t, kTOr_f, ev_tnot, kTNot_e, ev_and, kAnd_t, kAnd_f, ev_or, kOr_t, kOr_f, ev_not, kNot_b, ev_own0, kOwn_e, ownR_e, ev_ownL0, kOwnL_e, ownLR_l, ownLR_t, R.bind_ok, R.bind_exc, Option.map_some, List.getElem?_cons_zero, List.getElem?_cons_succ, List.set_cons_zero, List.set_cons_succ, List.length_cons, List.length_nil, Nat.reduceAdd, Nat.reduceLeDiff, decide_true, decide_false, gR_t, Nat.le_refl, Nat.zero_le, addD_i, subD_i, ltD_i, gtD_i, leD_i, geD_i, len_l, len_t, tuple_l, list_l, list_t, is_b, isNot_b, isB_b, ev_src, kSrc_l, kSrc_t, ev_srcs, kSrcs_e, srcR_e, ev_aug0, augR_e, kAug_e, getL_e, getLS_l, ev_app, appR1_e, kApp_e, appR2_e, one_e, List.nil_append, List.cons_append, Nat.reduceLT, Nat.zero_lt_succ, ev_yes, ev_neg, kNeg_e, ev_part, kPart_e, ev_nopart, ev_sl, kSl1_e, kSl2_e, kSl3_e, slR_e, runO_rt, Bool.not_true, Bool.not_false, ev_par0, kPar_e, ev_try, tryR_ok, tryR_exc, ev_tab, kTab_e, tabR_e, and_self, and_true, true_and, i1, i2, el]
    rfl
end FL

namespace FL
open PySem L2
/-! ### classes of sets of the board of the size 2 -/
abbrev cls (X : List Nat) : Nat × Nat := (X.length, (ll X).length)
def repL : List (List Nat) := [[], [0], [0, 1], [0, 1, 3], [0, 1, 2], [0, 1, 3, 4], [0, 1, 2, 3], [0, 1, 2, 3, 4], [0, 1, 2, 3, 6], [0, 1, 2, 3, 4, 5], [0, 1, 2, 3, 4, 6], [0, 1, 2, 3, 4, 5, 6], [0, 1, 2, 3, 4, 5, 6, 7], [0, 1, 2, 3, 4, 5, 6, 7, 8]]
def repN (X : List Nat) : List Nat := (repL.find? fun R => cls R == cls X).getD []
theorem cls_tab : ((subs (List.range 9)).all fun X => mvs.all fun f => (ll (mv f X)).length == (ll X).length) = true := by decide +kernel
theorem rep_tab : ((subs (List.range 9)).all fun X => (cls (repN X) == cls X) && repL.contains (repN X) && (X == repN X || PySem.W.dataLt (st 2 (repN X)) (st 2 X))) = true := by decide +kernel
theorem six_tab : (mvs.all fun f => onesB 2 fun a => decide (f (f (f (f (f (f a))))) = a)) = true := by decide +kernel
def bfs : Nat → List (List Nat) → List (List Nat) → List (List Nat)
  | 0, K, _ => K
  | n + 1, K, S => match S with
    | [] => K
    | Y :: S' => bfs n (ksAll K S' (after Y)).1 (ksAll K S' (after Y)).2
theorem bfs_tab : (repL.all fun R => decide ((bfs 80 [R] [R]).length = ((subs (List.range 9)).filter fun X => cls X == cls R).length)) = true := by decide +kernel
end FL

namespace FL
open PySem L2
theorem cls_mv {X : List Nat} (hX : OkSet 2 X) {f : Nat → Nat} (hf : f ∈ mvs) : cls (mv f X) = cls X := by
  have q := eq_of_beq (List.all_eq_true.mp (List.all_eq_true.mp cls_tab X (in_subs hX)) f hf)
  show ((mv f X).length, (ll (mv f X)).length) = (X.length, (ll X).length)
  rw [mv_len Sz2, q]
theorem rep_ok {X : List Nat} (hX : OkSet 2 X) : cls (repN X) = cls X ∧ repN X ∈ repL ∧ (X = repN X ∨ PySem.W.dataLt (st 2 (repN X)) (st 2 X) = true) := by
  have q := List.all_eq_true.mp rep_tab X (in_subs hX)
  simp only [Bool.and_eq_true, Bool.or_eq_true, List.contains_iff_mem] at q
  exact ⟨eq_of_beq q.1.1, q.1.2, q.2.imp (fun h => eq_of_beq h) id⟩
theorem repL_ok : ∀ R ∈ repL, OkSet 2 R := by
  have q : (repL.all fun R => risB R && R.all fun a => decide (a < 9)) = true := by decide +kernel
  intro R hR
  have := List.all_eq_true.mp q R hR
  rw [Bool.and_eq_true] at this
  exact ⟨risB_ok this.1, fun a ha => of_decide_eq_true (List.all_eq_true.mp this.2 a ha)⟩
theorem repN_cls {X Y : List Nat} (h : cls X = cls Y) : repN X = repN Y := by
  unfold repN
  rw [h]
/-- moves go back -/
theorem mv_mv {X : List Nat} (hX : OkSet 2 X) {f g : Nat → Nat} (hf : Mv 2 f) (hg : Mv 2 g) (hfg : ∀ a, a < 9 → g (f a) = a) : mv g (mv f X) = X := by
  have o1 := hf.ok Sz2 hX
  have o2 := hg.ok Sz2 o1
  refine srtN_uniq o2.srt hX.srt fun x => ?_
  rw [mem_mv Sz2]
  constructor
  · rintro ⟨y, hy, rfl⟩
    obtain ⟨a, ha, rfl⟩ := (mem_mv Sz2).mp hy
    rw [hfg a (hX.lt a ha)]
    exact ha
  · intro hx
    exact ⟨f x, (mem_mv Sz2).mpr ⟨x, hx, rfl⟩, hfg x (hX.lt x hx)⟩
theorem mv_comp {X : List Nat} (hX : OkSet 2 X) {f g : Nat → Nat} (hf : Mv 2 f) (hg : Mv 2 g) : mv g (mv f X) = mv (fun a => g (f a)) X := by
  have o1 := hf.ok Sz2 hX
  have o2 := hg.ok Sz2 o1
  have hc : Mv 2 fun a => g (f a) := ⟨fun a ha => hg.lt _ (hf.lt a ha), fun a b ha hb e => hf.inj a b ha hb (hg.inj _ _ (hf.lt a ha) (hf.lt b hb) e), fun a b ha hb => by rw [hg.th _ _ (hf.lt a ha) (hf.lt b hb), hf.th a b ha hb]⟩
  refine srtN_uniq o2.srt (hc.ok Sz2 hX).srt fun x => ?_
  rw [mem_mv Sz2, mem_mv Sz2]
  constructor
  · rintro ⟨y, hy, rfl⟩
    obtain ⟨a, ha, rfl⟩ := (mem_mv Sz2).mp hy
    exact ⟨a, ha, rfl⟩
  · rintro ⟨a, ha, rfl⟩
    exact ⟨f a, (mem_mv Sz2).mpr ⟨a, ha, rfl⟩, rfl⟩
/-- a closed stock of sets holds what leads into it -/
theorem back {K : List (List Nat)} (hs : ∀ X ∈ K, ∀ f ∈ mvs, mv f X ∈ K) {X : List Nat} (hX : OkSet 2 X) {f : Nat → Nat} (hf : f ∈ mvs) (h : mv f X ∈ K) : X ∈ K := by
  have m := mvs_ok f hf
  have h2 := hs _ h f hf
  have h3 := hs _ h2 f hf
  have h4 := hs _ h3 f hf
  have h5 := hs _ h4 f hf
  have h6 := hs _ h5 f hf
  have o1 := m.ok Sz2 hX
  have c2 := mv_comp hX m m
  have m2 : Mv 2 fun a => f (f a) := ⟨fun a ha => m.lt _ (m.lt a ha), fun a b ha hb e => m.inj a b ha hb (m.inj _ _ (m.lt a ha) (m.lt b hb) e), fun a b ha hb => by rw [m.th _ _ (m.lt a ha) (m.lt b hb), m.th a b ha hb]⟩
  have c3 := mv_comp hX m2 m
  have m3 : Mv 2 fun a => f (f (f a)) := ⟨fun a ha => m.lt _ (m2.lt a ha), fun a b ha hb e => m2.inj a b ha hb (m.inj _ _ (m2.lt a ha) (m2.lt b hb) e), fun a b ha hb => by rw [m.th _ _ (m2.lt a ha) (m2.lt b hb), m2.th a b ha hb]⟩
  have o3 := m3.ok Sz2 hX
  have e33 : mv (fun a => f (f (f a))) (mv (fun a => f (f (f a))) X) = X := mv_mv hX m3 m3 fun a ha => of_decide_eq_true (onesB_ok (List.all_eq_true.mp six_tab f hf) ha)
  have c2' := mv_comp o3 m m
  have c3' := mv_comp o3 m2 m
  rw [c2, c3, c2', c3', e33] at h6
  exact h6
theorem bfs_in (C : List Nat → Prop) (hC : ∀ X, OkSet 2 X → C X → ∀ f ∈ mvs, C (mv f X)) : ∀ (n : Nat) (K S : List (List Nat)), Keys K → (∀ X ∈ S, X ∈ K) → (∀ X ∈ K, C X) → Keys (bfs n K S) ∧ ∀ X ∈ bfs n K S, C X
  | 0, K, S, hk, _, h => ⟨hk, h⟩
  | n + 1, K, [], hk, _, h => ⟨hk, h⟩
  | n + 1, K, Y :: S', hk, hs, h => by
    have hY := hs Y (.head _)
    have oY := hk.ok Y hY
    have hok : ∀ x ∈ after Y, OkSet 2 x := by
      intro x hx
      obtain ⟨f, hf, rfl⟩ := List.mem_map.mp hx
      exact (mvs_ok f hf).ok Sz2 oY
    obtain ⟨g1, g2, g3, g4, g5⟩ := ksAll_grow (after Y) K S'
    refine bfs_in C hC n _ _ (ksAll_keys hk hok) ?_ ?_
    · have sub : ∀ (xs K S : List (List Nat)), (∀ X ∈ S, X ∈ K) → ∀ X ∈ (ksAll K S xs).2, X ∈ (ksAll K S xs).1 := by
        intro xs
        induction xs with
        | nil => exact fun K S h => h
        | cons x xs ih =>
          intro K S h
          refine ih (ksAdd (K, S) x).1 (ksAdd (K, S) x).2 ?_
          unfold ksAdd
          split
          · exact h
          · intro X hX
            rcases List.mem_append.mp hX with z | z
            · exact List.mem_append.mpr (.inl (h X z))
            · exact List.mem_append.mpr (.inr z)
      exact sub (after Y) K S' fun X hX => hs X (.tail _ hX)
    · intro X hX
      rcases g4 X hX with z | ⟨z, _⟩
      · exact h X z
      · obtain ⟨f, hf, rfl⟩ := List.mem_map.mp z
        exact hC Y oY (h Y hY) f hf
/-- every set of a class is reached from its least one -/
theorem bfs_all {R X : List Nat} (hR : R ∈ repL) (hX : OkSet 2 X) (h : cls X = cls R) : X ∈ bfs 80 [R] [R] := by
  have oR := repL_ok R hR
  have kR : Keys [R] := ⟨by simp, fun Y hY => by simp at hY; subst hY; exact oR⟩
  obtain ⟨b1, b2⟩ := bfs_in (fun Y => cls Y = cls R) (fun Y oY hY f hf => (cls_mv oY hf).trans hY) 80 [R] [R] kR (fun _ h => h) (fun Y hY => by simp at hY; rw [hY])
  have hl := of_decide_eq_true (List.all_eq_true.mp bfs_tab R hR)
  apply Classical.byContradiction
  intro hn
  have nd : (X :: bfs 80 [R] [R]).Nodup := List.nodup_cons.mpr ⟨hn, b1.nd⟩
  have := nd.length_le_of_subset (l₂ := (subs (List.range 9)).filter fun Y => cls Y == cls R) (fun Y hY => by
    rw [List.mem_filter]
    rcases List.mem_cons.mp hY with rfl | hY
    · exact ⟨in_subs hX, by rw [h]; exact beq_self_eq_true _⟩
    · exact ⟨in_subs (b1.ok Y hY), by rw [b2 Y hY]; exact beq_self_eq_true _⟩)
  rw [List.length_cons] at this
  omega
theorem Orb.mem {L : List Nat} {K : List (List Nat)} (h : Orb L K) {X : List Nat} (hX : OkSet 2 X) : X ∈ K ↔ cls X = cls L := by
  have oL := h.keys.ok L h.self
  constructor
  · intro hx
    exact h.least (fun Y => cls Y = cls L) rfl (fun Y oY hY f hf => (cls_mv oY hf).trans hY) X hx
  · intro hx
    obtain ⟨r1, r2, _⟩ := rep_ok oL
    have oR := repL_ok _ r2
    have kR : Keys [repN L] := ⟨by simp, fun Y hY => by simp at hY; subst hY; exact oR⟩
    have hRK : repN L ∈ K := (bfs_in (fun Y => Y ∈ K → repN L ∈ K) (fun Y oY hY f hf hm => hY (back h.step oY hf hm)) 80 [repN L] [repN L] kR (fun _ h => h) (fun Y hY => by simp at hY; rw [hY]; exact id)).2 L (bfs_all r2 oL r1.symm) h.self
    exact (bfs_in (fun Y => Y ∈ K) (fun Y _ hY f hf => h.step Y hY f hf) 80 [repN L] [repN L] kR (fun _ h => h) (fun Y hY => by simp at hY; rw [hY]; exact hRK)).2 X (bfs_all r2 hX (hx.trans r1.symm))
/-! ### the least of a list of sets -/
theorem minD_le (x : D) : ∀ xs : List D, ∀ y ∈ x :: xs, dle (PySem.W.minD x xs) y = true := by
  intro xs
  unfold PySem.W.minD
  induction xs generalizing x with
  | nil =>
    intro y hy
    rw [List.mem_singleton] at hy
    subst hy
    have := dle_total y y
    rwa [Bool.or_self] at this
  | cons z zs ih =>
    intro y hy
    rw [List.foldl_cons]
    have i := ih (if PySem.W.dataLt z x = true then z else x)
    have h0 := i _ (.head _)
    have hx : dle (if PySem.W.dataLt z x = true then z else x) x = true := by
      split
      · rename_i hlt
        have t := dle_total z x
        have e : dle x z = false := by rw [dle_def, hlt]; rfl
        rw [e, Bool.or_false] at t
        exact t
      · have t := dle_total x x
        rwa [Bool.or_self] at t
    have hz : dle (if PySem.W.dataLt z x = true then z else x) z = true := by
      split
      · have t := dle_total z z
        rwa [Bool.or_self] at t
      · rename_i hlt
        rw [dle_def]
        cases e : PySem.W.dataLt z x with
        | false => rfl
        | true => exact absurd e hlt
    rcases List.mem_cons.mp hy with rfl | hy
    · exact dle_trans _ _ _ h0 hx
    · rcases List.mem_cons.mp hy with rfl | hy
      · exact dle_trans _ _ _ h0 hz
      · exact i y (.tail _ hy)
theorem alike_sets : ∀ (X Y : List Nat), PySem.W.alikeAll (X.map (pt 2)) (Y.map (pt 2)) = true
  | [], _ => by simp [PySem.W.alikeAll]
  | _ :: _, [] => by simp [PySem.W.alikeAll]
  | a :: X, b :: Y => by
    rw [List.map_cons, List.map_cons, PySem.W.alikeAll, alike_sets X Y, alike_pt Sz2 a b]
    rfl
theorem shpAll8 : ∀ K : List (List Nat), shpAll 8 (K.map (st 2)) = true
  | [] => rfl
  | X :: K => by
    rw [List.map_cons, shpAll, shpAll8 K, Bool.and_true]
    exact shp_ptT 2 X
theorem kind_min {L : List Nat} {K : List (List Nat)} (h : Orb L K) : minLD [.list (K.map (st 2))] = some (st 2 (repN L)) := by
  have oL := h.keys.ok L h.self
  obtain ⟨r1, r2, _⟩ := rep_ok oL
  have hR : repN L ∈ K := (h.mem (repL_ok _ r2)).mpr r1
  cases hK : K with
  | nil => rw [hK] at hR; cases hR
  | cons X Ks =>
    have al : alikeB ((X :: Ks).map (st 2)) = true := by
      unfold alikeB
      refine List.all_eq_true.mpr fun x hx => List.all_eq_true.mpr fun y hy => ?_
      obtain ⟨a, _, rfl⟩ := List.mem_map.mp hx
      obtain ⟨b, _, rfl⟩ := List.mem_map.mp hy
      show PySem.W.alike (.tuple (a.map (pt 2))) (.tuple (b.map (pt 2))) = true
      rw [PySem.W.alike]
      exact alike_sets a b
    have nn : (((X :: Ks).map (st 2)).all fun d => !isN d) = true := by
      refine List.all_eq_true.mpr fun x hx => ?_
      obtain ⟨a, _, rfl⟩ := List.mem_map.mp hx
      rfl
    show (if _ then some (PySem.W.minD (st 2 X) (Ks.map (st 2))) else none) = _
    rw [if_pos ⟨al, nn, shpAll8 (X :: Ks)⟩]
    have hm := minD_mem (st 2 X) (Ks.map (st 2))
    have hle := minD_le (st 2 X) (Ks.map (st 2))
    have e : st 2 X :: Ks.map (st 2) = K.map (st 2) := by rw [hK]; rfl
    rw [e] at hm hle
    obtain ⟨M, hM, eM⟩ := List.mem_map.mp hm
    have oM := h.keys.ok M hM
    have cM := (h.mem oM).mp hM
    have rM := (rep_ok oM).2.2
    rw [repN_cls cM] at rM
    rw [← eM]
    rcases rM with z | z
    · rw [← z]
    · have := hle (st 2 (repN L)) (List.mem_map.mpr ⟨_, hR, rfl⟩)
      rw [← eM, dle_def, z] at this
      cases this
theorem in_sets {A : List (List Nat)} (hA : ∀ X ∈ A, OkSet 2 X) {X : List Nat} (hX : OkSet 2 X) : inD (st 2 X) (.list (A.map (st 2))) = some (.bool (decide (X ∈ A))) := by
  have e : ((A.map (st 2)).any fun z => PyData.eqv z (st 2 X)) = decide (X ∈ A) := by
    rw [List.any_map]
    induction A with
    | nil => rfl
    | cons Y A ih =>
      rw [List.any_cons, ih fun Z hZ => hA Z (.tail _ hZ)]
      show (PyData.eqv (.tuple (Y.map (pt 2))) (.tuple (X.map (pt 2))) || _) = _
      rw [PyData.eqv, eqv_pts Sz2 (hA Y (.head _)).lt hX.lt]
      by_cases e : Y = X
      · subst e; simp
      · have : ¬ X = Y := fun h => e h.symm
        simp [e, this]
  have sh : shp 8 (.list (A.map (st 2))) = true := by
    rw [shp]
    clear e hA
    induction A with
    | nil => rfl
    | cons Y A ih =>
      rw [List.map_cons, shpAll, ih, Bool.and_true]
      show shp 7 (.tuple (Y.map (pt 2))) = true
      rw [shp]
      exact shp_pts _ 2 Y
  show (if shp 8 (st 2 X) = true ∧ shp 8 (.list (A.map (st 2))) = true then some (PyData.bool ((A.map (st 2)).any fun z => PyData.eqv z (st 2 X))) else none) = _
  rw [if_pos ⟨shp_ptT 2 X, sh⟩, e]
theorem check_flat_ok {L : List Nat} (hL : OkSet 2 L) : m_check_flat [.d (st 2 L)] = .ret (.d .none) [.d (st 2 L)] := by
  have li : m_lies [.d (.int 2), .d (st 2 L)] = .ret (.d (.bool true)) [.d (.int 2), .d (st 2 L)] := lies_spec Sz2 hL
  unfold m_check_flat
  rw [run1]
  show runO _ (b_check_flat [] [some (.d (st 2 L))]) = _
  unfold b_check_flat
  simp -implicitDefEqProofs only [ev_seq, kSeq_nx, kSeq_rt, ev_next, ev_asg0, kAsg_d, ev_ret, kRet_d, ev_drop, kDrop_e, ev_ifS, kIf_t, kIf_f, ev_ifE, kIfE_t, kIfE_f, ev_D, ev_var, varS_d, varS_l, varS_z, varS_m, ev_bin, kBin1_e, kBin2_e, binR_e, optR_e, look_d, look_own, lookS_l, ev_nil, ev_cons, kCons1_e, kCons2_e, ev_CB, kCB_e, cbR_e, lookAll_nil, lookAll_cons, laR_e, ev_tup, kTup_e, tupR_e, ev_lst, kLst_e, lstR_e, datas_nil, datas_cons, ev_call, kCall_e, caR_e, frR_ret, frR_exc, argS_nil, argS_d, argS_own, argO_e, ownIx_nil, ownIx_d, ownIx_own, nodup0, nodup1, nodup01, putBack_nil, putBack_d, putBack_own, ev_asB, kAsB_b, ev_tand, kTAnd_t, kTAnd_f, ev_tor, kTOr_t, kTOr_f, ev_tnot, kTNot_e, ev_and, kAnd_t, kAnd_f, ev_or, kOr_t, kOr_f, ev_not, kNot_b, ev_own0, kOwn_e, ownR_e, ev_ownL0, kOwnL_e, ownLR_l, ownLR_t, R.bind_ok, R.bind_exc, Option.map_some, List.getElem?_cons_zero, List.getElem?_cons_succ, List.set_cons_zero, List.set_cons_succ, List.length_cons, List.length_nil, Nat.reduceAdd, Nat.reduceLeDiff, decide_true, decide_false, gR_t, Nat.le_refl, Nat.zero_le, addD_i, subD_i, ltD_i, gtD_i, leD_i, geD_i, len_l, len_t, tuple_l, list_l, list_t, is_b, isNot_b, isB_b, ev_src, kSrc_l, kSrc_t, ev_srcs, kSrcs_e, srcR_e, ev_aug0, augR_e, kAug_e, getL_e, getLS_l, ev_app, appR1_e, kApp_e, appR2_e, one_e, List.nil_append, List.cons_append, Nat.reduceLT, Nat.zero_lt_succ, ev_yes, ev_neg, kNeg_e, ev_part, kPart_e, ev_nopart, ev_sl, kSl1_e, kSl2_e, kSl3_e, slR_e, runO_rt, Bool.not_true, Bool.not_false, ev_par0, kPar_e, ev_try, tryR_ok, tryR_exc, ev_tab, kTab_e, tabR_e, and_self, and_true, true_and, li, runO_nx]
  rfl
theorem kind_spec {L : List Nat} (hL : OkSet 2 L) : m_kind [.d (st 2 L)] = .ret (.d (st 2 (repN L))) [.d (st 2 L)] := by
  obtain ⟨K, hK, e⟩ := alike_to_spec hL
  unfold m_kind
  rw [run1]
  show runO _ (b_kind [] [some (.d (st 2 L))]) = _
  unfold b_kind
  simp -implicitDefEqProofs only [ev_seq, kSeq_nx, kSeq_rt, ev_next, ev_asg0, kAsg_d, ev_ret, kRet_d, ev_drop, kDrop_e, ev_ifS, kIf_t, kIf_f, ev_ifE, kIfE_t, kIfE_f, ev_D, ev_var, varS_d, varS_l, varS_z, varS_m, ev_bin, kBin1_e, kBin2_e, binR_e, optR_e, look_d, look_own, lookS_l, ev_nil, ev_cons, kCons1_e, kCons2_e, ev_CB, kCB_e, cbR_e, lookAll_nil, lookAll_cons, laR_e, ev_tup, kTup_e, tupR_e, ev_lst, kLst_e, lstR_e, datas_nil, datas_cons, ev_call, kCall_e, caR_e, frR_ret, frR_exc, argS_nil, argS_d, argS_own, argO_e, ownIx_nil, ownIx_d, ownIx_own, nodup0, nodup1, nodup01, putBack_nil, putBack_d, putBack_own, ev_asB, kAsB_b, ev_tand, kTAnd_t, kTAnd_f, ev_tor, kTOr_t, kTOr_f, ev_tnot, kTNot_e, ev_and, kAnd_t, kAnd_f, ev_or, kOr_t, kOr_f, ev_not, kNot_b, ev_own0, kOwn_e, ownR_e, ev_ownL0, kOwnL_e, ownLR_l, ownLR_t, R.bind_ok, R.bind_exc, Option.map_some, List.getElem?_cons_zero, List.getElem?_cons_succ, List.set_cons_zero, List.set_cons_succ, List.length_cons, List.length_nil, Nat.reduceAdd, Nat.reduceLeDiff, decide_true, decide_false, gR_t, Nat.le_refl, Nat.zero_le, addD_i, subD_i, ltD_i, gtD_i, leD_i, geD_i, len_l, len_t, tuple_l, list_l, list_t, is_b, isNot_b, isB_b, ev_src, kSrc_l, kSrc_t, ev_srcs, kSrcs_e, srcR_e, ev_aug0, augR_e, kAug_e, getL_e, getLS_l, ev_app, appR1_e, kApp_e, appR2_e, one_e, List.nil_append, List.cons_append, Nat.reduceLT, Nat.zero_lt_succ, ev_yes, ev_neg, kNeg_e, ev_part, kPart_e, ev_nopart, ev_sl, kSl1_e, kSl2_e, kSl3_e, slR_e, runO_rt, Bool.not_true, Bool.not_false, ev_par0, kPar_e, ev_try, tryR_ok, tryR_exc, ev_tab, kTab_e, tabR_e, and_self, and_true, true_and, check_flat_ok hL, e, kind_min hK]
  rfl
theorem are_alike_spec {X Y : List Nat} (hX : OkSet 2 X) (hY : OkSet 2 Y) : m_are_alike [.d (st 2 X), .d (st 2 Y)] = .ret (.d (.bool (decide (cls Y = cls X)))) [.d (st 2 X), .d (st 2 Y)] := by
  obtain ⟨K, hK, e⟩ := alike_to_spec hX
  have i := in_sets hK.keys.ok hY
  rw [decide_eq_decide.mpr (hK.mem hY)] at i
  unfold m_are_alike
  rw [run2]
  show runO _ (b_are_alike [] [some (.d (st 2 X)), some (.d (st 2 Y))]) = _
  unfold b_are_alike
  simp -implicitDefEqProofs only [ev_seq, kSeq_nx, kSeq_rt, ev_next, ev_asg0, kAsg_d, ev_ret, kRet_d, ev_drop, kDrop_e, ev_ifS, kIf_t, kIf_f, ev_ifE, kIfE_t, kIfE_f, ev_D, ev_var, varS_d, varS_l, varS_z, varS_m, ev_bin, kBin1_e, kBin2_e, binR_e, optR_e, look_d, look_own, lookS_l, ev_nil, ev_cons, kCons1_e, kCons2_e, ev_CB, kCB_e, cbR_e, lookAll_nil, lookAll_cons, laR_e, ev_tup, kTup_e, tupR_e, ev_lst, kLst_e, lstR_e, datas_nil, datas_cons, ev_call, kCall_e, caR_e, frR_ret, frR_exc, argS_nil, argS_d, argS_own, argO_e, ownIx_nil, ownIx_d, ownIx_own, nodup0, nodup1, nodup01, putBack_nil, putBack_d, putBack_own, ev_asB, kAsB_b, ev_tand, kTAnd_t, kTAnd_f, ev_tor, kTOr_t, kTOr_f, ev_tnot, kTNot_e, ev_and, kAnd_t, kAnd_f, ev_or, kOr_t, kOr_f, ev_not, kNot_b, ev_own0, kOwn_e, ownR_e, ev_ownL0, kOwnL_e, ownLR_l, ownLR_t, R.bind_ok, R.bind_exc, Option.map_some, List.getElem?_cons_zero, List.getElem?_cons_succ, List.set_cons_zero, List.set_cons_succ, List.length_cons, List.length_nil, Nat.reduceAdd, Nat.reduceLeDiff, decide_true, decide_false, gR_t, Nat.le_refl, Nat.zero_le, addD_i, subD_i, ltD_i, gtD_i, leD_i, geD_i, len_l, len_t, tuple_l, list_l, list_t, is_b, isNot_b, isB_b, ev_src, kSrc_l, kSrc_t, ev_srcs, kSrcs_e, srcR_e, ev_aug0, augR_e, kAug_e, getL_e, getLS_l, ev_app, appR1_e, kApp_e, appR2_e, one_e, List.nil_append, List.cons_append, Nat.reduceLT, Nat.zero_lt_succ, ev_yes, ev_neg, kNeg_e, ev_part, kPart_e, ev_nopart, ev_sl, kSl1_e, kSl2_e, kSl3_e, slR_e, runO_rt, Bool.not_true, Bool.not_false, ev_par0, kPar_e, ev_try, tryR_ok, tryR_exc, ev_tab, kTab_e, tabR_e, and_self, and_true, true_and, check_flat_ok hX, check_flat_ok hY, e, i]
  rfl
end FL

namespace FL
open PySem L2
/-! ### what several laws use -/
theorem law_run {n : Nat} {b : List Nat → Rho → R Fl} {ns : List Int} {v : S} (h : ∃ ρ', b [] (rho0 n [.z ns]) = .ok (.rt v) ρ') : ∃ ss, runF n b [.z ns] = .ret v ss := by
  obtain ⟨ρ', e⟩ := h
  refine ⟨outS 0 [.z ns] ρ', ?_⟩
  rw [ev_run]
  have e1 : ownIdx 0 [.z ns] = [] := rfl
  rw [e1, e, runO_rt]
theorem truth_spec : ∀ a b : Bool, m__law_same_truth [.d (.bool a), .d (.bool b)] = .ret (.d (.bool (a == b))) [.d (.bool a), .d (.bool b)] := by
  intro a b
  cases a <;> cases b <;> rfl
theorem number_spec (a b : Int) : m__law_same_number [.d (.int a), .d (.int b)] = .ret (.d (.bool (decide (a = b)))) [.d (.int a), .d (.int b)] := by
  unfold m__law_same_number
  rw [run2]
  show runO _ (b__law_same_number [] [some (.d (.int a)), some (.d (.int b))]) = _
  unfold b__law_same_number
  simp -implicitDefEqProofs only [ev_seq, kSeq_nx, kSeq_rt, ev_next, ev_asg0, kAsg_d, ev_ret, kRet_d, ev_drop, kDrop_e, ev_ifS, kIf_t, kIf_f, ev_ifE, kIfE_t, kIfE_f, ev_D, ev_var, varS_d, varS_l, varS_z, varS_m, ev_bin, kBin1_e, kBin2_e, binR_e, optR_e, look_d, look_own, lookS_l, ev_nil, ev_cons, kCons1_e, kCons2_e, ev_CB, kCB_e, cbR_e, lookAll_nil, lookAll_cons, laR_e, ev_tup, kTup_e, tupR_e, ev_lst, kLst_e, lstR_e, datas_nil, datas_cons, ev_call, kCall_e, caR_e, frR_ret, frR_exc, argS_nil, argS_d, argS_own, argO_e, ownIx_nil, ownIx_d, ownIx_own, nodup0, nodup1, nodup01, putBack_nil, putBack_d, putBack_own, ev_asB, kAsB_b, ev_tand, kTAnd_t, kTAnd_f, ev_tor, kTOr_t, kTOr_f, ev_tnot, kTNot_e, ev_and, kAnd_t, kAnd_f, ev_or, kOr_t, kOr_f, ev_not, kNot_b, ev_own0, kOwn_e, ownR_e, ev_ownL0, kOwnL_e, ownLR_l, ownLR_t, R.bind_ok, R.bind_exc, Option.map_some, List.getElem?_cons_zero, List.getElem?_cons_succ, List.set_cons_zero, List.set_cons_succ, List.length_cons, List.length_nil, Nat.reduceAdd, Nat.reduceLeDiff, decide_true, decide_false, gR_t, Nat.le_refl, Nat.zero_le, addD_i, subD_i, ltD_i, gtD_i, leD_i, geD_i, len_l, len_t, tuple_l, list_l, list_t, is_b, isNot_b, isB_b, ev_src, kSrc_l, kSrc_t, ev_srcs, kSrcs_e, srcR_e, ev_aug0, augR_e, kAug_e, getL_e, getLS_l, ev_app, appR1_e, kApp_e, appR2_e, one_e, List.nil_append, List.cons_append, Nat.reduceLT, Nat.zero_lt_succ, ev_yes, ev_neg, kNeg_e, ev_part, kPart_e, ev_nopart, ev_sl, kSl1_e, kSl2_e, kSl3_e, slR_e, runO_rt, Bool.not_true, Bool.not_false, ev_par0, kPar_e, ev_try, tryR_ok, tryR_exc, ev_tab, kTab_e, tabR_e, and_self, and_true, true_and, eqI]
  rfl
def isExc (f : FR) (c : Nat) (ss : List D) : Bool := match f with
  | .exc k l => decide (k = c) && dsEq l ss
  | _ => false
theorem isExc_eq {f : FR} {c : Nat} {ss : List D} (h : isExc f c ss = true) : f = .exc c (ss.map .d) := by
  unfold isExc at h
  split at h
  · rw [Bool.and_eq_true] at h
    rw [of_decide_eq_true h.1, dsEq_eq h.2]
  · cases h
def isTr : R Fl → Bool
  | .ok (.rt (.d (.bool true))) _ => true
  | _ => false
theorem isTr_eq {r : R Fl} (h : isTr r = true) : ∃ ρ', r = .ok (.rt (.d (.bool true))) ρ' := by
  unfold isTr at h
  split at h
  · exact ⟨_, rfl⟩
  · cases h
theorem isEmpty_len {α β : Type} {A : List α} {B : List β} (h : A.length = B.length) : A.isEmpty = B.isEmpty := by
  cases A <;> cases B <;> first | rfl | (simp at h)
theorem ne_ii (i : Int) : neD (.int i) (.int i) = some (.bool false) := by rw [neI]; simp
theorem eq_ii (i : Int) : eqD (.int i) (.int i) = some (.bool true) := by rw [eqI]; simp
theorem ne_bb (b : Bool) : neD (.bool b) (.bool b) = some (.bool false) := by cases b <;> rfl
theorem beq_bb : ∀ b : Bool, (b == b) = true := by decide
theorem len_st (s : Nat) (L : List Nat) : lenD [st s L] = some (.int (L.length : Nat)) := by show some _ = _; rw [List.length_map]
theorem len_map {α : Type} (f : α → D) (L : List α) : lenD [.list (L.map f)] = some (.int (L.length : Nat)) := by show some _ = _; rw [List.length_map]
/-! ### values that are no sets -/
theorem bools_map {α : Type} (f : α → Bool) : ∀ l : List α, boolsOf (l.map fun a => PyData.bool (f a)) = some (l.map f)
  | [] => rfl
  | a :: l => by rw [List.map_cons, boolsOf, bools_map f l]; rfl
theorem all_map {α : Type} (f : α → Bool) (l : List α) : allD [.list (l.map fun a => .bool (f a))] = some (.bool (l.all f)) := by
  show (boolsOf _).map _ = _
  rw [bools_map]
  show some (PyData.bool _) = _
  congr 2
  induction l with
  | nil => rfl
  | cons a l ih => rw [List.map_cons, List.all_cons, List.all_cons, ih]; rfl
def nbr (L : List Nat) : Bool := (L.zip (L.drop 1)).all fun p => decide (p.1 < p.2)
theorem nbr_iff : ∀ {L : List Nat}, nbr L = true ↔ L.Pairwise (· < ·)
  | [] => by simp [nbr]
  | [a] => by simp [nbr]
  | a :: b :: L => by
    have ih := nbr_iff (L := b :: L)
    have e : nbr (a :: b :: L) = (decide (a < b) && nbr (b :: L)) := rfl
    rw [e, Bool.and_eq_true, ih, decide_eq_true_iff]
    constructor
    · rintro ⟨h1, h2⟩
      refine List.pairwise_cons.mpr ⟨fun x hx => ?_, h2⟩
      rcases List.mem_cons.mp hx with e | hx
      · rw [e]; exact h1
      · exact Nat.lt_trans h1 ((List.pairwise_cons.mp h2).1 x hx)
    · intro h
      obtain ⟨h1, h2⟩ := List.pairwise_cons.mp h
      exact ⟨h1 b List.mem_cons_self, h2⟩
/-- lies: of any tuple of places -/
theorem lies_any {s : Nat} (hs : Sz s) {L : List Nat} (hL : ∀ a ∈ L, a < sz s) (hl : L.length ≤ 1000) : m_lies [.d (.int s), .d (st s L)] = .ret (.d (.bool (nbr L))) [.d (.int s), .d (st s L)] := by
  have c1 : fLc (fSrc (fVar 1)) (.n 4) [4] fYes (fCall m_fits (fCons (fVar 0) (fCons (fVar 4) fNil))) [some (.d (.int s)), some (.d (st s L)), none, none, none] = .ok (.d (.list (((L.map (pt s)).filter fun _ => true).map fun _ => .bool true))) [some (.d (.int s)), some (.d (st s L)), none, none, none] := by
    refine fLc_n (dep := none) (xs := L.map (pt s)) (fun _ => true) (fun _ => .bool true) rfl (by rw [List.length_map]; omega) (by simp) rfl rfl (fun x hx => rfl) fun x hx _ => ?_
    obtain ⟨a, ha, rfl⟩ := List.mem_map.mp hx
    exact callR (fits_spec hs (hL a ha)) rfl rfl rfl rfl
  have z : zipD (L.map (pt s)) ((L.map (pt s)).drop 1) = ((L.zip (L.drop 1)).map fun p => (pt s p.1, pt s p.2)).map fun x => .tuple [x.1, x.2] := by
    rw [zipD_eq, ← List.map_drop, List.zip_map]
    rfl
  have c2 : fLc (fSrcs (fun _ => zipOf) (fCons (fVar 1) (fCons (fSl (fVar 1) (fPart (fD (.int 1))) fNoPart) fNil))) (.p 2 3) [2, 3] fYes (fBin ltD (fVar 2) (fVar 3)) [some (.d (.int s)), some (.d (st s L)), none, none, none] = .ok (.d (.list ((((L.zip (L.drop 1)).map fun p => (pt s p.1, pt s p.2)).filter fun _ => true).map fun x => (ltD x.1 x.2).getD .none))) [some (.d (.int s)), some (.d (st s L)), none, none, none] := by
    refine fLc_p (dep := none) (i := 2) (j := 3) (ρ1 := [some (.d (.int s)), some (.d (st s L)), none, none, none]) (xs := (L.zip (L.drop 1)).map fun p => (pt s p.1, pt s p.2)) (fun _ _ => true) (fun x y => (ltD x y).getD .none) ?_ ?_ (by decide) (by simp) (by simp) rfl rfl rfl (fun x hx => rfl) fun x hx _ => ?_
    · refine fSrcs_of (ws := [.d (st s L), .d (.tuple ((L.map (pt s)).drop 1))]) ?_ ?_
      · refine fCons_of rfl (fCons_of (fSl_d (x := st s L) (z := .tuple ((L.map (pt s)).drop 1)) rfl rfl rfl rfl ?_) rfl)
        exact slice_spec true (L.map (pt s)) 1
      · show some (zipD (L.map (pt s)) ((L.map (pt s)).drop 1), none) = _
        rw [z]
    · rw [List.length_map, List.length_zip]
      omega
    · obtain ⟨p, hp, rfl⟩ := List.mem_map.mp hx
      have h2 := List.of_mem_zip hp
      have e := lt_spec hs (hL _ h2.1) (hL _ (List.mem_of_mem_drop h2.2))
      refine fBin_d (x := pt s p.1) (y := pt s p.2) rfl rfl rfl rfl ?_
      show _ = some ((ltD (pt s p.1) (pt s p.2)).getD .none)
      rw [e]
      rfl
  have c3 : ((((L.zip (L.drop 1)).map fun p => (pt s p.1, pt s p.2)).filter fun _ => true).map fun x => (ltD x.1 x.2).getD .none) = (L.zip (L.drop 1)).map fun p => .bool (decide (p.1 < p.2)) := by
    rw [List.filter_eq_self.mpr (fun _ _ => rfl), List.map_map]
    refine List.map_congr_left fun p hp => ?_
    have h2 := List.of_mem_zip hp
    show (ltD (pt s p.1) (pt s p.2)).getD .none = _
    rw [lt_spec hs (hL _ h2.1) (hL _ (List.mem_of_mem_drop h2.2))]
    rfl
  rw [c3] at c2
  refine runR [some (.d (.int s)), some (.d (st s L)), none, none, none] ?_ rfl
  show b_lies [] [some (.d (.int s)), some (.d (st s L)), none, none, none] = .ok (.rt (.d (.bool (nbr L)))) [some (.d (.int s)), some (.d (st s L)), none, none, none]
  unfold b_lies
  refine seqN (ρ1 := [some (.d (.int s)), some (.d (st s L)), none, none, none]) ?_ (seqR (fRet_d (fCB_d (fCons_of c2 rfl) rfl (all_map _ _))))
  refine ifF (ρ1 := [some (.d (.int s)), some (.d (st s L)), none, none, none]) ?_ rfl
  exact (tfOr_f (ρ1 := [some (.d (.int s)), some (.d (st s L)), none, none, none]) rfl).trans (tfNot_b (b := true) (asB_b (fCB_d (fCons_of c1 rfl) rfl (all_true _))))
theorem check_set_off {s : Nat} (hs : Sz s) {x : D} (h : m_lies [.d (.int s), .d x] = .ret (.d (.bool false)) [.d (.int s), .d x]) : m_check_set [.d (.int s), .d x] = .exc 2 [.d (.int s), .d x] := by
  unfold m_check_set
  rw [run2]
  show runO _ (b_check_set [] [some (.d (.int s)), some (.d x)]) = _
  unfold b_check_set fRaise
  simp -implicitDefEqProofs only [ev_seq, kSeq_nx, kSeq_rt, ev_next, ev_asg0, kAsg_d, ev_ret, kRet_d, ev_drop, kDrop_e, ev_ifS, kIf_t, kIf_f, ev_ifE, kIfE_t, kIfE_f, ev_D, ev_var, varS_d, varS_l, varS_z, varS_m, ev_bin, kBin1_e, kBin2_e, binR_e, optR_e, look_d, look_own, lookS_l, ev_nil, ev_cons, kCons1_e, kCons2_e, ev_CB, kCB_e, cbR_e, lookAll_nil, lookAll_cons, laR_e, ev_tup, kTup_e, tupR_e, ev_lst, kLst_e, lstR_e, datas_nil, datas_cons, ev_call, kCall_e, caR_e, frR_ret, frR_exc, argS_nil, argS_d, argS_own, argO_e, ownIx_nil, ownIx_d, ownIx_own, nodup0, nodup1, nodup01, putBack_nil, putBack_d, putBack_own, ev_asB, kAsB_b, ev_tand, kTAnd_t, kTAnd_f, ev_tor, kTOr_t, kTOr_f, ev_tnot, kTNot_e, ev_and, kAnd_t, kAnd_f, ev_or, kOr_t, kOr_f, ev_not, kNot_b, ev_own0, kOwn_e, ownR_e, ev_ownL0, kOwnL_e, ownLR_l, ownLR_t, R.bind_ok, R.bind_exc, Option.map_some, List.getElem?_cons_zero, List.getElem?_cons_succ, List.set_cons_zero, List.set_cons_succ, List.length_cons, List.length_nil, Nat.reduceAdd, Nat.reduceLeDiff, decide_true, decide_false, gR_t, Nat.le_refl, Nat.zero_le, addD_i, subD_i, ltD_i, gtD_i, leD_i, geD_i, len_l, len_t, tuple_l, list_l, list_t, is_b, isNot_b, isB_b, ev_src, kSrc_l, kSrc_t, ev_srcs, kSrcs_e, srcR_e, ev_aug0, augR_e, kAug_e, getL_e, getLS_l, ev_app, appR1_e, kApp_e, appR2_e, one_e, List.nil_append, List.cons_append, Nat.reduceLT, Nat.zero_lt_succ, ev_yes, ev_neg, kNeg_e, ev_part, kPart_e, ev_nopart, ev_sl, kSl1_e, kSl2_e, kSl3_e, slR_e, runO_rt, Bool.not_true, Bool.not_false, ev_par0, kPar_e, ev_try, tryR_ok, tryR_exc, ev_tab, kTab_e, tabR_e, and_self, and_true, true_and, check_size_spec hs, h, runO_exc]
  rfl
theorem lies_list (s : Int) (xs : List D) : m_lies [.d (.int s), .d (.list xs)] = .ret (.d (.bool false)) [.d (.int s), .d (.list xs)] := rfl
theorem is_set_of {s : Nat} (hs : Sz s) {x : D} {b : Bool} (h : m_lies [.d (.int s), .d x] = .ret (.d (.bool b)) [.d (.int s), .d x]) : m_is_set [.d (.int s), .d x] = .ret (.d (.bool b)) [.d (.int s), .d x] := by
  unfold m_is_set
  rw [run2]
  show runO _ (b_is_set [] [some (.d (.int s)), some (.d x)]) = _
  unfold b_is_set
  simp -implicitDefEqProofs only [ev_seq, kSeq_nx, kSeq_rt, ev_next, ev_asg0, kAsg_d, ev_ret, kRet_d, ev_drop, kDrop_e, ev_ifS, kIf_t, kIf_f, ev_ifE, kIfE_t, kIfE_f, ev_D, ev_var, varS_d, varS_l, varS_z, varS_m, ev_bin, kBin1_e, kBin2_e, binR_e, optR_e, look_d, look_own, lookS_l, ev_nil, ev_cons, kCons1_e, kCons2_e, ev_CB, kCB_e, cbR_e, lookAll_nil, lookAll_cons, laR_e, ev_tup, kTup_e, tupR_e, ev_lst, kLst_e, lstR_e, datas_nil, datas_cons, ev_call, kCall_e, caR_e, frR_ret, frR_exc, argS_nil, argS_d, argS_own, argO_e, ownIx_nil, ownIx_d, ownIx_own, nodup0, nodup1, nodup01, putBack_nil, putBack_d, putBack_own, ev_asB, kAsB_b, ev_tand, kTAnd_t, kTAnd_f, ev_tor, kTOr_t, kTOr_f, ev_tnot, kTNot_e, ev_and, kAnd_t, kAnd_f, ev_or, kOr_t, kOr_f, ev_not, kNot_b, ev_own0, kOwn_e, ownR_e, ev_ownL0, kOwnL_e, ownLR_l, ownLR_t, R.bind_ok, R.bind_exc, Option.map_some, List.getElem?_cons_zero, List.getElem?_cons_succ, List.set_cons_zero, List.set_cons_succ, List.length_cons, List.length_nil, Nat.reduceAdd, Nat.reduceLeDiff, decide_true, decide_false, gR_t, Nat.le_refl, Nat.zero_le, addD_i, subD_i, ltD_i, gtD_i, leD_i, geD_i, len_l, len_t, tuple_l, list_l, list_t, is_b, isNot_b, isB_b, ev_src, kSrc_l, kSrc_t, ev_srcs, kSrcs_e, srcR_e, ev_aug0, augR_e, kAug_e, getL_e, getLS_l, ev_app, appR1_e, kApp_e, appR2_e, one_e, List.nil_append, List.cons_append, Nat.reduceLT, Nat.zero_lt_succ, ev_yes, ev_neg, kNeg_e, ev_part, kPart_e, ev_nopart, ev_sl, kSl1_e, kSl2_e, kSl3_e, slR_e, runO_rt, Bool.not_true, Bool.not_false, ev_par0, kPar_e, ev_try, tryR_ok, tryR_exc, ev_tab, kTab_e, tabR_e, and_self, and_true, true_and, check_size_spec hs, h]
  rfl
end FL

namespace FL
open PySem L2
/-! ### free sets and moves -/
def midN (L : List Nat) : Nat := 3 * (((L.map fun a => a / 3).sum) % 3) + ((L.map fun a => a % 3).sum) % 3
def halfI (m a : Nat) : List Nat → Nat
  | [] => 0
  | b :: r => (if th a b = m then 1 else 0) + halfI m a r
def halfG (m : Nat) : List Nat → Nat
  | [] => 0
  | a :: r => halfI m a r + halfG m r
theorem t18 : ((List.range 5).all fun c => (fsN 2 c).all fun L => ((List.range 9).all fun p => opn 2 (mv (fun a => addN a p) L) == mv (fun a => addN a p) (opn 2 L)) && (opn 2 (mv (excN 2 0 1) L) == mv (excN 2 0 1) (opn 2 L)) && (opn 2 (mv dblN L) == mv dblN (opn 2 L)) &&
    decide ((opn 2 L).length = [9, 8, 6, 3, 0].getD c 0) && decide ((cmpl 2 27 L).length = 4) && (repN (cmpl 2 27 L) == [0, 1, 3, 4]) && (L.all fun a => (cmpl 2 27 L).contains a) && (decide (c ≠ 4) || (!L.contains (midN L) && decide (halfG (midN L) L = 2)))) = true := by decide +kernel
theorem ne18 : ((List.range 5).all fun c => !(fsN 2 c).isEmpty) = true := by decide +kernel
abbrev q18 (ns : List Int) (tw : List D) (c : Nat) (L : List Nat) (p : Nat) (o5 o6 o7 o8 o9 o10 o11 o12 o13 o14 o15 : Option S) : Rho := [some (.z ns), some (.l tw), some (.d (.int c)), some (.d (st 2 L)), some (.d (pt 2 p)), o5, o6, o7, o8, o9, o10, o11, o12, o13, o14, o15, none, none, none]
theorem rev_tab : (onesB 2 fun n => decide ((dig 2 n).reverse = dig 2 (excN 2 0 1 n)) && decide (excN 2 0 1 n < 9)) = true := by decide +kernel
section
variable {ns : List Int} {tw : List D} {c p : Nat} {L : List Nat} (hL : OkSet 2 L) (hf : ll L = [])
include hL hf
theorem op18 : m_open_places [.d (.int 2), .d (st 2 L)] = .ret (.d (.list ((opn 2 L).map (pt 2)))) [.d (.int 2), .d (st 2 L)] := open_places_ok Sz2 hL hf
theorem opn_len9 : (opn 2 L).length ≤ 9 := by
  have := List.length_filter_le (fun n => !decide (n ∈ L) && !hitN n L) (List.range (sz 2))
  rwa [List.length_range] at this
theorem opn_lt : ∀ n ∈ opn 2 L, n < sz 2 := fun n hn => ((mem_opn Sz2 hL).mp hn).1
theorem k18_c12 (hp : p < sz 2) {o5 o6 o7 o8 o9 o10 o11 o12 o15 : Option S} : C_law_k18_12 (q18 ns tw c L p o5 o6 o7 o8 o9 o10 o11 o12 none none o15) = .ok (.d (.list ((opn 2 L).map fun n => pt 2 (addN n p)))) (q18 ns tw c L p o5 o6 o7 o8 o9 o10 o11 o12 none none o15) := by
  have l9 := opn_len9 hL hf
  refine (fLc_c (pt 2) (xs := opn 2 L) (fun _ => true) (fun n => pt 2 (addN n p)) (ρ1 := q18 ns tw c L p o5 o6 o7 o8 o9 o10 o11 o12 none none o15) (dep := none) (fSrc_of (callR (ws := [.d (.int 2), .d (st 2 L)]) (op18 hL hf) rfl rfl rfl rfl) rfl) (by omega) (by simp) rfl rfl (fun _ _ => rfl) (fun n hn _ => ?_)).trans (by rw [List.filter_eq_self.mpr (fun _ _ => rfl)])
  have hn' := opn_lt hL hf n hn
  let ρ : Rho := (q18 ns tw c L p o5 o6 o7 o8 o9 o10 o11 o12 none none o15).set 16 (some (.d (pt 2 n)))
  have inner : C_law_k18_11 ρ = .ok (.d (.list ((dig 2 (addN n p)).map .int))) ρ := by
    have hz : zipOf [.d (pt 2 n), .d (pt 2 p)] = some (((((dig 2 n).map PyData.int).zip ((dig 2 p).map PyData.int)).map fun x => .tuple [x.1, x.2]), none) := by
      show some (zipD _ _, none) = _
      rw [zipD_eq]
    have hlz : (((dig 2 n).map PyData.int).zip ((dig 2 p).map PyData.int)).length ≤ 1000000 := by
      rw [List.length_zip, List.length_map, dig_len Sz2]
      omega
    refine (fLc_p (fun _ _ => true) (fun x y => match x, y with | .int i, .int j => .int ((i + j).fmod 3) | _, _ => .none) (ρ1 := ρ) (dep := none) (fSrcs_of (ws := [.d (pt 2 n), .d (pt 2 p)]) rfl hz) hlz (by decide) (by simp [ρ]) (by simp [ρ]) rfl rfl rfl (fun x _ => rfl) (fun x hx _ => ?_)).trans ?_
    · have h1 := List.of_mem_zip hx
      obtain ⟨i, _, e1⟩ := List.mem_map.mp h1.1
      obtain ⟨j, _, e2⟩ := List.mem_map.mp h1.2
      obtain ⟨x1, x2⟩ := x
      simp only at e1 e2
      subst e1 e2
      simp -implicitDefEqProofs only [ev_seq, kSeq_nx, kSeq_rt, ev_next, ev_asg0, kAsg_d, ev_ret, kRet_d, ev_drop, kDrop_e, ev_ifS, kIf_t, kIf_f, ev_ifE, kIfE_t, kIfE_f, ev_D, ev_var, varS_d, varS_l, varS_z, varS_m, ev_bin, kBin1_e, kBin2_e, binR_e, optR_e, look_d, look_own, lookS_l, ev_nil, ev_cons, kCons1_e, kCons2_e, ev_CB, kCB_e, cbR_e, lookAll_nil, lookAll_cons, laR_e, ev_tup, kTup_e, tupR_e, ev_lst, kLst_e, lstR_e, datas_nil, datas_cons, ev_call, kCall_e, caR_e, frR_ret, frR_exc, argS_nil, argS_d, argS_own, argO_e, ownIx_nil, ownIx_d, ownIx_own, nodup0, nodup1, nodup01, putBack_nil, putBack_d, putBack_own, ev_asB, kAsB_b, ev_tand, kTAnd_t, kTAnd_f, ev_tor, kTOr_t, kTOr_f, ev_tnot, kTNot_e, ev_and, kAnd_t, kAnd_f, ev_or, kOr_t, kOr_f, ev_not, kNot_b, ev_own0, kOwn_e, ownR_e, ev_ownL0, kOwnL_e, ownLR_l, ownLR_t, R.bind_ok, R.bind_exc, Option.map_some, List.getElem?_cons_zero, List.getElem?_cons_succ, List.set_cons_zero, List.set_cons_succ, List.length_cons, List.length_nil, Nat.reduceAdd, Nat.reduceLeDiff, decide_true, decide_false, gR_t, Nat.le_refl, Nat.zero_le, addD_i, subD_i, ltD_i, gtD_i, leD_i, geD_i, len_l, len_t, tuple_l, list_l, list_t, is_b, isNot_b, isB_b, ev_src, kSrc_l, kSrc_t, ev_srcs, kSrcs_e, srcR_e, ev_aug0, augR_e, kAug_e, getL_e, getLS_l, ev_app, appR1_e, kApp_e, appR2_e, one_e, List.nil_append, List.cons_append, Nat.reduceLT, Nat.zero_lt_succ, ev_yes, ev_neg, kNeg_e, ev_part, kPart_e, ev_nopart, ev_sl, kSl1_e, kSl2_e, kSl3_e, slR_e, runO_rt, Bool.not_true, Bool.not_false, ev_par0, kPar_e, ev_try, tryR_ok, tryR_exc, ev_tab, kTab_e, tabR_e, and_self, and_true, true_and, ρ, mod_ok (show (3 : Int) ≠ 0 by decide)]
    · congr 3
      rw [← (add_ok Sz2 hn' hp).1, List.filter_eq_self.mpr (fun _ _ => rfl), List.zip_map, List.map_map, List.map_map]
      rfl
  show fCB tupleD (fCons C_law_k18_11 fNil) ρ = .ok (.d (pt 2 (addN n p))) ρ
  simp -implicitDefEqProofs only [ev_seq, kSeq_nx, kSeq_rt, ev_next, ev_asg0, kAsg_d, ev_ret, kRet_d, ev_drop, kDrop_e, ev_ifS, kIf_t, kIf_f, ev_ifE, kIfE_t, kIfE_f, ev_D, ev_var, varS_d, varS_l, varS_z, varS_m, ev_bin, kBin1_e, kBin2_e, binR_e, optR_e, look_d, look_own, lookS_l, ev_nil, ev_cons, kCons1_e, kCons2_e, ev_CB, kCB_e, cbR_e, lookAll_nil, lookAll_cons, laR_e, ev_tup, kTup_e, tupR_e, ev_lst, kLst_e, lstR_e, datas_nil, datas_cons, ev_call, kCall_e, caR_e, frR_ret, frR_exc, argS_nil, argS_d, argS_own, argO_e, ownIx_nil, ownIx_d, ownIx_own, nodup0, nodup1, nodup01, putBack_nil, putBack_d, putBack_own, ev_asB, kAsB_b, ev_tand, kTAnd_t, kTAnd_f, ev_tor, kTOr_t, kTOr_f, ev_tnot, kTNot_e, ev_and, kAnd_t, kAnd_f, ev_or, kOr_t, kOr_f, ev_not, kNot_b, ev_own0, kOwn_e, ownR_e, ev_ownL0, kOwnL_e, ownLR_l, ownLR_t, R.bind_ok, R.bind_exc, Option.map_some, List.getElem?_cons_zero, List.getElem?_cons_succ, List.set_cons_zero, List.set_cons_succ, List.length_cons, List.length_nil, Nat.reduceAdd, Nat.reduceLeDiff, decide_true, decide_false, gR_t, Nat.le_refl, Nat.zero_le, addD_i, subD_i, ltD_i, gtD_i, leD_i, geD_i, len_l, len_t, tuple_l, list_l, list_t, is_b, isNot_b, isB_b, ev_src, kSrc_l, kSrc_t, ev_srcs, kSrcs_e, srcR_e, ev_aug0, augR_e, kAug_e, getL_e, getLS_l, ev_app, appR1_e, kApp_e, appR2_e, one_e, List.nil_append, List.cons_append, Nat.reduceLT, Nat.zero_lt_succ, ev_yes, ev_neg, kNeg_e, ev_part, kPart_e, ev_nopart, ev_sl, kSl1_e, kSl2_e, kSl3_e, slR_e, runO_rt, Bool.not_true, Bool.not_false, ev_par0, kPar_e, ev_try, tryR_ok, tryR_exc, ev_tab, kTab_e, tabR_e, and_self, and_true, true_and, inner]
  rfl
theorem k18_c9 {o5 o6 o7 o8 o9 o10 o11 o12 o14 o15 : Option S} : C_law_k18_9 (q18 ns tw c L p o5 o6 o7 o8 o9 o10 o11 o12 none o14 o15) = .ok (.d (.list ((opn 2 L).map fun n => pt 2 (dblN n)))) (q18 ns tw c L p o5 o6 o7 o8 o9 o10 o11 o12 none o14 o15) := by
  have l9 := opn_len9 hL hf
  refine (fLc_c (pt 2) (xs := opn 2 L) (fun _ => true) (fun n => pt 2 (dblN n)) (ρ1 := q18 ns tw c L p o5 o6 o7 o8 o9 o10 o11 o12 none o14 o15) (dep := none) (fSrc_of (callR (ws := [.d (.int 2), .d (st 2 L)]) (op18 hL hf) rfl rfl rfl rfl) rfl) (by omega) (by simp) rfl rfl (fun _ _ => rfl) (fun n hn _ => ?_)).trans (by rw [List.filter_eq_self.mpr (fun _ _ => rfl)])
  have hn' := opn_lt hL hf n hn
  let ρ : Rho := (q18 ns tw c L p o5 o6 o7 o8 o9 o10 o11 o12 none o14 o15).set 16 (some (.d (pt 2 n)))
  have inner : C_law_k18_8 ρ = .ok (.d (.list ((dig 2 (dblN n)).map .int))) ρ := by
    refine (fLc_c PyData.int (xs := dig 2 n) (fun _ => true) (fun i => .int ((2 * i).fmod 3)) (ρ1 := ρ) (dep := none) rfl (by rw [dig_len Sz2]; omega) (by simp [ρ]) rfl rfl (fun _ _ => rfl) (fun i _ _ => ?_)).trans ?_
    · have m : mulD' (.int 2) (.int i) = some (.int (2 * i)) := mul_ok (by decide) (by decide)
      simp -implicitDefEqProofs only [ev_seq, kSeq_nx, kSeq_rt, ev_next, ev_asg0, kAsg_d, ev_ret, kRet_d, ev_drop, kDrop_e, ev_ifS, kIf_t, kIf_f, ev_ifE, kIfE_t, kIfE_f, ev_D, ev_var, varS_d, varS_l, varS_z, varS_m, ev_bin, kBin1_e, kBin2_e, binR_e, optR_e, look_d, look_own, lookS_l, ev_nil, ev_cons, kCons1_e, kCons2_e, ev_CB, kCB_e, cbR_e, lookAll_nil, lookAll_cons, laR_e, ev_tup, kTup_e, tupR_e, ev_lst, kLst_e, lstR_e, datas_nil, datas_cons, ev_call, kCall_e, caR_e, frR_ret, frR_exc, argS_nil, argS_d, argS_own, argO_e, ownIx_nil, ownIx_d, ownIx_own, nodup0, nodup1, nodup01, putBack_nil, putBack_d, putBack_own, ev_asB, kAsB_b, ev_tand, kTAnd_t, kTAnd_f, ev_tor, kTOr_t, kTOr_f, ev_tnot, kTNot_e, ev_and, kAnd_t, kAnd_f, ev_or, kOr_t, kOr_f, ev_not, kNot_b, ev_own0, kOwn_e, ownR_e, ev_ownL0, kOwnL_e, ownLR_l, ownLR_t, R.bind_ok, R.bind_exc, Option.map_some, List.getElem?_cons_zero, List.getElem?_cons_succ, List.set_cons_zero, List.set_cons_succ, List.length_cons, List.length_nil, Nat.reduceAdd, Nat.reduceLeDiff, decide_true, decide_false, gR_t, Nat.le_refl, Nat.zero_le, addD_i, subD_i, ltD_i, gtD_i, leD_i, geD_i, len_l, len_t, tuple_l, list_l, list_t, is_b, isNot_b, isB_b, ev_src, kSrc_l, kSrc_t, ev_srcs, kSrcs_e, srcR_e, ev_aug0, augR_e, kAug_e, getL_e, getLS_l, ev_app, appR1_e, kApp_e, appR2_e, one_e, List.nil_append, List.cons_append, Nat.reduceLT, Nat.zero_lt_succ, ev_yes, ev_neg, kNeg_e, ev_part, kPart_e, ev_nopart, ev_sl, kSl1_e, kSl2_e, kSl3_e, slR_e, runO_rt, Bool.not_true, Bool.not_false, ev_par0, kPar_e, ev_try, tryR_ok, tryR_exc, ev_tab, kTab_e, tabR_e, and_self, and_true, true_and, ρ, m, mod_ok (show (3 : Int) ≠ 0 by decide)]
    · rw [← (dbl_ok Sz2 hn').1, List.filter_eq_self.mpr (fun _ _ => rfl), List.map_map]
      rfl
  show fCB tupleD (fCons C_law_k18_8 fNil) ρ = .ok (.d (pt 2 (dblN n))) ρ
  simp -implicitDefEqProofs only [ev_seq, kSeq_nx, kSeq_rt, ev_next, ev_asg0, kAsg_d, ev_ret, kRet_d, ev_drop, kDrop_e, ev_ifS, kIf_t, kIf_f, ev_ifE, kIfE_t, kIfE_f, ev_D, ev_var, varS_d, varS_l, varS_z, varS_m, ev_bin, kBin1_e, kBin2_e, binR_e, optR_e, look_d, look_own, lookS_l, ev_nil, ev_cons, kCons1_e, kCons2_e, ev_CB, kCB_e, cbR_e, lookAll_nil, lookAll_cons, laR_e, ev_tup, kTup_e, tupR_e, ev_lst, kLst_e, lstR_e, datas_nil, datas_cons, ev_call, kCall_e, caR_e, frR_ret, frR_exc, argS_nil, argS_d, argS_own, argO_e, ownIx_nil, ownIx_d, ownIx_own, nodup0, nodup1, nodup01, putBack_nil, putBack_d, putBack_own, ev_asB, kAsB_b, ev_tand, kTAnd_t, kTAnd_f, ev_tor, kTOr_t, kTOr_f, ev_tnot, kTNot_e, ev_and, kAnd_t, kAnd_f, ev_or, kOr_t, kOr_f, ev_not, kNot_b, ev_own0, kOwn_e, ownR_e, ev_ownL0, kOwnL_e, ownLR_l, ownLR_t, R.bind_ok, R.bind_exc, Option.map_some, List.getElem?_cons_zero, List.getElem?_cons_succ, List.set_cons_zero, List.set_cons_succ, List.length_cons, List.length_nil, Nat.reduceAdd, Nat.reduceLeDiff, decide_true, decide_false, gR_t, Nat.le_refl, Nat.zero_le, addD_i, subD_i, ltD_i, gtD_i, leD_i, geD_i, len_l, len_t, tuple_l, list_l, list_t, is_b, isNot_b, isB_b, ev_src, kSrc_l, kSrc_t, ev_srcs, kSrcs_e, srcR_e, ev_aug0, augR_e, kAug_e, getL_e, getLS_l, ev_app, appR1_e, kApp_e, appR2_e, one_e, List.nil_append, List.cons_append, Nat.reduceLT, Nat.zero_lt_succ, ev_yes, ev_neg, kNeg_e, ev_part, kPart_e, ev_nopart, ev_sl, kSl1_e, kSl2_e, kSl3_e, slR_e, runO_rt, Bool.not_true, Bool.not_false, ev_par0, kPar_e, ev_try, tryR_ok, tryR_exc, ev_tab, kTab_e, tabR_e, and_self, and_true, true_and, inner]
  rfl
theorem k18_c10 {o5 o6 o7 o8 o9 o10 o11 o12 o13 o14 o15 : Option S} : C_law_k18_10 (q18 ns tw c L p o5 o6 o7 o8 o9 o10 o11 o12 o13 o14 o15) = .ok (.d (.list ((opn 2 L).map fun n => pt 2 (excN 2 0 1 n)))) (q18 ns tw c L p o5 o6 o7 o8 o9 o10 o11 o12 o13 o14 o15) := by
  have l9 := opn_len9 hL hf
  refine (fLc_c (pt 2) (xs := opn 2 L) (fun _ => true) (fun n => pt 2 (excN 2 0 1 n)) (ρ1 := q18 ns tw c L p o5 o6 o7 o8 o9 o10 o11 o12 o13 o14 o15) (dep := none) (fSrc_of (callR (ws := [.d (.int 2), .d (st 2 L)]) (op18 hL hf) rfl rfl rfl rfl) rfl) (by omega) (by simp) rfl rfl (fun _ _ => rfl) (fun n hn _ => ?_)).trans (by rw [List.filter_eq_self.mpr (fun _ _ => rfl)])
  have hn' := opn_lt hL hf n hn
  have q := onesB_ok rev_tab hn'
  rw [Bool.and_eq_true] at q
  have e : ((dig 2 n).map PyData.int).reverse = (dig 2 (excN 2 0 1 n)).map .int := by rw [← List.map_reverse, of_decide_eq_true q.1]
  let ρ : Rho := (q18 ns tw c L p o5 o6 o7 o8 o9 o10 o11 o12 o13 o14 o15).set 16 (some (.d (pt 2 n)))
  show (if some (-1 : Int) = some (-1) then (R.ok (W.d (.tuple ((dig 2 n).map PyData.int).reverse)) ρ) else .bad) = .ok (.d (pt 2 (excN 2 0 1 n))) ρ
  rw [if_pos rfl, e]
  rfl
theorem k18_c7 {M : List Nat} (hM : OkSet 2 M) (hs : ∀ a ∈ L, a ∈ M) {o5 o6 o7 o8 o10 o11 o12 o13 o14 o15 : Option S} : C_law_k18_7 (q18 ns tw c L p o5 o6 o7 o8 (some (.d (st 2 M))) o10 o11 o12 o13 o14 o15) = .ok (.d (.list [])) (q18 ns tw c L p o5 o6 o7 o8 (some (.d (st 2 M))) o10 o11 o12 o13 o14 o15) := by
  have l := len27 Sz2 hL
  refine (fLc_c (pt 2) (xs := L) (fun n => !decide (n ∈ M)) (pt 2) (ρ1 := q18 ns tw c L p o5 o6 o7 o8 (some (.d (st 2 M))) o10 o11 o12 o13 o14 o15) (dep := none) rfl (by omega) (by simp) rfl rfl (fun n hn => ?_) (fun n _ _ => rfl)).trans ?_
  · have nin : notInD (pt 2 n) (st 2 M) = some (.bool (!decide (n ∈ M))) := notIn_spec Sz2 (t := true) hM.lt (hL.lt n hn)
    simp -implicitDefEqProofs only [ev_seq, kSeq_nx, kSeq_rt, ev_next, ev_asg0, kAsg_d, ev_ret, kRet_d, ev_drop, kDrop_e, ev_ifS, kIf_t, kIf_f, ev_ifE, kIfE_t, kIfE_f, ev_D, ev_var, varS_d, varS_l, varS_z, varS_m, ev_bin, kBin1_e, kBin2_e, binR_e, optR_e, look_d, look_own, lookS_l, ev_nil, ev_cons, kCons1_e, kCons2_e, ev_CB, kCB_e, cbR_e, lookAll_nil, lookAll_cons, laR_e, ev_tup, kTup_e, tupR_e, ev_lst, kLst_e, lstR_e, datas_nil, datas_cons, ev_call, kCall_e, caR_e, frR_ret, frR_exc, argS_nil, argS_d, argS_own, argO_e, ownIx_nil, ownIx_d, ownIx_own, nodup0, nodup1, nodup01, putBack_nil, putBack_d, putBack_own, ev_asB, kAsB_b, ev_tand, kTAnd_t, kTAnd_f, ev_tor, kTOr_t, kTOr_f, ev_tnot, kTNot_e, ev_and, kAnd_t, kAnd_f, ev_or, kOr_t, kOr_f, ev_not, kNot_b, ev_own0, kOwn_e, ownR_e, ev_ownL0, kOwnL_e, ownLR_l, ownLR_t, R.bind_ok, R.bind_exc, Option.map_some, List.getElem?_cons_zero, List.getElem?_cons_succ, List.set_cons_zero, List.set_cons_succ, List.length_cons, List.length_nil, Nat.reduceAdd, Nat.reduceLeDiff, decide_true, decide_false, gR_t, Nat.le_refl, Nat.zero_le, addD_i, subD_i, ltD_i, gtD_i, leD_i, geD_i, len_l, len_t, tuple_l, list_l, list_t, is_b, isNot_b, isB_b, ev_src, kSrc_l, kSrc_t, ev_srcs, kSrcs_e, srcR_e, ev_aug0, augR_e, kAug_e, getL_e, getLS_l, ev_app, appR1_e, kApp_e, appR2_e, one_e, List.nil_append, List.cons_append, Nat.reduceLT, Nat.zero_lt_succ, ev_yes, ev_neg, kNeg_e, ev_part, kPart_e, ev_nopart, ev_sl, kSl1_e, kSl2_e, kSl3_e, slR_e, runO_rt, Bool.not_true, Bool.not_false, ev_par0, kPar_e, ev_try, tryR_ok, tryR_exc, ev_tab, kTab_e, tabR_e, and_self, and_true, true_and, nin]
  · rw [List.filter_eq_nil_iff.mpr fun a ha => by simp [hs a ha]]
    rfl
end

/-! ### four places: the middle -/
abbrev Blk18 : Rho → R Fl := (fSeq (fAsg [] 10 (fCB tupleD (fCons C_law_k18_6 fNil))) (fSeq (fAsg [] 11 (fD (.int 0))) (fSeq (L_law_k18_4 []) (fSeq (fRet [] (fAnd (fBin notInD (fVar 10) (fVar 3)) (fBin eqD (fVar 11) (fD (.int 2))))) fNext))))
theorem blk18_tab (ns : List Int) (tw : List D) (p : Nat) (o5 o6 o7 o8 o9 : Option S) : ((fsN 2 4).all fun L => isTr (Blk18 (q18 ns tw 4 L p o5 o6 o7 o8 o9 none none none none none none))) = true := by kernel_rfl
theorem law_k18_true (ns : List Int) (hn : ns.length ≤ 63) : ∃ ss, m_law_k18 [.z ns] = .ret (.d (.bool true)) ss := by
  obtain ⟨c, hc, e0⟩ := draw_at hn [] (by simp) 5 5 rfl (by decide)
  have hne : (fsN 2 c).map (st 2) ≠ [] := by
    have := List.all_eq_true.mp ne18 c (List.mem_range.mpr hc)
    intro h
    rw [List.map_eq_nil_iff] at h
    rw [h] at this
    exact absurd this (by decide)
  obtain ⟨r, x, hr, e1⟩ := pick_spec hn [PyData.int 0] ((fsN 2 c).map (st 2)) (by simp) hne
  obtain ⟨L, hLm, rfl⟩ : ∃ L, L ∈ fsN 2 c ∧ st 2 L = x := List.mem_map.mp (List.mem_of_getElem? hr)
  obtain ⟨p, hp, e2⟩ := pick_grid hn Sz2 [PyData.int 0, PyData.int 0] (by simp)
  obtain ⟨hL, hf, _⟩ := (fs_ok (s := 2) (k := c) (.inr rfl) (by omega)).2 L hLm
  have fsp : m_free_sets [.d (.int 2), .d (.int c)] = .ret (.d (.list ((fsN 2 c).map (st 2)))) [.d (.int 2), .d (.int c)] := free_sets_spec (.inr rfl) (by omega)
  have gs : m__law_grid [.d (.int 2)] = .ret (.d (gr 2)) [.d (.int 2)] := grid_spec Sz2
  have q := List.all_eq_true.mp (List.all_eq_true.mp t18 c (List.mem_range.mpr hc)) L hLm
  simp only [Bool.and_eq_true] at q
  obtain ⟨⟨⟨⟨⟨⟨⟨q1, q2⟩, q3⟩, q4⟩, q5⟩, q6⟩, q7⟩, _⟩ := q
  have q1 := eq_of_beq (List.all_eq_true.mp q1 p (List.mem_range.mpr hp))
  have q2 := eq_of_beq q2
  have q3 := eq_of_beq q3
  have q4 := of_decide_eq_true q4
  have q5 := of_decide_eq_true q5
  have q6 := eq_of_beq q6
  have mA := mvA Sz2 hp
  have mX := (mvX Sz2 (i := 0) (j := 1) (by decide) (by decide) (by decide))
  have hM := mA.ok Sz2 hL
  have hX := mX.1.ok Sz2 hL
  have hD := (mvD Sz2).ok Sz2 hL
  have fM := (mv_free Sz2 hL mA).mpr hf
  have fX := (mv_free Sz2 hL mX.1).mpr hf
  have fD' := (mv_free Sz2 hL (mvD Sz2)).mpr hf
  have ap : m_add_place [.d (.int 2), .d (st 2 L), .d (pt 2 p)] = .ret (.d (st 2 (mv (fun a => addN a p) L))) [.d (.int 2), .d (st 2 L), .d (pt 2 p)] := add_place_spec Sz2 hL hp
  have xp : m_exchange [.d (.int 2), .d (st 2 L), .d (.int 0), .d (.int 1)] = .ret (.d (st 2 (mv (excN 2 0 1) L))) [.d (.int 2), .d (st 2 L), .d (.int 0), .d (.int 1)] := exchange_spec Sz2 hL (i := 0) (j := 1) (by decide) (by decide) (by decide)
  have dp : m_double [.d (.int 2), .d (st 2 L)] = .ret (.d (st 2 (mv dblN L))) [.d (.int 2), .d (st 2 L)] := double_spec Sz2 hL
  have pp : m_add_position [.d (.int 2), .d (st 2 (mv (fun a => addN a p) L)), .d (.int 0), .d (.int 1)] = .ret (.d (st 2 (mv (paN 2 0 1) (mv (fun a => addN a p) L)))) [.d (.int 2), .d (st 2 (mv (fun a => addN a p) L)), .d (.int 0), .d (.int 1)] := add_position_spec Sz2 hM (i := 0) (j := 1) (by decide) (by decide) (by decide)
  have oL := op18 hL hf
  have oM := op18 hM fM
  rw [q1] at oM
  have oX := op18 hX fX
  rw [q2] at oX
  have oD := op18 hD fD'
  rw [q3] at oD
  have ol := opn_lt hL hf
  have l9 := opn_len9 hL hf
  have s1 := sort_map Sz2 (f := fun a => addN a p) (L := opn 2 L) (fun a ha => mA.lt a (ol a ha)) (by omega)
  have s2 := sort_map Sz2 (f := excN 2 0 1) (L := opn 2 L) (fun a ha => mX.1.lt a (ol a ha)) (by omega)
  have s3 := sort_map Sz2 (f := dblN) (L := opn 2 L) (fun a ha => (mvD Sz2).lt a (ol a ha)) (by omega)
  have icL : m_is_complete [.d (.int 2), .d (st 2 L)] = .ret (.d (.bool (opn 2 L).isEmpty)) [.d (.int 2), .d (st 2 L)] := is_complete_ok Sz2 hL hf
  have icM : m_is_complete [.d (.int 2), .d (st 2 (mv (fun a => addN a p) L))] = .ret (.d (.bool (opn 2 (mv (fun a => addN a p) L)).isEmpty)) [.d (.int 2), .d (st 2 (mv (fun a => addN a p) L))] := is_complete_ok Sz2 hM fM
  rw [q1, isEmpty_len (B := opn 2 L) (mv_len Sz2)] at icM
  have hP := mX.2.ok Sz2 hM
  have al := are_alike_spec hL hP
  have cl : cls (mv (paN 2 0 1) (mv (fun a => addN a p) L)) = cls L := by
    have fP := (mv_free Sz2 hM mX.2).mpr fM
    show (_, _) = (_, _)
    rw [mv_len Sz2, mv_len Sz2, fP, hf]
  rw [decide_eq_true cl] at al
  obtain ⟨hC, fC, _⟩ := cmpl_ok Sz2 hL hf (f := 27) (by show 9 - _ ≤ 27; omega)
  have cp : m_completed [.d (.int 2), .d (st 2 L)] = .ret (.d (st 2 (cmpl 2 27 L))) [.d (.int 2), .d (st 2 L)] := completed_ok Sz2 hL hf
  have kd := kind_spec hC
  rw [q6] at kd
  have hs : ∀ a ∈ L, a ∈ cmpl 2 27 L := fun a ha => by simpa using List.all_eq_true.mp q7 a ha
  have lenC : lenD [st 2 (cmpl 2 27 L)] = some (.int 4) := by show some (PyData.int (((cmpl 2 27 L).map (pt 2)).length : Nat)) = _; rw [List.length_map, q5]; rfl
  have lenO : lenD [.list ((opn 2 L).map (pt 2))] = some (.int (([9, 8, 6, 3, 0] : List Nat).getD c 0 : Nat)) := by show some (PyData.int (((opn 2 L).map (pt 2)).length : Nat)) = _; rw [List.length_map, q4]
  have ixc : idxD (.list [.int 9, .int 8, .int 6, .int 3, .int 0]) (.int c) = some (.int (([9, 8, 6, 3, 0] : List Nat).getD c 0 : Nat)) := by
    rcases (show c = 0 ∨ c = 1 ∨ c = 2 ∨ c = 3 ∨ c = 4 by omega) with rfl | rfl | rfl | rfl | rfl <;> rfl
  have nn : ∀ i : Int, neD (.int i) (.int i) = some (.bool false) := fun i => by rw [neI]; simp
  have nb : ∀ b : Bool, neD (.bool b) (.bool b) = some (.bool false) := by intro b; cases b <;> rfl
  have bb : ∀ b : Bool, (b == b) = true := by decide
  have nk : neD (st 2 [0, 1, 3, 4]) (.tuple [.tuple [.int 0, .int 0], .tuple [.int 0, .int 1], .tuple [.int 1, .int 0], .tuple [.int 1, .int 1]]) = some (.bool false) := neT_self 2 [0, 1, 3, 4]
  have nl : neD (.list []) (.list []) = some (.bool false) := rfl
  refine law_run ?_
  show ∃ ρ', b_law_k18 [] [some (.z ns), none, none, none, none, none, none, none, none, none, none, none, none, none, none, none, none, none, none] = _
  unfold b_law_k18
  by_cases h4 : c = 4
  · subst h4
    have e4 : eqD (.int ((4 : Nat) : Int)) (.int 4) = some (.bool true) := rfl
    simp -implicitDefEqProofs only [ev_seq, kSeq_nx, kSeq_rt, ev_next, ev_asg0, kAsg_d, ev_ret, kRet_d, ev_drop, kDrop_e, ev_ifS, kIf_t, kIf_f, ev_ifE, kIfE_t, kIfE_f, ev_D, ev_var, varS_d, varS_l, varS_z, varS_m, ev_bin, kBin1_e, kBin2_e, binR_e, optR_e, look_d, look_own, lookS_l, ev_nil, ev_cons, kCons1_e, kCons2_e, ev_CB, kCB_e, cbR_e, lookAll_nil, lookAll_cons, laR_e, ev_tup, kTup_e, tupR_e, ev_lst, kLst_e, lstR_e, datas_nil, datas_cons, ev_call, kCall_e, caR_e, frR_ret, frR_exc, argS_nil, argS_d, argS_own, argO_e, ownIx_nil, ownIx_d, ownIx_own, nodup0, nodup1, nodup01, putBack_nil, putBack_d, putBack_own, ev_asB, kAsB_b, ev_tand, kTAnd_t, kTAnd_f, ev_tor, kTOr_t, kTOr_f, ev_tnot, kTNot_e, ev_and, kAnd_t, kAnd_f, ev_or, kOr_t, kOr_f, ev_not, kNot_b, ev_own0, kOwn_e, ownR_e, ev_ownL0, kOwnL_e, ownLR_l, ownLR_t, R.bind_ok, R.bind_exc, Option.map_some, List.getElem?_cons_zero, List.getElem?_cons_succ, List.set_cons_zero, List.set_cons_succ, List.length_cons, List.length_nil, Nat.reduceAdd, Nat.reduceLeDiff, decide_true, decide_false, gR_t, Nat.le_refl, Nat.zero_le, addD_i, subD_i, ltD_i, gtD_i, leD_i, geD_i, len_l, len_t, tuple_l, list_l, list_t, is_b, isNot_b, isB_b, ev_src, kSrc_l, kSrc_t, ev_srcs, kSrcs_e, srcR_e, ev_aug0, augR_e, kAug_e, getL_e, getLS_l, ev_app, appR1_e, kApp_e, appR2_e, one_e, List.nil_append, List.cons_append, Nat.reduceLT, Nat.zero_lt_succ, ev_yes, ev_neg, kNeg_e, ev_part, kPart_e, ev_nopart, ev_sl, kSl1_e, kSl2_e, kSl3_e, slR_e, runO_rt, Bool.not_true, Bool.not_false, ev_par0, kPar_e, ev_try, tryR_ok, tryR_exc, ev_tab, kTab_e, tabR_e, and_self, and_true, true_and, e0, fsp, e1, gs, e2, ap, k18_c12 hL hf hp, s1, oM, neL_self, icM, icL, nb, xp, oX, k18_c10 hL hf, s2, k18_c9 hL hf, s3, dp, oD, oL, lenO, ixc, nn, pp, al, bb, cp, lenC, kd, nk, k18_c7 hL hf hC hs, nl, e4]
    obtain ⟨ρ', h⟩ := isTr_eq (List.all_eq_true.mp (blk18_tab ns [PyData.int 0, PyData.int 0, PyData.int 0] p (some (.d (st 2 (mv (fun a => addN a p) L)))) (some (.d (.list ((mv (fun a => addN a p) (opn 2 L)).map (pt 2))))) (some (.d (st 2 (mv (excN 2 0 1) L)))) (some (.d (.list ((mv dblN (opn 2 L)).map (pt 2))))) (some (.d (st 2 (cmpl 2 27 L))))) L hLm)
    have h' : Blk18 [some (.z ns), some (.l [PyData.int 0, PyData.int 0, PyData.int 0]), some (.d (.int ((4 : Nat) : Int))), some (.d (st 2 L)), some (.d (pt 2 p)), some (.d (st 2 (mv (fun a => addN a p) L))), some (.d (.list ((mv (fun a => addN a p) (opn 2 L)).map (pt 2)))), some (.d (st 2 (mv (excN 2 0 1) L))), some (.d (.list ((mv dblN (opn 2 L)).map (pt 2)))), some (.d (st 2 (cmpl 2 27 L))), none, none, none, none, none, none, none, none, none] = .ok (.rt (.d (.bool true))) ρ' := h
    simp -implicitDefEqProofs only [ev_seq, kSeq_nx, kSeq_rt, ev_next, ev_asg0, kAsg_d, ev_ret, kRet_d, ev_drop, kDrop_e, ev_ifS, kIf_t, kIf_f, ev_ifE, kIfE_t, kIfE_f, ev_D, ev_var, varS_d, varS_l, varS_z, varS_m, ev_bin, kBin1_e, kBin2_e, binR_e, optR_e, look_d, look_own, lookS_l, ev_nil, ev_cons, kCons1_e, kCons2_e, ev_CB, kCB_e, cbR_e, lookAll_nil, lookAll_cons, laR_e, ev_tup, kTup_e, tupR_e, ev_lst, kLst_e, lstR_e, datas_nil, datas_cons, ev_call, kCall_e, caR_e, frR_ret, frR_exc, argS_nil, argS_d, argS_own, argO_e, ownIx_nil, ownIx_d, ownIx_own, nodup0, nodup1, nodup01, putBack_nil, putBack_d, putBack_own, ev_asB, kAsB_b, ev_tand, kTAnd_t, kTAnd_f, ev_tor, kTOr_t, kTOr_f, ev_tnot, kTNot_e, ev_and, kAnd_t, kAnd_f, ev_or, kOr_t, kOr_f, ev_not, kNot_b, ev_own0, kOwn_e, ownR_e, ev_ownL0, kOwnL_e, ownLR_l, ownLR_t, R.bind_ok, R.bind_exc, Option.map_some, List.getElem?_cons_zero, List.getElem?_cons_succ, List.set_cons_zero, List.set_cons_succ, List.length_cons, List.length_nil, Nat.reduceAdd, Nat.reduceLeDiff, decide_true, decide_false, gR_t, Nat.le_refl, Nat.zero_le, addD_i, subD_i, ltD_i, gtD_i, leD_i, geD_i, len_l, len_t, tuple_l, list_l, list_t, is_b, isNot_b, isB_b, ev_src, kSrc_l, kSrc_t, ev_srcs, kSrcs_e, srcR_e, ev_aug0, augR_e, kAug_e, getL_e, getLS_l, ev_app, appR1_e, kApp_e, appR2_e, one_e, List.nil_append, List.cons_append, Nat.reduceLT, Nat.zero_lt_succ, ev_yes, ev_neg, kNeg_e, ev_part, kPart_e, ev_nopart, ev_sl, kSl1_e, kSl2_e, kSl3_e, slR_e, runO_rt, Bool.not_true, Bool.not_false, ev_par0, kPar_e, ev_try, tryR_ok, tryR_exc, ev_tab, kTab_e, tabR_e, and_self, and_true, true_and] at h'
    rw [h']
    exact ⟨_, rfl⟩
  · have e4 : eqD (.int (c : Int)) (.int 4) = some (.bool false) := by rw [eqI, decide_eq_false (by omega)]
    simp -implicitDefEqProofs only [ev_seq, kSeq_nx, kSeq_rt, ev_next, ev_asg0, kAsg_d, ev_ret, kRet_d, ev_drop, kDrop_e, ev_ifS, kIf_t, kIf_f, ev_ifE, kIfE_t, kIfE_f, ev_D, ev_var, varS_d, varS_l, varS_z, varS_m, ev_bin, kBin1_e, kBin2_e, binR_e, optR_e, look_d, look_own, lookS_l, ev_nil, ev_cons, kCons1_e, kCons2_e, ev_CB, kCB_e, cbR_e, lookAll_nil, lookAll_cons, laR_e, ev_tup, kTup_e, tupR_e, ev_lst, kLst_e, lstR_e, datas_nil, datas_cons, ev_call, kCall_e, caR_e, frR_ret, frR_exc, argS_nil, argS_d, argS_own, argO_e, ownIx_nil, ownIx_d, ownIx_own, nodup0, nodup1, nodup01, putBack_nil, putBack_d, putBack_own, ev_asB, kAsB_b, ev_tand, kTAnd_t, kTAnd_f, ev_tor, kTOr_t, kTOr_f, ev_tnot, kTNot_e, ev_and, kAnd_t, kAnd_f, ev_or, kOr_t, kOr_f, ev_not, kNot_b, ev_own0, kOwn_e, ownR_e, ev_ownL0, kOwnL_e, ownLR_l, ownLR_t, R.bind_ok, R.bind_exc, Option.map_some, List.getElem?_cons_zero, List.getElem?_cons_succ, List.set_cons_zero, List.set_cons_succ, List.length_cons, List.length_nil, Nat.reduceAdd, Nat.reduceLeDiff, decide_true, decide_false, gR_t, Nat.le_refl, Nat.zero_le, addD_i, subD_i, ltD_i, gtD_i, leD_i, geD_i, len_l, len_t, tuple_l, list_l, list_t, is_b, isNot_b, isB_b, ev_src, kSrc_l, kSrc_t, ev_srcs, kSrcs_e, srcR_e, ev_aug0, augR_e, kAug_e, getL_e, getLS_l, ev_app, appR1_e, kApp_e, appR2_e, one_e, List.nil_append, List.cons_append, Nat.reduceLT, Nat.zero_lt_succ, ev_yes, ev_neg, kNeg_e, ev_part, kPart_e, ev_nopart, ev_sl, kSl1_e, kSl2_e, kSl3_e, slR_e, runO_rt, Bool.not_true, Bool.not_false, ev_par0, kPar_e, ev_try, tryR_ok, tryR_exc, ev_tab, kTab_e, tabR_e, and_self, and_true, true_and, e0, fsp, e1, gs, e2, ap, k18_c12 hL hf hp, s1, oM, neL_self, icM, icL, nb, xp, oX, k18_c10 hL hf, s2, k18_c9 hL hf, s3, dp, oD, oL, lenO, ixc, nn, pp, al, bb, cp, lenC, kd, nk, k18_c7 hL hf hC hs, nl, e4]
    exact ⟨_, rfl⟩
end FL

namespace FL
open PySem L2 PyProof.Rows
def top (i : Nat) : Stmt := PySem.Challenge.pw_linefree_k18_whole_free_sets_and_moves.main.body.getD i (.Pass ⟨0, 0, 0, 0⟩)
abbrev s_is_integer : Stmt := top 9
theorem sc_is_integer : FnScope ["value", "low", "high"] ["value", "low", "high"] (defScope s_is_integer) := ⟨rfl, rfl, rfl, by decide +kernel, rfl, by decide +kernel, by decide +kernel⟩
theorem cm_is_integer : (cf 60).B ⟨["value", "low", "high"], defScope s_is_integer, true, defScope s_is_integer, [], [], true, [], none⟩ (defBody s_is_integer) = some b_is_integer := by rfl
abbrev s_check_size : Stmt := top 10
theorem sc_check_size : FnScope ["size"] ["size"] (defScope s_check_size) := ⟨rfl, rfl, rfl, by decide +kernel, rfl, by decide +kernel, by decide +kernel⟩
theorem cm_check_size : (cf 60).B ⟨["size"], defScope s_check_size, true, defScope s_check_size, [("is_integer", 3, m_is_integer)], [("InvalidSize", 0)], true, [], none⟩ (defBody s_check_size) = some b_check_size := by rfl
abbrev s_fits : Stmt := top 11
theorem sc_fits : FnScope ["size", "value", "one"] ["size", "value"] (defScope s_fits) := ⟨rfl, rfl, rfl, by decide +kernel, rfl, by decide +kernel, by decide +kernel⟩
theorem cm_fits : (cf 60).B ⟨["size", "value", "one"], defScope s_fits, true, defScope s_fits, [("is_integer", 3, m_is_integer)], [], true, [], none⟩ (defBody s_fits) = some b_fits := by rfl
abbrev s_all_places : Stmt := top 12
theorem sc_all_places : FnScope ["size", "some", "again", "longer", "place", "value"] ["size"] (defScope s_all_places) := ⟨rfl, rfl, rfl, by decide +kernel, rfl, by decide +kernel, by decide +kernel⟩
theorem cm_all_places : (cf 60).B ⟨["size", "some", "again", "longer", "place", "value"], defScope s_all_places, true, defScope s_all_places, [], [], true, [], none⟩ (defBody s_all_places) = some b_all_places := by rfl
abbrev s_third_of : Stmt := top 13
theorem sc_third_of : FnScope ["one", "other", "first", "second"] ["one", "other"] (defScope s_third_of) := ⟨rfl, rfl, rfl, by decide +kernel, rfl, by decide +kernel, by decide +kernel⟩
theorem cm_third_of : (cf 60).B ⟨["one", "other", "first", "second"], defScope s_third_of, true, defScope s_third_of, [], [], true, [], none⟩ (defBody s_third_of) = some b_third_of := by rfl
abbrev s_line_list : Stmt := top 14
theorem sc_line_list : FnScope ["some", "found", "at", "one", "other", "last"] ["some"] (defScope s_line_list) := ⟨rfl, rfl, rfl, by decide +kernel, rfl, by decide +kernel, by decide +kernel⟩
theorem cm_line_list : (cf 60).B ⟨["some", "found", "at", "one", "other", "last"], defScope s_line_list, true, defScope s_line_list, [("third_of", 2, m_third_of)], [], true, [], none⟩ (defBody s_line_list) = some b_line_list := by rfl
abbrev s_lies : Stmt := top 16
theorem sc_lies : FnScope ["size", "value", "one", "other", "place"] ["size", "value"] (defScope s_lies) := ⟨rfl, rfl, rfl, by decide +kernel, rfl, by decide +kernel, by decide +kernel⟩
theorem cm_lies : (cf 60).B ⟨["size", "value", "one", "other", "place"], defScope s_lies, true, defScope s_lies, [("fits", 2, m_fits)], [], true, [], none⟩ (defBody s_lies) = some b_lies := by rfl
abbrev s_check_set : Stmt := top 17
theorem sc_check_set : FnScope ["size", "some"] ["size", "some"] (defScope s_check_set) := ⟨rfl, rfl, rfl, by decide +kernel, rfl, by decide +kernel, by decide +kernel⟩
theorem cm_check_set : (cf 60).B ⟨["size", "some"], defScope s_check_set, true, defScope s_check_set, [("lies", 2, m_lies), ("check_size", 1, m_check_size)], [("InvalidSet", 2)], true, [], none⟩ (defBody s_check_set) = some b_check_set := by rfl
abbrev s_check_free : Stmt := top 19
theorem sc_check_free : FnScope ["size", "some"] ["size", "some"] (defScope s_check_free) := ⟨rfl, rfl, rfl, by decide +kernel, rfl, by decide +kernel, by decide +kernel⟩
theorem cm_check_free : (cf 60).B ⟨["size", "some"], defScope s_check_free, true, defScope s_check_free, [("line_list", 1, m_line_list), ("check_set", 2, m_check_set)], [("HasLine", 6)], true, [], none⟩ (defBody s_check_free) = some b_check_free := by rfl
abbrev s_open_list : Stmt := top 20
theorem sc_open_list : FnScope ["size", "some", "closed", "at", "one", "other", "place"] ["size", "some"] (defScope s_open_list) := ⟨rfl, rfl, rfl, by decide +kernel, rfl, by decide +kernel, by decide +kernel⟩
theorem cm_open_list : (cf 60).B ⟨["size", "some", "closed", "at", "one", "other", "place"], defScope s_open_list, true, defScope s_open_list, [("all_places", 1, m_all_places), ("third_of", 2, m_third_of)], [], true, ["closed"], none⟩ (defBody s_open_list) = some b_open_list := by rfl
abbrev s_open_places : Stmt := top 21
theorem sc_open_places : FnScope ["size", "some"] ["size", "some"] (defScope s_open_places) := ⟨rfl, rfl, rfl, by decide +kernel, rfl, by decide +kernel, by decide +kernel⟩
theorem cm_open_places : (cf 60).B ⟨["size", "some"], defScope s_open_places, true, defScope s_open_places, [("open_list", 2, m_open_list), ("check_free", 2, m_check_free)], [], true, [], none⟩ (defBody s_open_places) = some b_open_places := by rfl
abbrev s_is_complete : Stmt := top 22
theorem sc_is_complete : FnScope ["size", "some"] ["size", "some"] (defScope s_is_complete) := ⟨rfl, rfl, rfl, by decide +kernel, rfl, by decide +kernel, by decide +kernel⟩
theorem cm_is_complete : (cf 60).B ⟨["size", "some"], defScope s_is_complete, true, defScope s_is_complete, [("open_list", 2, m_open_list), ("check_free", 2, m_check_free)], [], true, [], none⟩ (defBody s_is_complete) = some b_is_complete := by rfl
abbrev s_completed : Stmt := top 23
theorem sc_completed : FnScope ["size", "some", "left"] ["size", "some"] (defScope s_completed) := ⟨rfl, rfl, rfl, by decide +kernel, rfl, by decide +kernel, by decide +kernel⟩
theorem cm_completed : (cf 60).B ⟨["size", "some", "left"], defScope s_completed, true, defScope s_completed, [("open_list", 2, m_open_list), ("check_free", 2, m_check_free)], [], true, [], none⟩ (defBody s_completed) = some b_completed := by rfl
abbrev s_free_sets : Stmt := top 24
theorem sc_free_sets : FnScope ["size", "count", "some", "again", "longer", "one", "place"] ["size", "count"] (defScope s_free_sets) := ⟨rfl, rfl, rfl, by decide +kernel, rfl, by decide +kernel, by decide +kernel⟩
theorem cm_free_sets : (cf 60).B ⟨["size", "count", "some", "again", "longer", "one", "place"], defScope s_free_sets, true, defScope s_free_sets, [("open_list", 2, m_open_list), ("is_integer", 3, m_is_integer)], [("InvalidNumber", 4), ("InvalidSize", 0)], true, [], none⟩ (defBody s_free_sets) = some b_free_sets := by rfl
abbrev s_added : Stmt := top 26
theorem sc_added : FnScope ["some", "place", "here", "one", "other"] ["some", "place"] (defScope s_added) := ⟨rfl, rfl, rfl, by decide +kernel, rfl, by decide +kernel, by decide +kernel⟩
theorem cm_added : (cf 60).B ⟨["some", "place", "here", "one", "other"], defScope s_added, true, defScope s_added, [], [], true, [], none⟩ (defBody s_added) = some b_added := by rfl
abbrev s_add_place : Stmt := top 27
theorem sc_add_place : FnScope ["size", "some", "place"] ["size", "some", "place"] (defScope s_add_place) := ⟨rfl, rfl, rfl, by decide +kernel, rfl, by decide +kernel, by decide +kernel⟩
theorem cm_add_place : (cf 60).B ⟨["size", "some", "place"], defScope s_add_place, true, defScope s_add_place, [("added", 2, m_added), ("fits", 2, m_fits), ("check_set", 2, m_check_set)], [("InvalidPlace", 1)], true, [], none⟩ (defBody s_add_place) = some b_add_place := by rfl
abbrev s_doubled : Stmt := top 28
theorem sc_doubled : FnScope ["some", "here", "one"] ["some"] (defScope s_doubled) := ⟨rfl, rfl, rfl, by decide +kernel, rfl, by decide +kernel, by decide +kernel⟩
theorem cm_doubled : (cf 60).B ⟨["some", "here", "one"], defScope s_doubled, true, defScope s_doubled, [], [], true, [], none⟩ (defBody s_doubled) = some b_doubled := by rfl
abbrev s_double : Stmt := top 29
theorem sc_double : FnScope ["size", "some"] ["size", "some"] (defScope s_double) := ⟨rfl, rfl, rfl, by decide +kernel, rfl, by decide +kernel, by decide +kernel⟩
theorem cm_double : (cf 60).B ⟨["size", "some"], defScope s_double, true, defScope s_double, [("doubled", 1, m_doubled), ("check_set", 2, m_check_set)], [], true, [], none⟩ (defBody s_double) = some b_double := by rfl
abbrev s_check_positions : Stmt := top 30
theorem sc_check_positions : FnScope ["size", "i", "j"] ["size", "i", "j"] (defScope s_check_positions) := ⟨rfl, rfl, rfl, by decide +kernel, rfl, by decide +kernel, by decide +kernel⟩
theorem cm_check_positions : (cf 60).B ⟨["size", "i", "j"], defScope s_check_positions, true, defScope s_check_positions, [("is_integer", 3, m_is_integer)], [("InvalidPosition", 3)], true, [], none⟩ (defBody s_check_positions) = some b_check_positions := by rfl
abbrev s_put : Stmt := top 31
theorem sc_put : FnScope ["place", "j", "value"] ["place", "j", "value"] (defScope s_put) := ⟨rfl, rfl, rfl, by decide +kernel, rfl, by decide +kernel, by decide +kernel⟩
theorem cm_put : (cf 60).B ⟨["place", "j", "value"], defScope s_put, true, defScope s_put, [], [], true, [], none⟩ (defBody s_put) = some b_put := by rfl
abbrev s_exchanged : Stmt := top 32
theorem sc_exchanged : FnScope ["some", "i", "j", "here"] ["some", "i", "j"] (defScope s_exchanged) := ⟨rfl, rfl, rfl, by decide +kernel, rfl, by decide +kernel, by decide +kernel⟩
theorem cm_exchanged : (cf 60).B ⟨["some", "i", "j", "here"], defScope s_exchanged, true, defScope s_exchanged, [("put", 3, m_put)], [], true, [], none⟩ (defBody s_exchanged) = some b_exchanged := by rfl
abbrev s_exchange : Stmt := top 33
theorem sc_exchange : FnScope ["size", "some", "i", "j"] ["size", "some", "i", "j"] (defScope s_exchange) := ⟨rfl, rfl, rfl, by decide +kernel, rfl, by decide +kernel, by decide +kernel⟩
theorem cm_exchange : (cf 60).B ⟨["size", "some", "i", "j"], defScope s_exchange, true, defScope s_exchange, [("exchanged", 3, m_exchanged), ("check_positions", 3, m_check_positions), ("check_set", 2, m_check_set)], [], true, [], none⟩ (defBody s_exchange) = some b_exchange := by rfl
abbrev s_position_added : Stmt := top 34
theorem sc_position_added : FnScope ["some", "i", "j", "here"] ["some", "i", "j"] (defScope s_position_added) := ⟨rfl, rfl, rfl, by decide +kernel, rfl, by decide +kernel, by decide +kernel⟩
theorem cm_position_added : (cf 60).B ⟨["some", "i", "j", "here"], defScope s_position_added, true, defScope s_position_added, [("put", 3, m_put)], [], true, [], none⟩ (defBody s_position_added) = some b_position_added := by rfl
abbrev s_add_position : Stmt := top 35
theorem sc_add_position : FnScope ["size", "some", "i", "j"] ["size", "some", "i", "j"] (defScope s_add_position) := ⟨rfl, rfl, rfl, by decide +kernel, rfl, by decide +kernel, by decide +kernel⟩
theorem cm_add_position : (cf 60).B ⟨["size", "some", "i", "j"], defScope s_add_position, true, defScope s_add_position, [("position_added", 3, m_position_added), ("check_positions", 3, m_check_positions), ("check_set", 2, m_check_set)], [], true, [], none⟩ (defBody s_add_position) = some b_add_position := by rfl
abbrev s_alike_to : Stmt := top 37
theorem sc_alike_to : FnScope ["some", "found", "line", "here", "moved", "after"] ["some"] (defScope s_alike_to) := ⟨rfl, rfl, rfl, by decide +kernel, rfl, by decide +kernel, by decide +kernel⟩
theorem cm_alike_to : (cf 60).B ⟨["some", "found", "line", "here", "moved", "after"], defScope s_alike_to, true, defScope s_alike_to, [("position_added", 3, m_position_added), ("exchanged", 3, m_exchanged), ("doubled", 1, m_doubled), ("added", 2, m_added)], [], true, ["found"], none⟩ (defBody s_alike_to) = some b_alike_to := by rfl
abbrev s_check_flat : Stmt := top 38
theorem sc_check_flat : FnScope ["some"] ["some"] (defScope s_check_flat) := ⟨rfl, rfl, rfl, by decide +kernel, rfl, by decide +kernel, by decide +kernel⟩
theorem cm_check_flat : (cf 60).B ⟨["some"], defScope s_check_flat, true, defScope s_check_flat, [("lies", 2, m_lies)], [("InvalidSet", 2)], true, [], none⟩ (defBody s_check_flat) = some b_check_flat := by rfl
abbrev s_kind : Stmt := top 39
theorem sc_kind : FnScope ["some"] ["some"] (defScope s_kind) := ⟨rfl, rfl, rfl, by decide +kernel, rfl, by decide +kernel, by decide +kernel⟩
theorem cm_kind : (cf 60).B ⟨["some"], defScope s_kind, true, defScope s_kind, [("alike_to", 1, m_alike_to), ("check_flat", 1, m_check_flat)], [], true, [], none⟩ (defBody s_kind) = some b_kind := by rfl
abbrev s_are_alike : Stmt := top 40
theorem sc_are_alike : FnScope ["one", "other"] ["one", "other"] (defScope s_are_alike) := ⟨rfl, rfl, rfl, by decide +kernel, rfl, by decide +kernel, by decide +kernel⟩
theorem cm_are_alike : (cf 60).B ⟨["one", "other"], defScope s_are_alike, true, defScope s_are_alike, [("alike_to", 1, m_alike_to), ("check_flat", 1, m_check_flat)], [], true, [], none⟩ (defBody s_are_alike) = some b_are_alike := by rfl
abbrev s__law_cell_at : Stmt := top 42
theorem sc__law_cell_at : FnScope ["script", "k", "spare", "again"] ["script", "k"] (defScope s__law_cell_at) := ⟨rfl, rfl, rfl, by decide +kernel, rfl, by decide +kernel, by decide +kernel⟩
theorem cm__law_cell_at : (cf 60).B ⟨["script", "k", "spare", "again"], defScope s__law_cell_at, true, defScope s__law_cell_at, [], [], true, [], none⟩ (defBody s__law_cell_at) = some b__law_cell_at := by rfl
abbrev s__law_mixed : Stmt := top 43
theorem sc__law_mixed : FnScope ["script", "k", "many", "spun"] ["script", "k", "many"] (defScope s__law_mixed) := ⟨rfl, rfl, rfl, by decide +kernel, rfl, by decide +kernel, by decide +kernel⟩
theorem cm__law_mixed : (cf 60).B ⟨["script", "k", "many", "spun"], defScope s__law_mixed, true, defScope s__law_mixed, [("_law_cell_at", 2, m__law_cell_at)], [], true, [], none⟩ (defBody s__law_mixed) = some b__law_mixed := by rfl
abbrev s__law_draw : Stmt := top 44
theorem sc__law_draw : FnScope ["script", "town", "many"] ["script", "town", "many"] (defScope s__law_draw) := ⟨rfl, rfl, rfl, by decide +kernel, rfl, by decide +kernel, by decide +kernel⟩
theorem cm__law_draw : (cf 60).B ⟨["script", "town", "many"], defScope s__law_draw, true, defScope s__law_draw, [("_law_mixed", 3, m__law_mixed)], [], true, [], none⟩ (defBody s__law_draw) = some b__law_draw := by rfl
abbrev s__law_pick : Stmt := top 45
theorem sc__law_pick : FnScope ["script", "town", "some"] ["script", "town", "some"] (defScope s__law_pick) := ⟨rfl, rfl, rfl, by decide +kernel, rfl, by decide +kernel, by decide +kernel⟩
theorem cm__law_pick : (cf 60).B ⟨["script", "town", "some"], defScope s__law_pick, true, defScope s__law_pick, [("_law_draw", 3, m__law_draw)], [], true, [], none⟩ (defBody s__law_pick) = some b__law_pick := by rfl
abbrev s__law_grid : Stmt := top 46
theorem sc__law_grid : FnScope ["size", "made", "number", "power"] ["size"] (defScope s__law_grid) := ⟨rfl, rfl, rfl, by decide +kernel, rfl, by decide +kernel, by decide +kernel⟩
theorem cm__law_grid : (cf 60).B ⟨["size", "made", "number", "power"], defScope s__law_grid, true, defScope s__law_grid, [], [], true, [], none⟩ (defBody s__law_grid) = some b__law_grid := by rfl
abbrev s_law_k18 : Stmt := top 47
theorem sc_law_k18 : FnScope ["script", "town", "count", "own", "move", "moved", "due", "turned_set", "twice", "full", "middle", "halves", "at", "one", "other", "last", "place", "first", "second"] ["script"] (defScope s_law_k18) := ⟨rfl, rfl, rfl, by decide +kernel, rfl, by decide +kernel, by decide +kernel⟩
theorem cm_law_k18 : (cf 60).B ⟨["script", "town", "count", "own", "move", "moved", "due", "turned_set", "twice", "full", "middle", "halves", "at", "one", "other", "last", "place", "first", "second"], defScope s_law_k18, true, defScope s_law_k18, [("kind", 1, m_kind), ("completed", 2, m_completed), ("are_alike", 2, m_are_alike), ("add_position", 4, m_add_position), ("open_places", 2, m_open_places), ("double", 2, m_double), ("exchange", 4, m_exchange), ("is_complete", 2, m_is_complete), ("add_place", 3, m_add_place), ("_law_pick", 3, m__law_pick), ("_law_grid", 1, m__law_grid), ("free_sets", 2, m_free_sets), ("_law_draw", 3, m__law_draw)], [], true, [], none⟩ (defBody s_law_k18) = some b_law_k18 := by rfl
theorem all_mk {P : Program} {w : World} {K : PySem.W.Frag} {h : Heap} {mg : Str → Option Value} {fa f0 f1 f2 f3 f4 f5 f6 f7 f8 f9 f10 f11 f12 f13 f14 f15 f16 f17 f18 f19 f20 f21 f22 f23 f24 f25 f26 f27 f28 f29 f30 f31 f32 f33 CL C0 C1 C2 C3 C4 C6 : Addr} (X : K.In h) (G : h.Ns mainGlobals mg) (hfa : mg "law" = some (.ref fa))
    (hgL : PySem.W.nsIn K mainGlobals "LineError" = some (some (.ref CL)))
    (hg0 : PySem.W.nsIn K mainGlobals "InvalidSize" = some (some (.ref C0)))
    (hx0 : excB K CL C0 = true)
    (hg1 : PySem.W.nsIn K mainGlobals "InvalidPlace" = some (some (.ref C1)))
    (hx1 : excB K CL C1 = true)
    (hg2 : PySem.W.nsIn K mainGlobals "InvalidSet" = some (some (.ref C2)))
    (hx2 : excB K CL C2 = true)
    (hg3 : PySem.W.nsIn K mainGlobals "InvalidPosition" = some (some (.ref C3)))
    (hx3 : excB K CL C3 = true)
    (hg4 : PySem.W.nsIn K mainGlobals "InvalidNumber" = some (some (.ref C4)))
    (hx4 : excB K CL C4 = true)
    (hg6 : PySem.W.nsIn K mainGlobals "HasLine" = some (some (.ref C6)))
    (hx6 : excB K CL C6 = true)
    {od0 an0 : Option Addr} {sl0 : Array (Option Value)} {oc0 kV0 dc0 pm0 cd0 ct0 : Value}
    (a0 : PySem.W.nsIn K mainGlobals "is_integer" = some (some (.ref f0))) (l0 : K.lookup f0 = some ⟨oc0, od0, .func (PySem.W.fnOf "is_integer" "is_integer" (defArgs s_is_integer) (defBody s_is_integer) (defScope s_is_integer) .none kV0 dc0 pm0 an0 cd0 ct0), sl0⟩) (c0 : PySem.W.codeIn K cd0 "is_integer" = true) (k0 : PySem.W.keepIn K (.ref f0) = true)
    {od1 an1 : Option Addr} {sl1 : Array (Option Value)} {oc1 kV1 dc1 pm1 cd1 ct1 : Value}
    (a1 : PySem.W.nsIn K mainGlobals "check_size" = some (some (.ref f1))) (l1 : K.lookup f1 = some ⟨oc1, od1, .func (PySem.W.fnOf "check_size" "check_size" (defArgs s_check_size) (defBody s_check_size) (defScope s_check_size) .none kV1 dc1 pm1 an1 cd1 ct1), sl1⟩) (c1 : PySem.W.codeIn K cd1 "check_size" = true) (k1 : PySem.W.keepIn K (.ref f1) = true)
    {od2 an2 : Option Addr} {sl2 : Array (Option Value)} {oc2 kV2 dc2 pm2 cd2 ct2 : Value}
    (a2 : PySem.W.nsIn K mainGlobals "fits" = some (some (.ref f2))) (l2 : K.lookup f2 = some ⟨oc2, od2, .func (PySem.W.fnOf "fits" "fits" (defArgs s_fits) (defBody s_fits) (defScope s_fits) .none kV2 dc2 pm2 an2 cd2 ct2), sl2⟩) (c2 : PySem.W.codeIn K cd2 "fits" = true) (k2 : PySem.W.keepIn K (.ref f2) = true)
    {od3 an3 : Option Addr} {sl3 : Array (Option Value)} {oc3 kV3 dc3 pm3 cd3 ct3 : Value}
    (a3 : PySem.W.nsIn K mainGlobals "all_places" = some (some (.ref f3))) (l3 : K.lookup f3 = some ⟨oc3, od3, .func (PySem.W.fnOf "all_places" "all_places" (defArgs s_all_places) (defBody s_all_places) (defScope s_all_places) .none kV3 dc3 pm3 an3 cd3 ct3), sl3⟩) (c3 : PySem.W.codeIn K cd3 "all_places" = true) (k3 : PySem.W.keepIn K (.ref f3) = true)
    {od4 an4 : Option Addr} {sl4 : Array (Option Value)} {oc4 kV4 dc4 pm4 cd4 ct4 : Value}
    (a4 : PySem.W.nsIn K mainGlobals "third_of" = some (some (.ref f4))) (l4 : K.lookup f4 = some ⟨oc4, od4, .func (PySem.W.fnOf "third_of" "third_of" (defArgs s_third_of) (defBody s_third_of) (defScope s_third_of) .none kV4 dc4 pm4 an4 cd4 ct4), sl4⟩) (c4 : PySem.W.codeIn K cd4 "third_of" = true) (k4 : PySem.W.keepIn K (.ref f4) = true)
    {od5 an5 : Option Addr} {sl5 : Array (Option Value)} {oc5 kV5 dc5 pm5 cd5 ct5 : Value}
    (a5 : PySem.W.nsIn K mainGlobals "line_list" = some (some (.ref f5))) (l5 : K.lookup f5 = some ⟨oc5, od5, .func (PySem.W.fnOf "line_list" "line_list" (defArgs s_line_list) (defBody s_line_list) (defScope s_line_list) .none kV5 dc5 pm5 an5 cd5 ct5), sl5⟩) (c5 : PySem.W.codeIn K cd5 "line_list" = true) (k5 : PySem.W.keepIn K (.ref f5) = true)
    {od6 an6 : Option Addr} {sl6 : Array (Option Value)} {oc6 kV6 dc6 pm6 cd6 ct6 : Value}
    (a6 : PySem.W.nsIn K mainGlobals "lies" = some (some (.ref f6))) (l6 : K.lookup f6 = some ⟨oc6, od6, .func (PySem.W.fnOf "lies" "lies" (defArgs s_lies) (defBody s_lies) (defScope s_lies) .none kV6 dc6 pm6 an6 cd6 ct6), sl6⟩) (c6 : PySem.W.codeIn K cd6 "lies" = true) (k6 : PySem.W.keepIn K (.ref f6) = true)
    {od7 an7 : Option Addr} {sl7 : Array (Option Value)} {oc7 kV7 dc7 pm7 cd7 ct7 : Value}
    (a7 : PySem.W.nsIn K mainGlobals "check_set" = some (some (.ref f7))) (l7 : K.lookup f7 = some ⟨oc7, od7, .func (PySem.W.fnOf "check_set" "check_set" (defArgs s_check_set) (defBody s_check_set) (defScope s_check_set) .none kV7 dc7 pm7 an7 cd7 ct7), sl7⟩) (c7 : PySem.W.codeIn K cd7 "check_set" = true) (k7 : PySem.W.keepIn K (.ref f7) = true)
    {od8 an8 : Option Addr} {sl8 : Array (Option Value)} {oc8 kV8 dc8 pm8 cd8 ct8 : Value}
    (a8 : PySem.W.nsIn K mainGlobals "check_free" = some (some (.ref f8))) (l8 : K.lookup f8 = some ⟨oc8, od8, .func (PySem.W.fnOf "check_free" "check_free" (defArgs s_check_free) (defBody s_check_free) (defScope s_check_free) .none kV8 dc8 pm8 an8 cd8 ct8), sl8⟩) (c8 : PySem.W.codeIn K cd8 "check_free" = true) (k8 : PySem.W.keepIn K (.ref f8) = true)
    {od9 an9 : Option Addr} {sl9 : Array (Option Value)} {oc9 kV9 dc9 pm9 cd9 ct9 : Value}
    (a9 : PySem.W.nsIn K mainGlobals "open_list" = some (some (.ref f9))) (l9 : K.lookup f9 = some ⟨oc9, od9, .func (PySem.W.fnOf "open_list" "open_list" (defArgs s_open_list) (defBody s_open_list) (defScope s_open_list) .none kV9 dc9 pm9 an9 cd9 ct9), sl9⟩) (c9 : PySem.W.codeIn K cd9 "open_list" = true) (k9 : PySem.W.keepIn K (.ref f9) = true)
    {od10 an10 : Option Addr} {sl10 : Array (Option Value)} {oc10 kV10 dc10 pm10 cd10 ct10 : Value}
    (a10 : PySem.W.nsIn K mainGlobals "open_places" = some (some (.ref f10))) (l10 : K.lookup f10 = some ⟨oc10, od10, .func (PySem.W.fnOf "open_places" "open_places" (defArgs s_open_places) (defBody s_open_places) (defScope s_open_places) .none kV10 dc10 pm10 an10 cd10 ct10), sl10⟩) (c10 : PySem.W.codeIn K cd10 "open_places" = true) (k10 : PySem.W.keepIn K (.ref f10) = true)
    {od11 an11 : Option Addr} {sl11 : Array (Option Value)} {oc11 kV11 dc11 pm11 cd11 ct11 : Value}
    (a11 : PySem.W.nsIn K mainGlobals "is_complete" = some (some (.ref f11))) (l11 : K.lookup f11 = some ⟨oc11, od11, .func (PySem.W.fnOf "is_complete" "is_complete" (defArgs s_is_complete) (defBody s_is_complete) (defScope s_is_complete) .none kV11 dc11 pm11 an11 cd11 ct11), sl11⟩) (c11 : PySem.W.codeIn K cd11 "is_complete" = true) (k11 : PySem.W.keepIn K (.ref f11) = true)
    {od12 an12 : Option Addr} {sl12 : Array (Option Value)} {oc12 kV12 dc12 pm12 cd12 ct12 : Value}
    (a12 : PySem.W.nsIn K mainGlobals "completed" = some (some (.ref f12))) (l12 : K.lookup f12 = some ⟨oc12, od12, .func (PySem.W.fnOf "completed" "completed" (defArgs s_completed) (defBody s_completed) (defScope s_completed) .none kV12 dc12 pm12 an12 cd12 ct12), sl12⟩) (c12 : PySem.W.codeIn K cd12 "completed" = true) (k12 : PySem.W.keepIn K (.ref f12) = true)
    {od13 an13 : Option Addr} {sl13 : Array (Option Value)} {oc13 kV13 dc13 pm13 cd13 ct13 : Value}
    (a13 : PySem.W.nsIn K mainGlobals "free_sets" = some (some (.ref f13))) (l13 : K.lookup f13 = some ⟨oc13, od13, .func (PySem.W.fnOf "free_sets" "free_sets" (defArgs s_free_sets) (defBody s_free_sets) (defScope s_free_sets) .none kV13 dc13 pm13 an13 cd13 ct13), sl13⟩) (c13 : PySem.W.codeIn K cd13 "free_sets" = true) (k13 : PySem.W.keepIn K (.ref f13) = true)
    {od14 an14 : Option Addr} {sl14 : Array (Option Value)} {oc14 kV14 dc14 pm14 cd14 ct14 : Value}
    (a14 : PySem.W.nsIn K mainGlobals "added" = some (some (.ref f14))) (l14 : K.lookup f14 = some ⟨oc14, od14, .func (PySem.W.fnOf "added" "added" (defArgs s_added) (defBody s_added) (defScope s_added) .none kV14 dc14 pm14 an14 cd14 ct14), sl14⟩) (c14 : PySem.W.codeIn K cd14 "added" = true) (k14 : PySem.W.keepIn K (.ref f14) = true)
    {od15 an15 : Option Addr} {sl15 : Array (Option Value)} {oc15 kV15 dc15 pm15 cd15 ct15 : Value}
    (a15 : PySem.W.nsIn K mainGlobals "add_place" = some (some (.ref f15))) (l15 : K.lookup f15 = some ⟨oc15, od15, .func (PySem.W.fnOf "add_place" "add_place" (defArgs s_add_place) (defBody s_add_place) (defScope s_add_place) .none kV15 dc15 pm15 an15 cd15 ct15), sl15⟩) (c15 : PySem.W.codeIn K cd15 "add_place" = true) (k15 : PySem.W.keepIn K (.ref f15) = true)
    {od16 an16 : Option Addr} {sl16 : Array (Option Value)} {oc16 kV16 dc16 pm16 cd16 ct16 : Value}
    (a16 : PySem.W.nsIn K mainGlobals "doubled" = some (some (.ref f16))) (l16 : K.lookup f16 = some ⟨oc16, od16, .func (PySem.W.fnOf "doubled" "doubled" (defArgs s_doubled) (defBody s_doubled) (defScope s_doubled) .none kV16 dc16 pm16 an16 cd16 ct16), sl16⟩) (c16 : PySem.W.codeIn K cd16 "doubled" = true) (k16 : PySem.W.keepIn K (.ref f16) = true)
    {od17 an17 : Option Addr} {sl17 : Array (Option Value)} {oc17 kV17 dc17 pm17 cd17 ct17 : Value}
    (a17 : PySem.W.nsIn K mainGlobals "double" = some (some (.ref f17))) (l17 : K.lookup f17 = some ⟨oc17, od17, .func (PySem.W.fnOf "double" "double" (defArgs s_double) (defBody s_double) (defScope s_double) .none kV17 dc17 pm17 an17 cd17 ct17), sl17⟩) (c17 : PySem.W.codeIn K cd17 "double" = true) (k17 : PySem.W.keepIn K (.ref f17) = true)
    {od18 an18 : Option Addr} {sl18 : Array (Option Value)} {oc18 kV18 dc18 pm18 cd18 ct18 : Value}
    (a18 : PySem.W.nsIn K mainGlobals "check_positions" = some (some (.ref f18))) (l18 : K.lookup f18 = some ⟨oc18, od18, .func (PySem.W.fnOf "check_positions" "check_positions" (defArgs s_check_positions) (defBody s_check_positions) (defScope s_check_positions) .none kV18 dc18 pm18 an18 cd18 ct18), sl18⟩) (c18 : PySem.W.codeIn K cd18 "check_positions" = true) (k18 : PySem.W.keepIn K (.ref f18) = true)
    {od19 an19 : Option Addr} {sl19 : Array (Option Value)} {oc19 kV19 dc19 pm19 cd19 ct19 : Value}
    (a19 : PySem.W.nsIn K mainGlobals "put" = some (some (.ref f19))) (l19 : K.lookup f19 = some ⟨oc19, od19, .func (PySem.W.fnOf "put" "put" (defArgs s_put) (defBody s_put) (defScope s_put) .none kV19 dc19 pm19 an19 cd19 ct19), sl19⟩) (c19 : PySem.W.codeIn K cd19 "put" = true) (k19 : PySem.W.keepIn K (.ref f19) = true)
    {od20 an20 : Option Addr} {sl20 : Array (Option Value)} {oc20 kV20 dc20 pm20 cd20 ct20 : Value}
    (a20 : PySem.W.nsIn K mainGlobals "exchanged" = some (some (.ref f20))) (l20 : K.lookup f20 = some ⟨oc20, od20, .func (PySem.W.fnOf "exchanged" "exchanged" (defArgs s_exchanged) (defBody s_exchanged) (defScope s_exchanged) .none kV20 dc20 pm20 an20 cd20 ct20), sl20⟩) (c20 : PySem.W.codeIn K cd20 "exchanged" = true) (k20 : PySem.W.keepIn K (.ref f20) = true)
    {od21 an21 : Option Addr} {sl21 : Array (Option Value)} {oc21 kV21 dc21 pm21 cd21 ct21 : Value}
    (a21 : PySem.W.nsIn K mainGlobals "exchange" = some (some (.ref f21))) (l21 : K.lookup f21 = some ⟨oc21, od21, .func (PySem.W.fnOf "exchange" "exchange" (defArgs s_exchange) (defBody s_exchange) (defScope s_exchange) .none kV21 dc21 pm21 an21 cd21 ct21), sl21⟩) (c21 : PySem.W.codeIn K cd21 "exchange" = true) (k21 : PySem.W.keepIn K (.ref f21) = true)
    {od22 an22 : Option Addr} {sl22 : Array (Option Value)} {oc22 kV22 dc22 pm22 cd22 ct22 : Value}
    (a22 : PySem.W.nsIn K mainGlobals "position_added" = some (some (.ref f22))) (l22 : K.lookup f22 = some ⟨oc22, od22, .func (PySem.W.fnOf "position_added" "position_added" (defArgs s_position_added) (defBody s_position_added) (defScope s_position_added) .none kV22 dc22 pm22 an22 cd22 ct22), sl22⟩) (c22 : PySem.W.codeIn K cd22 "position_added" = true) (k22 : PySem.W.keepIn K (.ref f22) = true)
    {od23 an23 : Option Addr} {sl23 : Array (Option Value)} {oc23 kV23 dc23 pm23 cd23 ct23 : Value}
    (a23 : PySem.W.nsIn K mainGlobals "add_position" = some (some (.ref f23))) (l23 : K.lookup f23 = some ⟨oc23, od23, .func (PySem.W.fnOf "add_position" "add_position" (defArgs s_add_position) (defBody s_add_position) (defScope s_add_position) .none kV23 dc23 pm23 an23 cd23 ct23), sl23⟩) (c23 : PySem.W.codeIn K cd23 "add_position" = true) (k23 : PySem.W.keepIn K (.ref f23) = true)
    {od24 an24 : Option Addr} {sl24 : Array (Option Value)} {oc24 kV24 dc24 pm24 cd24 ct24 : Value}
    (a24 : PySem.W.nsIn K mainGlobals "alike_to" = some (some (.ref f24))) (l24 : K.lookup f24 = some ⟨oc24, od24, .func (PySem.W.fnOf "alike_to" "alike_to" (defArgs s_alike_to) (defBody s_alike_to) (defScope s_alike_to) .none kV24 dc24 pm24 an24 cd24 ct24), sl24⟩) (c24 : PySem.W.codeIn K cd24 "alike_to" = true) (k24 : PySem.W.keepIn K (.ref f24) = true)
    {od25 an25 : Option Addr} {sl25 : Array (Option Value)} {oc25 kV25 dc25 pm25 cd25 ct25 : Value}
    (a25 : PySem.W.nsIn K mainGlobals "check_flat" = some (some (.ref f25))) (l25 : K.lookup f25 = some ⟨oc25, od25, .func (PySem.W.fnOf "check_flat" "check_flat" (defArgs s_check_flat) (defBody s_check_flat) (defScope s_check_flat) .none kV25 dc25 pm25 an25 cd25 ct25), sl25⟩) (c25 : PySem.W.codeIn K cd25 "check_flat" = true) (k25 : PySem.W.keepIn K (.ref f25) = true)
    {od26 an26 : Option Addr} {sl26 : Array (Option Value)} {oc26 kV26 dc26 pm26 cd26 ct26 : Value}
    (a26 : PySem.W.nsIn K mainGlobals "kind" = some (some (.ref f26))) (l26 : K.lookup f26 = some ⟨oc26, od26, .func (PySem.W.fnOf "kind" "kind" (defArgs s_kind) (defBody s_kind) (defScope s_kind) .none kV26 dc26 pm26 an26 cd26 ct26), sl26⟩) (c26 : PySem.W.codeIn K cd26 "kind" = true) (k26 : PySem.W.keepIn K (.ref f26) = true)
    {od27 an27 : Option Addr} {sl27 : Array (Option Value)} {oc27 kV27 dc27 pm27 cd27 ct27 : Value}
    (a27 : PySem.W.nsIn K mainGlobals "are_alike" = some (some (.ref f27))) (l27 : K.lookup f27 = some ⟨oc27, od27, .func (PySem.W.fnOf "are_alike" "are_alike" (defArgs s_are_alike) (defBody s_are_alike) (defScope s_are_alike) .none kV27 dc27 pm27 an27 cd27 ct27), sl27⟩) (c27 : PySem.W.codeIn K cd27 "are_alike" = true) (k27 : PySem.W.keepIn K (.ref f27) = true)
    {od28 an28 : Option Addr} {sl28 : Array (Option Value)} {oc28 kV28 dc28 pm28 cd28 ct28 : Value}
    (a28 : PySem.W.nsIn K mainGlobals "_law_cell_at" = some (some (.ref f28))) (l28 : K.lookup f28 = some ⟨oc28, od28, .func (PySem.W.fnOf "_law_cell_at" "_law_cell_at" (defArgs s__law_cell_at) (defBody s__law_cell_at) (defScope s__law_cell_at) .none kV28 dc28 pm28 an28 cd28 ct28), sl28⟩) (c28 : PySem.W.codeIn K cd28 "_law_cell_at" = true) (k28 : PySem.W.keepIn K (.ref f28) = true)
    {od29 an29 : Option Addr} {sl29 : Array (Option Value)} {oc29 kV29 dc29 pm29 cd29 ct29 : Value}
    (a29 : PySem.W.nsIn K mainGlobals "_law_mixed" = some (some (.ref f29))) (l29 : K.lookup f29 = some ⟨oc29, od29, .func (PySem.W.fnOf "_law_mixed" "_law_mixed" (defArgs s__law_mixed) (defBody s__law_mixed) (defScope s__law_mixed) .none kV29 dc29 pm29 an29 cd29 ct29), sl29⟩) (c29 : PySem.W.codeIn K cd29 "_law_mixed" = true) (k29 : PySem.W.keepIn K (.ref f29) = true)
    {od30 an30 : Option Addr} {sl30 : Array (Option Value)} {oc30 kV30 dc30 pm30 cd30 ct30 : Value}
    (a30 : PySem.W.nsIn K mainGlobals "_law_draw" = some (some (.ref f30))) (l30 : K.lookup f30 = some ⟨oc30, od30, .func (PySem.W.fnOf "_law_draw" "_law_draw" (defArgs s__law_draw) (defBody s__law_draw) (defScope s__law_draw) .none kV30 dc30 pm30 an30 cd30 ct30), sl30⟩) (c30 : PySem.W.codeIn K cd30 "_law_draw" = true) (k30 : PySem.W.keepIn K (.ref f30) = true)
    {od31 an31 : Option Addr} {sl31 : Array (Option Value)} {oc31 kV31 dc31 pm31 cd31 ct31 : Value}
    (a31 : PySem.W.nsIn K mainGlobals "_law_pick" = some (some (.ref f31))) (l31 : K.lookup f31 = some ⟨oc31, od31, .func (PySem.W.fnOf "_law_pick" "_law_pick" (defArgs s__law_pick) (defBody s__law_pick) (defScope s__law_pick) .none kV31 dc31 pm31 an31 cd31 ct31), sl31⟩) (c31 : PySem.W.codeIn K cd31 "_law_pick" = true) (k31 : PySem.W.keepIn K (.ref f31) = true)
    {od32 an32 : Option Addr} {sl32 : Array (Option Value)} {oc32 kV32 dc32 pm32 cd32 ct32 : Value}
    (a32 : PySem.W.nsIn K mainGlobals "_law_grid" = some (some (.ref f32))) (l32 : K.lookup f32 = some ⟨oc32, od32, .func (PySem.W.fnOf "_law_grid" "_law_grid" (defArgs s__law_grid) (defBody s__law_grid) (defScope s__law_grid) .none kV32 dc32 pm32 an32 cd32 ct32), sl32⟩) (c32 : PySem.W.codeIn K cd32 "_law_grid" = true) (k32 : PySem.W.keepIn K (.ref f32) = true)
    {od33 an33 : Option Addr} {sl33 : Array (Option Value)} {oc33 kV33 dc33 pm33 cd33 ct33 : Value}
    (a33 : PySem.W.nsIn K mainGlobals "law" = some (some (.ref f33))) (l33 : K.lookup f33 = some ⟨oc33, od33, .func (PySem.W.fnOf "law" "law" (defArgs s_law_k18) (defBody s_law_k18) (defScope s_law_k18) .none kV33 dc33 pm33 an33 cd33 ct33), sl33⟩) (c33 : PySem.W.codeIn K cd33 "law" = true) (k33 : PySem.W.keepIn K (.ref f33) = true)
    (z0 : PySem.W.nsIn K mainGlobals "len" = some none)
    (z1 : PySem.W.nsIn K mainGlobals "list" = some none)
    (z2 : PySem.W.nsIn K mainGlobals "tuple" = some none)
    (z3 : PySem.W.nsIn K mainGlobals "all" = some none)
    (z4 : PySem.W.nsIn K mainGlobals "sum" = some none)
    (z5 : PySem.W.nsIn K mainGlobals "min" = some none)
    (z6 : PySem.W.nsIn K mainGlobals "max" = some none)
    (z7 : PySem.W.nsIn K mainGlobals "sorted" = some none)
    (z8 : PySem.W.nsIn K mainGlobals "isinstance" = some none)
    (z9 : PySem.W.nsIn K mainGlobals "int" = some none)
    (z10 : PySem.W.nsIn K mainGlobals "bool" = some none)
    (z11 : PySem.W.nsIn K mainGlobals "str" = some none)
    (z12 : PySem.W.nsIn K mainGlobals "set" = some none)
    (z13 : PySem.W.nsIn K mainGlobals "range" = some none)
    (z14 : PySem.W.nsIn K mainGlobals "enumerate" = some none)
    (z15 : PySem.W.nsIn K mainGlobals "zip" = some none)
    (z16 : PySem.W.nsIn K mainGlobals "ValueError" = some none) :
    ∃ fd : FuncData, (∀ (s : Shared) (v : Value), BindsTo s fd ⟨[v], []⟩ [("script", v)]) ∧ ∀ base : Heap, K.In base → base.Ns mainGlobals mg → FnOk P w K mg base (L2.CX P w) 7 fa fd ["script"] (spL K) := by
  have e := hfa.symm.trans (PySem.W.mg_of X G a33)
  cases e
  have bn := bn_of X G ⟨z0, z1, z2, z3, z4, z5, z6, z7, z8, z9, z10, z11, z12, z13, z14, z15, z16, trivial⟩
  have E0 : ExcAt K mg ⟨K, clsL [C0, C1, C2, C3, C4, 0, C6, 0, 0, 0], 0, P, w, none⟩ "InvalidSize" 0 := ⟨PySem.W.mg_of X G hg0, by decide, CL, excB_ok hx0⟩
  have E1 : ExcAt K mg ⟨K, clsL [C0, C1, C2, C3, C4, 0, C6, 0, 0, 0], 0, P, w, none⟩ "InvalidPlace" 1 := ⟨PySem.W.mg_of X G hg1, by decide, CL, excB_ok hx1⟩
  have E2 : ExcAt K mg ⟨K, clsL [C0, C1, C2, C3, C4, 0, C6, 0, 0, 0], 0, P, w, none⟩ "InvalidSet" 2 := ⟨PySem.W.mg_of X G hg2, by decide, CL, excB_ok hx2⟩
  have E3 : ExcAt K mg ⟨K, clsL [C0, C1, C2, C3, C4, 0, C6, 0, 0, 0], 0, P, w, none⟩ "InvalidPosition" 3 := ⟨PySem.W.mg_of X G hg3, by decide, CL, excB_ok hx3⟩
  have E4 : ExcAt K mg ⟨K, clsL [C0, C1, C2, C3, C4, 0, C6, 0, 0, 0], 0, P, w, none⟩ "InvalidNumber" 4 := ⟨PySem.W.mg_of X G hg4, by decide, CL, excB_ok hx4⟩
  have E6 : ExcAt K mg ⟨K, clsL [C0, C1, C2, C3, C4, 0, C6, 0, 0, 0], 0, P, w, none⟩ "HasLine" 6 := ⟨PySem.W.mg_of X G hg6, by decide, CL, excB_ok hx6⟩
  have F0 := fun_mk (st := s_is_integer) l0 c0 k0
  have F1 := fun_mk (st := s_check_size) l1 c1 k1
  have F2 := fun_mk (st := s_fits) l2 c2 k2
  have F3 := fun_mk (st := s_all_places) l3 c3 k3
  have F4 := fun_mk (st := s_third_of) l4 c4 k4
  have F5 := fun_mk (st := s_line_list) l5 c5 k5
  have F6 := fun_mk (st := s_lies) l6 c6 k6
  have F7 := fun_mk (st := s_check_set) l7 c7 k7
  have F8 := fun_mk (st := s_check_free) l8 c8 k8
  have F9 := fun_mk (st := s_open_list) l9 c9 k9
  have F10 := fun_mk (st := s_open_places) l10 c10 k10
  have F11 := fun_mk (st := s_is_complete) l11 c11 k11
  have F12 := fun_mk (st := s_completed) l12 c12 k12
  have F13 := fun_mk (st := s_free_sets) l13 c13 k13
  have F14 := fun_mk (st := s_added) l14 c14 k14
  have F15 := fun_mk (st := s_add_place) l15 c15 k15
  have F16 := fun_mk (st := s_doubled) l16 c16 k16
  have F17 := fun_mk (st := s_double) l17 c17 k17
  have F18 := fun_mk (st := s_check_positions) l18 c18 k18
  have F19 := fun_mk (st := s_put) l19 c19 k19
  have F20 := fun_mk (st := s_exchanged) l20 c20 k20
  have F21 := fun_mk (st := s_exchange) l21 c21 k21
  have F22 := fun_mk (st := s_position_added) l22 c22 k22
  have F23 := fun_mk (st := s_add_position) l23 c23 k23
  have F24 := fun_mk (st := s_alike_to) l24 c24 k24
  have F25 := fun_mk (st := s_check_flat) l25 c25 k25
  have F26 := fun_mk (st := s_kind) l26 c26 k26
  have F27 := fun_mk (st := s_are_alike) l27 c27 k27
  have F28 := fun_mk (st := s__law_cell_at) l28 c28 k28
  have F29 := fun_mk (st := s__law_mixed) l29 c29 k29
  have F30 := fun_mk (st := s__law_draw) l30 c30 k30
  have F31 := fun_mk (st := s__law_pick) l31 c31 k31
  have F32 := fun_mk (st := s__law_grid) l32 c32 k32
  have F33 := fun_mk (st := s_law_k18) l33 c33 k33
  refine ⟨PySem.W.fnOf "law" "law" (defArgs s_law_k18) (defBody s_law_k18) (defScope s_law_k18) .none kV33 dc33 pm33 an33 cd33 ct33, fun s v => .of_eq rfl, fun base _ _ => ?_⟩
  have B0 := F0.binds (ps := ["value", "low", "high"]) fun _ _ _ _ _ _ us hl => match us, hl with | [_, _, _], _ => rfl
  have K0 : Known P w K mg base ⟨K, clsL [C0, C1, C2, C3, C4, 0, C6, 0, 0, 0], 0, P, w, none⟩ 1 "is_integer" 3 m_is_integer := known_of (k := 0) 60 F0 (PySem.W.mg_of X G a0) B0 sc_is_integer cm_is_integer rfl rfl rfl bn trivial trivial trivial
  have B1 := F1.binds (ps := ["size"]) fun _ _ _ _ _ _ us hl => match us, hl with | [_], _ => rfl
  have K1 : Known P w K mg base ⟨K, clsL [C0, C1, C2, C3, C4, 0, C6, 0, 0, 0], 0, P, w, none⟩ 2 "check_size" 1 m_check_size := known_of (k := 1) 60 F1 (PySem.W.mg_of X G a1) B1 sc_check_size cm_check_size rfl rfl rfl bn ⟨K0.up, trivial⟩ ⟨E0, trivial⟩ trivial
  have B2 := F2.binds (ps := ["size", "value"]) fun _ _ _ _ _ _ us hl => match us, hl with | [_, _], _ => rfl
  have K2 : Known P w K mg base ⟨K, clsL [C0, C1, C2, C3, C4, 0, C6, 0, 0, 0], 0, P, w, none⟩ 2 "fits" 2 m_fits := known_of (k := 1) 60 F2 (PySem.W.mg_of X G a2) B2 sc_fits cm_fits rfl rfl rfl bn ⟨K0.up, trivial⟩ trivial trivial
  have B3 := F3.binds (ps := ["size"]) fun _ _ _ _ _ _ us hl => match us, hl with | [_], _ => rfl
  have K3 : Known P w K mg base ⟨K, clsL [C0, C1, C2, C3, C4, 0, C6, 0, 0, 0], 0, P, w, none⟩ 1 "all_places" 1 m_all_places := known_of (k := 0) 60 F3 (PySem.W.mg_of X G a3) B3 sc_all_places cm_all_places rfl rfl rfl bn trivial trivial trivial
  have B4 := F4.binds (ps := ["one", "other"]) fun _ _ _ _ _ _ us hl => match us, hl with | [_, _], _ => rfl
  have K4 : Known P w K mg base ⟨K, clsL [C0, C1, C2, C3, C4, 0, C6, 0, 0, 0], 0, P, w, none⟩ 1 "third_of" 2 m_third_of := known_of (k := 0) 60 F4 (PySem.W.mg_of X G a4) B4 sc_third_of cm_third_of rfl rfl rfl bn trivial trivial trivial
  have B5 := F5.binds (ps := ["some"]) fun _ _ _ _ _ _ us hl => match us, hl with | [_], _ => rfl
  have K5 : Known P w K mg base ⟨K, clsL [C0, C1, C2, C3, C4, 0, C6, 0, 0, 0], 0, P, w, none⟩ 2 "line_list" 1 m_line_list := known_of (k := 1) 60 F5 (PySem.W.mg_of X G a5) B5 sc_line_list cm_line_list rfl rfl rfl bn ⟨K4.up, trivial⟩ trivial trivial
  have B6 := F6.binds (ps := ["size", "value"]) fun _ _ _ _ _ _ us hl => match us, hl with | [_, _], _ => rfl
  have K6 : Known P w K mg base ⟨K, clsL [C0, C1, C2, C3, C4, 0, C6, 0, 0, 0], 0, P, w, none⟩ 3 "lies" 2 m_lies := known_of (k := 2) 60 F6 (PySem.W.mg_of X G a6) B6 sc_lies cm_lies rfl rfl rfl bn ⟨K2.up, trivial⟩ trivial trivial
  have B7 := F7.binds (ps := ["size", "some"]) fun _ _ _ _ _ _ us hl => match us, hl with | [_, _], _ => rfl
  have K7 : Known P w K mg base ⟨K, clsL [C0, C1, C2, C3, C4, 0, C6, 0, 0, 0], 0, P, w, none⟩ 4 "check_set" 2 m_check_set := known_of (k := 3) 60 F7 (PySem.W.mg_of X G a7) B7 sc_check_set cm_check_set rfl rfl rfl bn ⟨K6.up, K1.up, trivial⟩ ⟨E2, trivial⟩ trivial
  have B8 := F8.binds (ps := ["size", "some"]) fun _ _ _ _ _ _ us hl => match us, hl with | [_, _], _ => rfl
  have K8 : Known P w K mg base ⟨K, clsL [C0, C1, C2, C3, C4, 0, C6, 0, 0, 0], 0, P, w, none⟩ 5 "check_free" 2 m_check_free := known_of (k := 4) 60 F8 (PySem.W.mg_of X G a8) B8 sc_check_free cm_check_free rfl rfl rfl bn ⟨K5.up, K7.up, trivial⟩ ⟨E6, trivial⟩ trivial
  have B9 := F9.binds (ps := ["size", "some"]) fun _ _ _ _ _ _ us hl => match us, hl with | [_, _], _ => rfl
  have K9 : Known P w K mg base ⟨K, clsL [C0, C1, C2, C3, C4, 0, C6, 0, 0, 0], 0, P, w, none⟩ 2 "open_list" 2 m_open_list := known_of (k := 1) 60 F9 (PySem.W.mg_of X G a9) B9 sc_open_list cm_open_list rfl rfl rfl bn ⟨K3.up, K4.up, trivial⟩ trivial trivial
  have B10 := F10.binds (ps := ["size", "some"]) fun _ _ _ _ _ _ us hl => match us, hl with | [_, _], _ => rfl
  have K10 : Known P w K mg base ⟨K, clsL [C0, C1, C2, C3, C4, 0, C6, 0, 0, 0], 0, P, w, none⟩ 6 "open_places" 2 m_open_places := known_of (k := 5) 60 F10 (PySem.W.mg_of X G a10) B10 sc_open_places cm_open_places rfl rfl rfl bn ⟨K9.up, K8.up, trivial⟩ trivial trivial
  have B11 := F11.binds (ps := ["size", "some"]) fun _ _ _ _ _ _ us hl => match us, hl with | [_, _], _ => rfl
  have K11 : Known P w K mg base ⟨K, clsL [C0, C1, C2, C3, C4, 0, C6, 0, 0, 0], 0, P, w, none⟩ 6 "is_complete" 2 m_is_complete := known_of (k := 5) 60 F11 (PySem.W.mg_of X G a11) B11 sc_is_complete cm_is_complete rfl rfl rfl bn ⟨K9.up, K8.up, trivial⟩ trivial trivial
  have B12 := F12.binds (ps := ["size", "some"]) fun _ _ _ _ _ _ us hl => match us, hl with | [_, _], _ => rfl
  have K12 : Known P w K mg base ⟨K, clsL [C0, C1, C2, C3, C4, 0, C6, 0, 0, 0], 0, P, w, none⟩ 6 "completed" 2 m_completed := known_of (k := 5) 60 F12 (PySem.W.mg_of X G a12) B12 sc_completed cm_completed rfl rfl rfl bn ⟨K9.up, K8.up, trivial⟩ trivial trivial
  have B13 := F13.binds (ps := ["size", "count"]) fun _ _ _ _ _ _ us hl => match us, hl with | [_, _], _ => rfl
  have K13 : Known P w K mg base ⟨K, clsL [C0, C1, C2, C3, C4, 0, C6, 0, 0, 0], 0, P, w, none⟩ 3 "free_sets" 2 m_free_sets := known_of (k := 2) 60 F13 (PySem.W.mg_of X G a13) B13 sc_free_sets cm_free_sets rfl rfl rfl bn ⟨K9.up, K0.up, trivial⟩ ⟨E4, E0, trivial⟩ trivial
  have B14 := F14.binds (ps := ["some", "place"]) fun _ _ _ _ _ _ us hl => match us, hl with | [_, _], _ => rfl
  have K14 : Known P w K mg base ⟨K, clsL [C0, C1, C2, C3, C4, 0, C6, 0, 0, 0], 0, P, w, none⟩ 1 "added" 2 m_added := known_of (k := 0) 60 F14 (PySem.W.mg_of X G a14) B14 sc_added cm_added rfl rfl rfl bn trivial trivial trivial
  have B15 := F15.binds (ps := ["size", "some", "place"]) fun _ _ _ _ _ _ us hl => match us, hl with | [_, _, _], _ => rfl
  have K15 : Known P w K mg base ⟨K, clsL [C0, C1, C2, C3, C4, 0, C6, 0, 0, 0], 0, P, w, none⟩ 5 "add_place" 3 m_add_place := known_of (k := 4) 60 F15 (PySem.W.mg_of X G a15) B15 sc_add_place cm_add_place rfl rfl rfl bn ⟨K14.up, K2.up, K7.up, trivial⟩ ⟨E1, trivial⟩ trivial
  have B16 := F16.binds (ps := ["some"]) fun _ _ _ _ _ _ us hl => match us, hl with | [_], _ => rfl
  have K16 : Known P w K mg base ⟨K, clsL [C0, C1, C2, C3, C4, 0, C6, 0, 0, 0], 0, P, w, none⟩ 1 "doubled" 1 m_doubled := known_of (k := 0) 60 F16 (PySem.W.mg_of X G a16) B16 sc_doubled cm_doubled rfl rfl rfl bn trivial trivial trivial
  have B17 := F17.binds (ps := ["size", "some"]) fun _ _ _ _ _ _ us hl => match us, hl with | [_, _], _ => rfl
  have K17 : Known P w K mg base ⟨K, clsL [C0, C1, C2, C3, C4, 0, C6, 0, 0, 0], 0, P, w, none⟩ 5 "double" 2 m_double := known_of (k := 4) 60 F17 (PySem.W.mg_of X G a17) B17 sc_double cm_double rfl rfl rfl bn ⟨K16.up, K7.up, trivial⟩ trivial trivial
  have B18 := F18.binds (ps := ["size", "i", "j"]) fun _ _ _ _ _ _ us hl => match us, hl with | [_, _, _], _ => rfl
  have K18 : Known P w K mg base ⟨K, clsL [C0, C1, C2, C3, C4, 0, C6, 0, 0, 0], 0, P, w, none⟩ 2 "check_positions" 3 m_check_positions := known_of (k := 1) 60 F18 (PySem.W.mg_of X G a18) B18 sc_check_positions cm_check_positions rfl rfl rfl bn ⟨K0.up, trivial⟩ ⟨E3, trivial⟩ trivial
  have B19 := F19.binds (ps := ["place", "j", "value"]) fun _ _ _ _ _ _ us hl => match us, hl with | [_, _, _], _ => rfl
  have K19 : Known P w K mg base ⟨K, clsL [C0, C1, C2, C3, C4, 0, C6, 0, 0, 0], 0, P, w, none⟩ 1 "put" 3 m_put := known_of (k := 0) 60 F19 (PySem.W.mg_of X G a19) B19 sc_put cm_put rfl rfl rfl bn trivial trivial trivial
  have B20 := F20.binds (ps := ["some", "i", "j"]) fun _ _ _ _ _ _ us hl => match us, hl with | [_, _, _], _ => rfl
  have K20 : Known P w K mg base ⟨K, clsL [C0, C1, C2, C3, C4, 0, C6, 0, 0, 0], 0, P, w, none⟩ 2 "exchanged" 3 m_exchanged := known_of (k := 1) 60 F20 (PySem.W.mg_of X G a20) B20 sc_exchanged cm_exchanged rfl rfl rfl bn ⟨K19.up, trivial⟩ trivial trivial
  have B21 := F21.binds (ps := ["size", "some", "i", "j"]) fun _ _ _ _ _ _ us hl => match us, hl with | [_, _, _, _], _ => rfl
  have K21 : Known P w K mg base ⟨K, clsL [C0, C1, C2, C3, C4, 0, C6, 0, 0, 0], 0, P, w, none⟩ 5 "exchange" 4 m_exchange := known_of (k := 4) 60 F21 (PySem.W.mg_of X G a21) B21 sc_exchange cm_exchange rfl rfl rfl bn ⟨K20.up, K18.up, K7.up, trivial⟩ trivial trivial
  have B22 := F22.binds (ps := ["some", "i", "j"]) fun _ _ _ _ _ _ us hl => match us, hl with | [_, _, _], _ => rfl
  have K22 : Known P w K mg base ⟨K, clsL [C0, C1, C2, C3, C4, 0, C6, 0, 0, 0], 0, P, w, none⟩ 2 "position_added" 3 m_position_added := known_of (k := 1) 60 F22 (PySem.W.mg_of X G a22) B22 sc_position_added cm_position_added rfl rfl rfl bn ⟨K19.up, trivial⟩ trivial trivial
  have B23 := F23.binds (ps := ["size", "some", "i", "j"]) fun _ _ _ _ _ _ us hl => match us, hl with | [_, _, _, _], _ => rfl
  have K23 : Known P w K mg base ⟨K, clsL [C0, C1, C2, C3, C4, 0, C6, 0, 0, 0], 0, P, w, none⟩ 5 "add_position" 4 m_add_position := known_of (k := 4) 60 F23 (PySem.W.mg_of X G a23) B23 sc_add_position cm_add_position rfl rfl rfl bn ⟨K22.up, K18.up, K7.up, trivial⟩ trivial trivial
  have B24 := F24.binds (ps := ["some"]) fun _ _ _ _ _ _ us hl => match us, hl with | [_], _ => rfl
  have K24 : Known P w K mg base ⟨K, clsL [C0, C1, C2, C3, C4, 0, C6, 0, 0, 0], 0, P, w, none⟩ 3 "alike_to" 1 m_alike_to := known_of (k := 2) 60 F24 (PySem.W.mg_of X G a24) B24 sc_alike_to cm_alike_to rfl rfl rfl bn ⟨K22.up, K20.up, K16.up, K14.up, trivial⟩ trivial trivial
  have B25 := F25.binds (ps := ["some"]) fun _ _ _ _ _ _ us hl => match us, hl with | [_], _ => rfl
  have K25 : Known P w K mg base ⟨K, clsL [C0, C1, C2, C3, C4, 0, C6, 0, 0, 0], 0, P, w, none⟩ 4 "check_flat" 1 m_check_flat := known_of (k := 3) 60 F25 (PySem.W.mg_of X G a25) B25 sc_check_flat cm_check_flat rfl rfl rfl bn ⟨K6.up, trivial⟩ ⟨E2, trivial⟩ trivial
  have B26 := F26.binds (ps := ["some"]) fun _ _ _ _ _ _ us hl => match us, hl with | [_], _ => rfl
  have K26 : Known P w K mg base ⟨K, clsL [C0, C1, C2, C3, C4, 0, C6, 0, 0, 0], 0, P, w, none⟩ 5 "kind" 1 m_kind := known_of (k := 4) 60 F26 (PySem.W.mg_of X G a26) B26 sc_kind cm_kind rfl rfl rfl bn ⟨K24.up, K25.up, trivial⟩ trivial trivial
  have B27 := F27.binds (ps := ["one", "other"]) fun _ _ _ _ _ _ us hl => match us, hl with | [_, _], _ => rfl
  have K27 : Known P w K mg base ⟨K, clsL [C0, C1, C2, C3, C4, 0, C6, 0, 0, 0], 0, P, w, none⟩ 5 "are_alike" 2 m_are_alike := known_of (k := 4) 60 F27 (PySem.W.mg_of X G a27) B27 sc_are_alike cm_are_alike rfl rfl rfl bn ⟨K24.up, K25.up, trivial⟩ trivial trivial
  have B28 := F28.binds (ps := ["script", "k"]) fun _ _ _ _ _ _ us hl => match us, hl with | [_, _], _ => rfl
  have K28 : Known P w K mg base ⟨K, clsL [C0, C1, C2, C3, C4, 0, C6, 0, 0, 0], 0, P, w, none⟩ 1 "_law_cell_at" 2 m__law_cell_at := known_of (k := 0) 60 F28 (PySem.W.mg_of X G a28) B28 sc__law_cell_at cm__law_cell_at rfl rfl rfl bn trivial trivial trivial
  have B29 := F29.binds (ps := ["script", "k", "many"]) fun _ _ _ _ _ _ us hl => match us, hl with | [_, _, _], _ => rfl
  have K29 : Known P w K mg base ⟨K, clsL [C0, C1, C2, C3, C4, 0, C6, 0, 0, 0], 0, P, w, none⟩ 2 "_law_mixed" 3 m__law_mixed := known_of (k := 1) 60 F29 (PySem.W.mg_of X G a29) B29 sc__law_mixed cm__law_mixed rfl rfl rfl bn ⟨K28.up, trivial⟩ trivial trivial
  have B30 := F30.binds (ps := ["script", "town", "many"]) fun _ _ _ _ _ _ us hl => match us, hl with | [_, _, _], _ => rfl
  have K30 : Known P w K mg base ⟨K, clsL [C0, C1, C2, C3, C4, 0, C6, 0, 0, 0], 0, P, w, none⟩ 3 "_law_draw" 3 m__law_draw := known_of (k := 2) 60 F30 (PySem.W.mg_of X G a30) B30 sc__law_draw cm__law_draw rfl rfl rfl bn ⟨K29.up, trivial⟩ trivial trivial
  have B31 := F31.binds (ps := ["script", "town", "some"]) fun _ _ _ _ _ _ us hl => match us, hl with | [_, _, _], _ => rfl
  have K31 : Known P w K mg base ⟨K, clsL [C0, C1, C2, C3, C4, 0, C6, 0, 0, 0], 0, P, w, none⟩ 4 "_law_pick" 3 m__law_pick := known_of (k := 3) 60 F31 (PySem.W.mg_of X G a31) B31 sc__law_pick cm__law_pick rfl rfl rfl bn ⟨K30.up, trivial⟩ trivial trivial
  have B32 := F32.binds (ps := ["size"]) fun _ _ _ _ _ _ us hl => match us, hl with | [_], _ => rfl
  have K32 : Known P w K mg base ⟨K, clsL [C0, C1, C2, C3, C4, 0, C6, 0, 0, 0], 0, P, w, none⟩ 1 "_law_grid" 1 m__law_grid := known_of (k := 0) 60 F32 (PySem.W.mg_of X G a32) B32 sc__law_grid cm__law_grid rfl rfl rfl bn trivial trivial trivial
  refine FnOk.imp ?_ (spL_of (z := ⟨K, clsL [C0, C1, C2, C3, C4, 0, C6, 0, 0, 0], 0, P, w, none⟩) law_k18_true)
  exact def_ok (z := ⟨K, clsL [C0, C1, C2, C3, C4, 0, C6, 0, 0, 0], 0, P, w, none⟩) (k := 6) 60 F33 sc_law_k18 cm_law_k18 rfl rfl rfl bn ⟨K26.up, K12.up, K27.up, K23.up, K10.up, K17.up, K21.up, K11.up, K15.up, K31.up, K32.up, K13.up, K30.up, trivial⟩ trivial trivial
end FL

open PySem PySem.W PyProof.Rows
set_option maxRecDepth 100000 in
set_option maxHeartbeats 0 in
theorem PySem.Challenge.cw_linefree_k18_whole_free_sets_and_moves_holds : PySem.Challenge.rw_linefree_k18_whole_free_sets_and_moves.Holds := by
  w_on; o_law; k_head; (case hw => w_witness2)
  k_fill
  refine FL.walk (l := PySem.Challenge.rw_linefree_k18_whole_free_sets_and_moves) (k := 7) ⟨rfl, by decide, by decide⟩ rfl rfl (fun w h Y => PySem.W.kIn_of Y) ?F
  case F =>
    intro w mg fa h KX G hmg
    refine' FL.all_mk KX G hmg ?hgL ?hg0 ?hx0 ?hg1 ?hx1 ?hg2 ?hx2 ?hg3 ?hx3 ?hg4 ?hx4 ?hg6 ?hx6 ?a0 ?l0 ?c0 ?k0 ?a1 ?l1 ?c1 ?k1 ?a2 ?l2 ?c2 ?k2 ?a3 ?l3 ?c3 ?k3 ?a4 ?l4 ?c4 ?k4 ?a5 ?l5 ?c5 ?k5 ?a6 ?l6 ?c6 ?k6 ?a7 ?l7 ?c7 ?k7 ?a8 ?l8 ?c8 ?k8 ?a9 ?l9 ?c9 ?k9 ?a10 ?l10 ?c10 ?k10 ?a11 ?l11 ?c11 ?k11 ?a12 ?l12 ?c12 ?k12 ?a13 ?l13 ?c13 ?k13 ?a14 ?l14 ?c14 ?k14 ?a15 ?l15 ?c15 ?k15 ?a16 ?l16 ?c16 ?k16 ?a17 ?l17 ?c17 ?k17 ?a18 ?l18 ?c18 ?k18 ?a19 ?l19 ?c19 ?k19 ?a20 ?l20 ?c20 ?k20 ?a21 ?l21 ?c21 ?k21 ?a22 ?l22 ?c22 ?k22 ?a23 ?l23 ?c23 ?k23 ?a24 ?l24 ?c24 ?k24 ?a25 ?l25 ?c25 ?k25 ?a26 ?l26 ?c26 ?k26 ?a27 ?l27 ?c27 ?k27 ?a28 ?l28 ?c28 ?k28 ?a29 ?l29 ?c29 ?k29 ?a30 ?l30 ?c30 ?k30 ?a31 ?l31 ?c31 ?k31 ?a32 ?l32 ?c32 ?k32 ?a33 ?l33 ?c33 ?k33 ?z0 ?z1 ?z2 ?z3 ?z4 ?z5 ?z6 ?z7 ?z8 ?z9 ?z10 ?z11 ?z12 ?z13 ?z14 ?z15 ?z16
    (case hgL => k_is)
    (case hg0 => k_is)
    (case hx0 => kernel_rfl)
    (case hg1 => k_is)
    (case hx1 => kernel_rfl)
    (case hg2 => k_is)
    (case hx2 => kernel_rfl)
    (case hg3 => k_is)
    (case hx3 => kernel_rfl)
    (case hg4 => k_is)
    (case hx4 => kernel_rfl)
    (case hg6 => k_is)
    (case hx6 => kernel_rfl)
    (case a0 => k_is)
    (case l0 => k_is)
    (case c0 => k_is)
    (case k0 => k_is)
    (case a1 => k_is)
    (case l1 => k_is)
    (case c1 => k_is)
    (case k1 => k_is)
    (case a2 => k_is)
    (case l2 => k_is)
    (case c2 => k_is)
    (case k2 => k_is)
    (case a3 => k_is)
    (case l3 => k_is)
    (case c3 => k_is)
    (case k3 => k_is)
    (case a4 => k_is)
    (case l4 => k_is)
    (case c4 => k_is)
    (case k4 => k_is)
    (case a5 => k_is)
    (case l5 => k_is)
    (case c5 => k_is)
    (case k5 => k_is)
    (case a6 => k_is)
    (case l6 => k_is)
    (case c6 => k_is)
    (case k6 => k_is)
    (case a7 => k_is)
    (case l7 => k_is)
    (case c7 => k_is)
    (case k7 => k_is)
    (case a8 => k_is)
    (case l8 => k_is)
    (case c8 => k_is)
    (case k8 => k_is)
    (case a9 => k_is)
    (case l9 => k_is)
    (case c9 => k_is)
    (case k9 => k_is)
    (case a10 => k_is)
    (case l10 => k_is)
    (case c10 => k_is)
    (case k10 => k_is)
    (case a11 => k_is)
    (case l11 => k_is)
    (case c11 => k_is)
    (case k11 => k_is)
    (case a12 => k_is)
    (case l12 => k_is)
    (case c12 => k_is)
    (case k12 => k_is)
    (case a13 => k_is)
    (case l13 => k_is)
    (case c13 => k_is)
    (case k13 => k_is)
    (case a14 => k_is)
    (case l14 => k_is)
    (case c14 => k_is)
    (case k14 => k_is)
    (case a15 => k_is)
    (case l15 => k_is)
    (case c15 => k_is)
    (case k15 => k_is)
    (case a16 => k_is)
    (case l16 => k_is)
    (case c16 => k_is)
    (case k16 => k_is)
    (case a17 => k_is)
    (case l17 => k_is)
    (case c17 => k_is)
    (case k17 => k_is)
    (case a18 => k_is)
    (case l18 => k_is)
    (case c18 => k_is)
    (case k18 => k_is)
    (case a19 => k_is)
    (case l19 => k_is)
    (case c19 => k_is)
    (case k19 => k_is)
    (case a20 => k_is)
    (case l20 => k_is)
    (case c20 => k_is)
    (case k20 => k_is)
    (case a21 => k_is)
    (case l21 => k_is)
    (case c21 => k_is)
    (case k21 => k_is)
    (case a22 => k_is)
    (case l22 => k_is)
    (case c22 => k_is)
    (case k22 => k_is)
    (case a23 => k_is)
    (case l23 => k_is)
    (case c23 => k_is)
    (case k23 => k_is)
    (case a24 => k_is)
    (case l24 => k_is)
    (case c24 => k_is)
    (case k24 => k_is)
    (case a25 => k_is)
    (case l25 => k_is)
    (case c25 => k_is)
    (case k25 => k_is)
    (case a26 => k_is)
    (case l26 => k_is)
    (case c26 => k_is)
    (case k26 => k_is)
    (case a27 => k_is)
    (case l27 => k_is)
    (case c27 => k_is)
    (case k27 => k_is)
    (case a28 => k_is)
    (case l28 => k_is)
    (case c28 => k_is)
    (case k28 => k_is)
    (case a29 => k_is)
    (case l29 => k_is)
    (case c29 => k_is)
    (case k29 => k_is)
    (case a30 => k_is)
    (case l30 => k_is)
    (case c30 => k_is)
    (case k30 => k_is)
    (case a31 => k_is)
    (case l31 => k_is)
    (case c31 => k_is)
    (case k31 => k_is)
    (case a32 => k_is)
    (case l32 => k_is)
    (case c32 => k_is)
    (case k32 => k_is)
    (case a33 => k_is)
    (case l33 => k_is)
    (case c33 => k_is)
    (case k33 => k_is)
    (case z0 => k_is)
    (case z1 => k_is)
    (case z2 => k_is)
    (case z3 => k_is)
    (case z4 => k_is)
    (case z5 => k_is)
    (case z6 => k_is)
    (case z7 => k_is)
    (case z8 => k_is)
    (case z9 => k_is)
    (case z10 => k_is)
    (case z11 => k_is)
    (case z12 => k_is)
    (case z13 => k_is)
    (case z14 => k_is)
    (case z15 => k_is)
    (case z16 => k_is)
