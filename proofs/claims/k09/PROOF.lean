import PyProof.Rows.All
import HandS.ForMost
import HandS.Exc
import HandS.TryOnly
import HandS.ExcOwn
import HandS.WordsExc
import HandS.TupAny
import HandS.IsInst
import HandS.Deep
import HandS.Wide
import HandS.More
import HandS.Conv
import HandS.ExcIs
import PySem.Challenge.RW_pinsalone_k09_hidden_flaws
set_option Elab.async false
set_option linter.all false
set_option maxRecDepth 100000
set_option maxHeartbeats 4000000
namespace PV
open PySem PySem.Spec PyProof.Rows L2

abbrev D := PyData
/-- a reference, nothing more -/
def rawD (a : Addr) : PyData := .dict [(.none, .int (a : Nat))]
abbrev Hp := L2.Hp
abbrev St := L2.St

def kD : Key → D
  | .inl i => .int i
  | .inr x => .str x

/-! ### data that stands still -/
mutual
inductive Fz (K : PySem.W.Frag) (H : Hp) : V → D → Prop
  | non : Fz K H .non .none
  | bl (b : Bool) : Fz K H (.bl b) (.bool b)
  | int (i : Int) : Fz K H (.int i) (.int i)
  | str (x : Str) : Fz K H (.str x) (.str x)
  | lst {a : Addr} {xs : List V} {ds : List D} : H a = some (.lst xs) → FzAll K H xs ds → Fz K H (.ref a) (.list ds)
  /-- the script -/
  | scr {a : Addr} (ns : List Int) : SqL K H a (ns.map V.int) → Fz K H (.ref a) (.dict [(.none, .list (ns.map .int))])
  | tup {a : Addr} {xs : List V} {ds : List D} : SqT K H a xs → FzAll K H xs ds → Fz K H (.ref a) (.tuple ds)
  | raw (a : Addr) : Fz K H (.ref a) (rawD a)
  | dK {a : Addr} {kvs : List (Key × V)} {ds : List D} : H a = some (.dK kvs) → FzAll K H (kvs.map (·.2)) ds → Fz K H (.ref a) (.dict ((kvs.map fun p => kD p.1).zip ds))
inductive FzAll (K : PySem.W.Frag) (H : Hp) : List V → List D → Prop
  | nil : FzAll K H [] []
  | cons {v : V} {vs : List V} {d : D} {ds : List D} : Fz K H v d → FzAll K H vs ds → FzAll K H (v :: vs) (d :: ds)
end

theorem Same.rd {H H' : Hp} {a : Addr} {u : HO} (e : Same H H') (h : Rd H a u) : Rd H' a u := by
  rcases h with h | ⟨o, h⟩
  · exact .inl (e _ _ h)
  · exact .inr ⟨o, e _ _ h⟩
theorem Same.seqT {K : PySem.W.Frag} {H H' : Hp} {a : Addr} {xs : List V} (e : Same H H') (h : SqT K H a xs) : SqT K H' a xs := by
  rcases h with (h | ⟨o, h⟩) | h
  · exact .inl (.inl (e _ _ h))
  · exact .inl (.inr ⟨o, e _ _ h⟩)
  · exact .inr h
mutual
theorem Fz.mono {K : PySem.W.Frag} {H H' : Hp} (s : Same H H') : ∀ {v : V} {d : D}, Fz K H v d → Fz K H' v d
  | _, _, .non => .non
  | _, _, .bl b => .bl b
  | _, _, .int i => .int i
  | _, _, .str x => .str x
  | _, _, .lst h r => .lst (s _ _ h) (FzAll.mono s r)
  | _, _, .scr ns h => .scr ns (s.seq h)
  | _, _, .tup h r => .tup (Same.seqT s h) (FzAll.mono s r)
  | _, _, .raw a => .raw a
  | _, _, .dK h r => .dK (s _ _ h) (FzAll.mono s r)
theorem FzAll.mono {K : PySem.W.Frag} {H H' : Hp} (s : Same H H') : ∀ {v : List V} {d : List D}, FzAll K H v d → FzAll K H' v d
  | _, _, .nil => .nil
  | _, _, .cons h r => .cons (Fz.mono s h) (FzAll.mono s r)
end
theorem FzAll.length {K : PySem.W.Frag} {H : Hp} : ∀ {vs : List V} {ds : List D}, FzAll K H vs ds → vs.length = ds.length
  | _, _, .nil => rfl
  | _, _, .cons _ r => congrArg (· + 1) r.length
theorem FzAll.get {K : PySem.W.Frag} {H : Hp} : ∀ {vs : List V} {ds : List D} {i : Nat} {d : D}, FzAll K H vs ds → ds[i]? = some d → ∃ v, vs[i]? = some v ∧ Fz K H v d
  | _, _, _, _, .nil, e => by simp at e
  | _, _, 0, _, .cons h _, e => by
    simp at e
    subst e
    exact ⟨_, rfl, h⟩
  | _, _, i + 1, _, .cons _ r, e => r.get (i := i) (by simpa using e)
theorem FzAll.append {K : PySem.W.Frag} {H : Hp} : ∀ {vs ws : List V} {ds es : List D}, FzAll K H vs ds → FzAll K H ws es → FzAll K H (vs ++ ws) (ds ++ es)
  | _, _, _, _, .nil, s => s
  | _, _, _, _, .cons h r, s => .cons h (r.append s)
theorem FzAll.take {K : PySem.W.Frag} {H : Hp} : ∀ {vs : List V} {ds : List D} (n : Nat), FzAll K H vs ds → FzAll K H (vs.take n) (ds.take n)
  | _, _, 0, _ => .nil
  | _, _, _ + 1, .nil => .nil
  | _, _, n + 1, .cons h r => .cons h (r.take n)
theorem FzAll.drop {K : PySem.W.Frag} {H : Hp} : ∀ {vs : List V} {ds : List D} (n : Nat), FzAll K H vs ds → FzAll K H (vs.drop n) (ds.drop n)
  | _, _, 0, r => r
  | _, _, _ + 1, .nil => .nil
  | _, _, n + 1, .cons _ r => r.drop n
theorem FzAll.eraseIdx {K : PySem.W.Frag} {H : Hp} : ∀ {vs : List V} {ds : List D} (i : Nat), FzAll K H vs ds → FzAll K H (vs.eraseIdx i) (ds.eraseIdx i)
  | _, _, _, .nil => .nil
  | _, _, 0, .cons _ t => t
  | _, _, i + 1, .cons r t => .cons r (t.eraseIdx i)
theorem FzAll.set {K : PySem.W.Frag} {H : Hp} {v : V} {d : D} (h : Fz K H v d) : ∀ {vs : List V} {ds : List D} (i : Nat), FzAll K H vs ds → FzAll K H (vs.set i v) (ds.set i d)
  | _, _, _, .nil => .nil
  | _, _, 0, .cons _ t => .cons h t
  | _, _, i + 1, .cons r t => .cons r (FzAll.set h i t)
theorem FzAll.reverse {K : PySem.W.Frag} {H : Hp} {vs : List V} {ds : List D} (h : FzAll K H vs ds) : FzAll K H vs.reverse ds.reverse := by
  induction vs generalizing ds with
  | nil => cases h; exact .nil
  | cons v vs ih =>
    cases h with
    | cons h r => rw [List.reverse_cons, List.reverse_cons]; exact (ih r).append (.cons h .nil)
theorem FzAll.ints {K : PySem.W.Frag} {H : Hp} : ∀ {vs : List V} {ns : List Int}, FzAll K H vs (ns.map .int) → vs = ns.map V.int
  | _, [], .nil => rfl
  | _, _ :: _, .cons (.int _) r => by rw [List.map_cons, r.ints]
theorem FzAll.of_ints {K : PySem.W.Frag} {H : Hp} : ∀ (ns : List Int), FzAll K H (ns.map V.int) (ns.map .int)
  | [] => .nil
  | n :: ns => .cons (.int n) (of_ints ns)
theorem FzAll.bools {K : PySem.W.Frag} {H : Hp} : ∀ {vs : List V} {ns : List Bool}, FzAll K H vs (ns.map .bool) → vs = ns.map V.bl
  | _, [], .nil => rfl
  | _, _ :: _, .cons (.bl _) r => by rw [List.map_cons, r.bools]
theorem FzAll.strs {K : PySem.W.Frag} {H : Hp} : ∀ {vs : List V} {ns : List Str}, FzAll K H vs (ns.map .str) → vs = ns.map V.str
  | _, [], .nil => rfl
  | _, _ :: _, .cons (.str _) r => by rw [List.map_cons, r.strs]
mutual
theorem Fz.dp {K : PySem.W.Frag} {H : Hp} : ∀ {v : V} {d : D}, Fz K H v d → d.canLay0 = true → Dp K H v d
  | _, _, .non, _ => .non
  | _, _, .bl b, _ => .bl b
  | _, _, .int i, _ => .int i
  | _, _, .str x, _ => .str x
  | _, _, .lst h r, c => .lst (.inl (.inl h)) (FzAll.dp r c)
  | _, _, .scr _ _, c => nomatch c
  | _, _, .tup h r, c => .tup h (FzAll.dp r c)
  | _, _, .raw _, c => nomatch c
  | _, _, .dK _ _, c => nomatch c
theorem FzAll.dp {K : PySem.W.Frag} {H : Hp} : ∀ {v : List V} {d : List D}, FzAll K H v d → PyData.canLayAll0 d = true → DpAll K H v d
  | _, _, .nil, _ => .nil
  | _, _, .cons h r, c => by
    have c' := Bool.and_eq_true_iff.mp (show (_ && _) = true from c)
    exact .cons (Fz.dp h c'.1) (FzAll.dp r c'.2)
end

/-! ### owned data -/
inductive Sh where
  | z | l (s : Sh) | d (s : Sh)
  deriving DecidableEq
inductive OwnL (R : V → D → List Addr → Prop) : List V → List D → List Addr → Prop
  | nil : OwnL R [] [] []
  | cons {v : V} {d : D} {A : List Addr} {vs : List V} {ds : List D} {B : List Addr} : R v d A → OwnL R vs ds B → OwnL R (v :: vs) (d :: ds) (A ++ B)
def Own (K : PySem.W.Frag) (Hf H : Hp) : Sh → V → D → List Addr → Prop
  | .z, v, d, A => A = [] ∧ Fz K Hf v d
  | .l s, v, d, A => ∃ a vs ds B, v = .ref a ∧ d = .list ds ∧ H a = some (.lst vs) ∧ OwnL (Own K Hf H s) vs ds B ∧ A = a :: B
  | .d s, v, d, A => ∃ a kvs ds B, v = .ref a ∧ d = .dict ((kvs.map fun p => kD p.1).zip ds) ∧ H a = some (.dK kvs) ∧ OwnL (Own K Hf H s) (kvs.map (·.2)) ds B ∧ A = a :: B
section
variable {K : PySem.W.Frag} {Hf Hf' H H' : Hp}
theorem OwnL.imp {R R' : V → D → List Addr → Prop} : ∀ {vs : List V} {ds : List D} {A : List Addr}, OwnL R vs ds A → (∀ v d B, (∀ a ∈ B, a ∈ A) → R v d B → R' v d B) → OwnL R' vs ds A
  | _, _, _, .nil, _ => .nil
  | _, _, _, .cons h r, f => .cons (f _ _ _ (fun a ha => List.mem_append_left _ ha) h) (r.imp fun v d B hB => f v d B fun a ha => List.mem_append_right _ (hB a ha))
theorem OwnL.append {R : V → D → List Addr → Prop} : ∀ {vs ws : List V} {ds es : List D} {A B : List Addr}, OwnL R vs ds A → OwnL R ws es B → OwnL R (vs ++ ws) (ds ++ es) (A ++ B)
  | _, _, _, _, _, _, .nil, s => s
  | _, _, _, _, _, _, .cons h r, s => by rw [List.append_assoc]; exact .cons h (r.append s)
theorem OwnL.length {R : V → D → List Addr → Prop} : ∀ {vs : List V} {ds : List D} {A : List Addr}, OwnL R vs ds A → vs.length = ds.length
  | _, _, _, .nil => rfl
  | _, _, _, .cons _ r => congrArg (· + 1) r.length
/-- what is owned stands as long as its footprint does -/
theorem Own.keep (sf : Same Hf Hf') : ∀ {s : Sh} {v : V} {d : D} {A : List Addr}, Own K Hf H s v d A → (∀ a ∈ A, H' a = H a) → Own K Hf' H' s v d A
  | .z, _, _, _, h, _ => ⟨h.1, h.2.mono sf⟩
  | .l s, _, _, _, ⟨a, vs, ds, B, e1, e2, e3, r, e4⟩, k =>
    ⟨a, vs, ds, B, e1, e2, (k a (by rw [e4]; exact List.mem_cons_self)).trans e3, r.imp fun v d C hC h => Own.keep sf h fun b hb => k b (by rw [e4]; exact List.mem_cons_of_mem _ (hC b hb)), e4⟩
  | .d s, _, _, _, ⟨a, kvs, ds, B, e1, e2, e3, r, e4⟩, k =>
    ⟨a, kvs, ds, B, e1, e2, (k a (by rw [e4]; exact List.mem_cons_self)).trans e3, r.imp fun v d C hC h => Own.keep sf h fun b hb => k b (by rw [e4]; exact List.mem_cons_of_mem _ (hC b hb)), e4⟩
mutual
/-- frozen -/
theorem Own.fz (sf : Same Hf Hf') : ∀ {s : Sh} {v : V} {d : D} {A : List Addr}, Own K Hf H s v d A → (∀ a ∈ A, Hf' a = H a) → Fz K Hf' v d
  | .z, _, _, _, h, _ => h.2.mono sf
  | .l s, _, _, _, ⟨a, vs, ds, B, e1, e2, e3, r, e4⟩, k => by
    subst e1 e2
    exact .lst ((k a (by rw [e4]; exact List.mem_cons_self)).trans e3) (OwnL.fz sf r fun b hb => k b (by rw [e4]; exact List.mem_cons_of_mem _ hb))
  | .d s, _, _, _, ⟨a, kvs, ds, B, e1, e2, e3, r, e4⟩, k => by
    subst e1 e2
    exact .dK ((k a (by rw [e4]; exact List.mem_cons_self)).trans e3) (OwnL.fz sf r fun b hb => k b (by rw [e4]; exact List.mem_cons_of_mem _ hb))
theorem OwnL.fz (sf : Same Hf Hf') {s : Sh} : ∀ {vs : List V} {ds : List D} {A : List Addr}, OwnL (Own K Hf H s) vs ds A → (∀ a ∈ A, Hf' a = H a) → FzAll K Hf' vs ds
  | _, _, _, .nil, _ => .nil
  | _, _, _, .cons h r, k => .cons (Own.fz sf h fun a ha => k a (List.mem_append_left _ ha)) (OwnL.fz sf r fun a ha => k a (List.mem_append_right _ ha))
end
theorem OwnL.zs : ∀ {vs : List V} {ds : List D} {A : List Addr}, OwnL (Own K Hf H .z) vs ds A → A = [] ∧ FzAll K Hf vs ds
  | _, _, _, .nil => ⟨rfl, .nil⟩
  | _, _, _, .cons h r => by
    obtain ⟨e, q⟩ := OwnL.zs r
    refine ⟨?_, .cons h.2 q⟩
    rw [h.1, e]
    rfl
theorem OwnL.of_zs : ∀ {vs : List V} {ds : List D}, FzAll K Hf vs ds → OwnL (Own K Hf H .z) vs ds []
  | _, _, .nil => .nil
  | _, _, .cons h r => .cons (A := []) ⟨rfl, h⟩ (OwnL.of_zs r)
theorem OwnL.thereL {R : V → D → List Addr → Prop} (hR : ∀ {v : V} {d : D} {A : List Addr}, R v d A → ∀ a ∈ A, H a ≠ none) : ∀ {vs : List V} {ds : List D} {A : List Addr}, OwnL R vs ds A → ∀ b ∈ A, H b ≠ none
  | _, _, _, .nil, _, hb => nomatch hb
  | _, _, _, .cons h r, b, hb => (List.mem_append.mp hb).elim (hR h b) (OwnL.thereL hR r b)
theorem Own.there : ∀ {s : Sh} {v : V} {d : D} {A : List Addr}, Own K Hf H s v d A → ∀ a ∈ A, H a ≠ none
  | .z, _, _, _, h, a, ha => by rw [h.1] at ha; cases ha
  | .l s, _, _, _, ⟨a, vs, ds, B, e1, e2, e3, r, e4⟩, b, hb => by
    rw [e4] at hb
    rcases List.mem_cons.mp hb with rfl | hb
    · rw [e3]; exact fun z => by cases z
    · exact OwnL.thereL (fun h => Own.there h) r b hb
  | .d s, _, _, _, ⟨a, kvs, ds, B, e1, e2, e3, r, e4⟩, b, hb => by
    rw [e4] at hb
    rcases List.mem_cons.mp hb with rfl | hb
    · rw [e3]; exact fun z => by cases z
    · exact OwnL.thereL (fun h => Own.there h) r b hb
end

/-! ### the state of a def -/
abbrev Va := Sh × D
abbrev Ev := List (Option Va)
structure Exc where
  c : Str
  fs : List (Str × D)
inductive Out (α : Type) where
  | ok (a : α) (Γ : Ev)
  | ex (e : Exc) (Γ : Ev)
  | st
inductive SO where
  | nx (Γ : Ev)
  | rt (x : Va) (Γ : Ev)
  | bk (Γ : Ev)
  | ct (Γ : Ev)
  | ex (e : Exc) (Γ : Ev)
  | st
inductive Res where
  | ok (x : Va)
  | ex (e : Exc)
  | st
/-- what is fixed while a def runs: what stood frozen and what was tracked at its entry, the wish about exceptions -/
structure Gh where
  K : PySem.W.Frag
  f0 : Hp
  h0 : Hp
abbrev Ow := Addr → Option (Nat ⊕ Nat)
def Has (g : Gh) (Hf H : Hp) (ω : Ow) (i : Nat ⊕ Nat) (v : V) (x : Va) : Prop := ∃ A, Own g.K Hf H x.1 v x.2 A ∧ A.Nodup ∧ ∀ a ∈ A, ω a = some i
def FrOk (g : Gh) (Hf H : Hp) (ω : Ow) : List (V × Va) → Prop
  | [] => True
  | p :: fr => Has g Hf H ω (.inr fr.length) p.1 p.2 ∧ FrOk g Hf H ω fr
structure StW (g : Gh) (Hf H : Hp) (σ : St) (Γ : Ev) (fr : List (V × Va)) (ω : Ow) : Prop where
  base : Same g.h0 H
  sub : Same Hf H
  old : Same g.f0 Hf
  new : ∀ a, Hf a ≠ none → g.f0 a ≠ none ∨ g.h0 a = none
  own : ∀ a i, ω a = some i → g.h0 a = none ∧ Hf a = none ∧ H a ≠ none
  len : Γ.length = σ.length
  slots : ∀ i x, Γ[i]? = some (some x) → ∃ v, σ[i]? = some (some v) ∧ Has g Hf H ω (.inl i) v x
  fr : FrOk g Hf H ω fr
def StOk (g : Gh) (Hf H : Hp) (σ : St) (Γ : Ev) (fr : List (V × Va)) : Prop := ∃ ω, StW g Hf H σ Γ fr ω
section
variable {g : Gh} {Hf Hf' H H' : Hp} {σ : St} {Γ : Ev} {fr : List (V × Va)} {ω ω' : Ow}
theorem Has.mono {i : Nat ⊕ Nat} {v : V} {x : Va} (h : Has g Hf H ω i v x) (sf : Same Hf Hf') (k : ∀ a, ω a = some i → H' a = H a ∧ ω' a = some i) : Has g Hf' H' ω' i v x := by
  obtain ⟨A, o, nd, q⟩ := h
  exact ⟨A, o.keep sf fun a ha => (k a (q a ha)).1, nd, fun a ha => (k a (q a ha)).2⟩
theorem FrOk.mono : ∀ {fr : List (V × Va)}, FrOk g Hf H ω fr → Same Hf Hf' → (∀ a j, j < fr.length → ω a = some (.inr j) → H' a = H a ∧ ω' a = some (.inr j)) → FrOk g Hf' H' ω' fr
  | [], _, _, _ => trivial
  | p :: fr, h, sf, k => ⟨h.1.mono sf fun a => k a _ (Nat.lt_succ_self _), FrOk.mono h.2 sf fun a j hj => k a j (Nat.lt_succ_of_lt hj)⟩
theorem FrOk.pop : ∀ {fr fr' : List (V × Va)}, FrOk g Hf H ω (fr ++ fr') → FrOk g Hf H ω fr'
  | [], _, h => h
  | _ :: fr, _, h => FrOk.pop (fr := fr) h.2
theorem StOk.pop {p : V × Va} (h : StOk g Hf H σ Γ (p :: fr)) : StOk g Hf H σ Γ fr := by
  obtain ⟨ω, h⟩ := h
  exact ⟨ω, { h with fr := h.fr.2 }⟩
theorem StOk.sub (h : StOk g Hf H σ Γ fr) : Same Hf H := h.choose_spec.sub
/-- the heap has grown -/
theorem StOk.grow (h : StOk g Hf H σ Γ fr) (s : Same H H') : StOk g Hf H' σ Γ fr := by
  obtain ⟨ω, h⟩ := h
  have k : ∀ a i, ω a = some i → H' a = H a := fun a i e => by
    have n := (h.own a i e).2.2
    cases q : H a with
    | none => exact absurd q n
    | some o => exact s a o q
  refine ⟨ω, fun b o e => s b o (h.base b o e), fun b o e => s b o (h.sub b o e), h.old, h.new, fun a i e => ⟨(h.own a i e).1, (h.own a i e).2.1, by rw [k a i e]; exact (h.own a i e).2.2⟩, h.len, fun i x e => ?_, h.fr.mono (Same.refl _) fun a j _ e => ⟨k a _ e, e⟩⟩
  obtain ⟨v, e1, q⟩ := h.slots i x e
  exact ⟨v, e1, q.mono (Same.refl _) fun a e => ⟨k a _ e, e⟩⟩
/-- the frozen part has grown by something new -/
theorem StOk.freeze (h : StOk g Hf H σ Γ fr) (s : Same H H') (f1 : Same Hf Hf') (f2 : Same Hf' H') (f3 : ∀ a, Hf' a ≠ none → Hf a ≠ none ∨ H a = none) : StOk g Hf' H' σ Γ fr := by
  obtain ⟨ω, h⟩ := h
  have k : ∀ a i, ω a = some i → H' a = H a := fun a i e => by
    have n := (h.own a i e).2.2
    cases q : H a with
    | none => exact absurd q n
    | some o => exact s a o q
  have kf : ∀ a i, ω a = some i → Hf' a = none := fun a i e => by
    cases q : Hf' a with
    | none => rfl
    | some o =>
      rcases f3 a (by rw [q]; exact fun z => nomatch z) with z | z
      · exact absurd (h.own a i e).2.1 z
      · exact absurd z (h.own a i e).2.2
  refine ⟨ω, fun b o e => s b o (h.base b o e), f2, fun b o e => f1 b o (h.old b o e), fun a n => ?_, fun a i e => ⟨(h.own a i e).1, kf a i e, by rw [k a i e]; exact (h.own a i e).2.2⟩, h.len, fun i x e => ?_, h.fr.mono f1 fun a j _ e => ⟨k a _ e, e⟩⟩
  · rcases f3 a n with z | z
    · exact h.new a z
    · exact .inr (Same.free h.base z)
  · obtain ⟨v, e1, q⟩ := h.slots i x e
    exact ⟨v, e1, q.mono f1 fun a e => ⟨k a _ e, e⟩⟩
/-- a value that stands frozen is pushed -/
theorem StOk.push (h : StOk g Hf H σ Γ fr) {v : V} {d : D} (q : Fz g.K Hf v d) : StOk g Hf H σ Γ ((v, .z, d) :: fr) := by
  obtain ⟨ω, h⟩ := h
  exact ⟨ω, { h with fr := ⟨⟨[], ⟨rfl, q⟩, List.nodup_nil, fun _ z => nomatch z⟩, h.fr⟩ }⟩
/-- the top of the frame is frozen data -/
theorem StOk.top (h : StOk g Hf H σ Γ ((v, .z, d) :: fr)) : Fz g.K Hf v d := by
  obtain ⟨ω, h⟩ := h
  obtain ⟨A, o, _⟩ := h.fr.1
  exact o.2
/-- what a value needs to be new: its owned part is new, its frozen part stands -/
structure NewV (K : PySem.W.Frag) (Hf H H' : Hp) (Hf' : Hp) (v : V) (x : Va) : Prop where
  s : Same H H'
  f1 : Same Hf Hf'
  f2 : Same Hf' H'
  f3 : ∀ a, Hf' a ≠ none → Hf a ≠ none ∨ H a = none
  o : ∃ A, Own K Hf' H' x.1 v x.2 A ∧ A.Nodup ∧ ∀ a ∈ A, H a = none ∧ Hf' a = none
/-- a new value is pushed -/
theorem StOk.pushN (h0 : StOk g Hf H σ Γ fr) {v : V} {x : Va} (n : NewV g.K Hf H H' Hf' v x) : StOk g Hf' H' σ Γ ((v, x) :: fr) := by
  obtain ⟨A, o, nd, hA⟩ := n.o
  have h1 : Same g.h0 H := by
    obtain ⟨ω, h⟩ := h0
    exact h.base
  obtain ⟨ω0, k0⟩ := id h0
  obtain ⟨ω, h⟩ := h0.freeze n.s n.f1 n.f2 n.f3
  have nA : ∀ a ∈ A, ω0 a = none := fun a ha => by
    cases q : ω0 a with
    | none => rfl
    | some i => exact absurd (hA a ha).1 (k0.own a i q).2.2
  have hw : StW g Hf' H' σ Γ fr ω0 := by
    have k : ∀ a i, ω0 a = some i → H' a = H a := fun a i e => by
      have z := (k0.own a i e).2.2
      cases q : H a with
      | none => exact absurd q z
      | some o => exact n.s a o q
    have kf : ∀ a i, ω0 a = some i → Hf' a = none := fun a i e => by
      cases q : Hf' a with
      | none => rfl
      | some o =>
        rcases n.f3 a (by rw [q]; exact fun z => nomatch z) with z | z
        · exact absurd (k0.own a i e).2.1 z
        · exact absurd z (k0.own a i e).2.2
    refine ⟨h.base, h.sub, h.old, h.new, fun a i e => ⟨(k0.own a i e).1, kf a i e, by rw [k a i e]; exact (k0.own a i e).2.2⟩, h.len, fun i x e => ?_, k0.fr.mono n.f1 fun a j _ e => ⟨k a _ e, e⟩⟩
    obtain ⟨v, e1, q⟩ := k0.slots i x e
    exact ⟨v, e1, q.mono n.f1 fun a e => ⟨k a _ e, e⟩⟩
  classical
  refine ⟨fun a => if a ∈ A then some (.inr fr.length) else ω0 a, hw.base, hw.sub, hw.old, hw.new, fun a i e => ?_, hw.len, fun i x e => ?_, ⟨⟨A, o, nd, fun a ha => if_pos ha⟩, hw.fr.mono (Same.refl _) fun a j _ e => ⟨rfl, ?_⟩⟩⟩
  · by_cases ha : a ∈ A
    · exact ⟨Same.free h1 (hA a ha).1, (hA a ha).2, o.there a ha⟩
    · simp only [if_neg ha] at e
      exact hw.own a i e
  · obtain ⟨v, e1, q⟩ := hw.slots i x e
    refine ⟨v, e1, q.mono (Same.refl _) fun a e => ⟨rfl, ?_⟩⟩
    by_cases ha : a ∈ A
    · rw [nA a ha] at e; cases e
    · simp only [if_neg ha]; exact e
  · by_cases ha : a ∈ A
    · rw [nA a ha] at e; cases e
    · simp only [if_neg ha]; exact e
/-- owner i is frozen -/
theorem StW.freezeAt (h : StW g Hf H σ Γ fr ω) (i : Nat ⊕ Nat) : ∃ (Hf' : Hp) (ω' : Ow), Same Hf Hf' ∧ (∀ a, ω a = some i → Hf' a = H a) ∧ Same Hf' H ∧ Same g.f0 Hf' ∧ (∀ a, Hf' a ≠ none → g.f0 a ≠ none ∨ g.h0 a = none) ∧ (∀ a j, ω' a = some j → g.h0 a = none ∧ Hf' a = none ∧ H a ≠ none) ∧ (∀ a j, j ≠ i → ω a = some j → ω' a = some j) := by
  classical
  refine ⟨fun a => if ω a = some i then H a else Hf a, fun a => if ω a = some i then none else ω a, fun a o e => ?_, fun a e => if_pos e, fun a o e => ?_, fun a o e => ?_, fun a n => ?_, fun a j e => ?_, fun a j hj e => ?_⟩
  · by_cases z : ω a = some i
    · rw [(h.own a i z).2.1] at e; cases e
    · simp only [if_neg z]; exact e
  · by_cases z : ω a = some i
    · simp only [if_pos z] at e; exact e
    · simp only [if_neg z] at e; exact h.sub a o e
  · by_cases z : ω a = some i
    · have := h.old a o e
      rw [(h.own a i z).2.1] at this; cases this
    · simp only [if_neg z]; exact h.old a o e
  · by_cases z : ω a = some i
    · exact .inr (h.own a i z).1
    · simp only [if_neg z] at n; exact h.new a n
  · by_cases z : ω a = some i
    · simp only [if_pos z] at e; cases e
    · simp only [if_neg z] at e
      simp only [if_neg z]
      exact h.own a j e
  · have z : ¬ ω a = some i := fun z => hj (Option.some.inj (e.symm.trans z))
    simp only [if_neg z]; exact e
/-- the top of the frame is frozen -/
theorem StOk.frz {v : V} {x : Va} (h : StOk g Hf H σ Γ ((v, x) :: fr)) : ∃ Hf', Same Hf Hf' ∧ StOk g Hf' H σ Γ ((v, .z, x.2) :: fr) := by
  obtain ⟨ω, h⟩ := h
  obtain ⟨Hf', ω', f1, f2, f3, f4, f5, f6, f7⟩ := h.freezeAt (.inr fr.length)
  obtain ⟨⟨A, o, nd, hA⟩, hr⟩ := h.fr
  refine ⟨Hf', f1, ω', h.base, f3, f4, f5, f6, h.len, fun i x e => ?_, ⟨⟨[], ⟨rfl, o.fz f1 fun a ha => f2 a (hA a ha)⟩, List.nodup_nil, fun _ z => nomatch z⟩, hr.mono f1 fun a j hj e => ⟨rfl, f7 a _ (fun z => by cases z; exact absurd hj (Nat.lt_irrefl _)) e⟩⟩⟩
  obtain ⟨v, e1, q⟩ := h.slots i x e
  exact ⟨v, e1, q.mono f1 fun a e => ⟨rfl, f7 a _ (fun z => nomatch z) e⟩⟩
/-- a slot is frozen -/
theorem StOk.frzSlot {i : Nat} {x : Va} (h : StOk g Hf H σ Γ fr) (hi : Γ[i]? = some (some x)) : ∃ Hf' v, Same Hf Hf' ∧ σ[i]? = some (some v) ∧ StOk g Hf' H σ (Γ.set i (some (.z, x.2))) ((v, .z, x.2) :: fr) := by
  obtain ⟨ω, h⟩ := h
  obtain ⟨Hf', ω', f1, f2, f3, f4, f5, f6, f7⟩ := h.freezeAt (.inl i)
  obtain ⟨v, e1, A, o, nd, hA⟩ := h.slots i x hi
  have fz : Fz g.K Hf' v x.2 := o.fz f1 fun a ha => f2 a (hA a ha)
  refine ⟨Hf', v, f1, e1, ω', h.base, f3, f4, f5, f6, by rw [List.length_set]; exact h.len, fun j y e => ?_, ⟨⟨[], ⟨rfl, fz⟩, List.nodup_nil, fun _ z => nomatch z⟩, h.fr.mono f1 fun a j _ e => ⟨rfl, f7 a _ (fun z => nomatch z) e⟩⟩⟩
  by_cases hj : i = j
  · subst hj
    rw [List.getElem?_set_self (List.getElem?_eq_some_iff.mp hi).1] at e
    cases e
    exact ⟨v, e1, [], ⟨rfl, fz⟩, List.nodup_nil, fun _ z => nomatch z⟩
  · rw [List.getElem?_set_ne hj] at e
    obtain ⟨w, e2, q⟩ := h.slots j y e
    exact ⟨w, e2, q.mono f1 fun a e => ⟨rfl, f7 a _ (fun z => by cases z; exact hj rfl) e⟩⟩
/-- the top of the frame is stored -/
theorem StOk.store {v : V} {x : Va} (h : StOk g Hf H σ Γ ((v, x) :: fr)) (i : Nat) : StOk g Hf H (σ.set i (some v)) (Γ.set i (some x)) fr := by
  obtain ⟨ω, h⟩ := h
  obtain ⟨⟨A, o, nd, hA⟩, hr⟩ := h.fr
  classical
  refine ⟨fun a => if ω a = some (.inr fr.length) then some (.inl i) else ω a, h.base, h.sub, h.old, h.new, fun a j e => ?_, by rw [List.length_set, List.length_set]; exact h.len, fun j y e => ?_, hr.mono (Same.refl _) fun a j hj e => ⟨rfl, ?_⟩⟩
  · by_cases z : ω a = some (.inr fr.length)
    · exact h.own a _ z
    · simp only [if_neg z] at e; exact h.own a j e
  · by_cases hj : i = j
    · subst hj
      have hi : i < Γ.length := by
        have := (List.getElem?_eq_some_iff.mp e).1
        simpa using this
      rw [List.getElem?_set_self hi] at e
      cases e
      refine ⟨v, List.getElem?_set_self (by rw [← h.len]; exact hi), A, o, nd, fun a ha => if_pos (hA a ha)⟩
    · rw [List.getElem?_set_ne hj] at e
      obtain ⟨w, e2, q⟩ := h.slots j y e
      refine ⟨w, by rw [List.getElem?_set_ne hj]; exact e2, q.mono (Same.refl _) fun a e => ⟨rfl, ?_⟩⟩
      have z : ¬ ω a = some (.inr fr.length) := fun z => by rw [e] at z; cases z
      simp only [if_neg z]; exact e
  · have z : ¬ ω a = some (.inr fr.length) := fun z => by
      rw [e] at z
      cases z
      exact absurd hj (Nat.lt_irrefl _)
    simp only [if_neg z]; exact e
/-- slots forgotten -/
theorem StOk.weak {σ' : St} {Γ' : Ev} (h : StOk g Hf H σ Γ fr) (hl : Γ'.length = σ'.length) (k : ∀ (i : Nat) (x : Va), Γ'[i]? = some (some x) → Γ[i]? = some (some x) ∧ σ'[i]? = σ[i]?) : StOk g Hf H σ' Γ' fr := by
  obtain ⟨ω, h⟩ := h
  refine ⟨ω, h.base, h.sub, h.old, h.new, h.own, hl, fun i x e => ?_, h.fr⟩
  obtain ⟨e1, e2⟩ := k i x e
  obtain ⟨v, q1, q2⟩ := h.slots i x e1
  exact ⟨v, by rw [e2]; exact q1, q2⟩
/-- what stands at a slot, frozen -/
theorem StOk.getZ {i : Nat} {d : D} (h : StOk g Hf H σ Γ fr) (hi : Γ[i]? = some (some (.z, d))) : ∃ v, σ[i]? = some (some v) ∧ Fz g.K Hf v d := by
  obtain ⟨ω, h⟩ := h
  obtain ⟨v, e, A, o, _⟩ := h.slots i _ hi
  exact ⟨v, e, o.2⟩
/-- the owned list at a slot -/
theorem StOk.getL {i : Nat} {s : Sh} {ds : List D} (h : StOk g Hf H σ Γ fr) (hi : Γ[i]? = some (some (.l s, .list ds))) : ∃ a vs, σ[i]? = some (some (.ref a)) ∧ H a = some (.lst vs) ∧ vs.length = ds.length := by
  obtain ⟨ω, h⟩ := h
  obtain ⟨v, e, A, o, _⟩ := h.slots i _ hi
  obtain ⟨a, vs, ds', B, e1, e2, e3, r, e4⟩ := o
  cases e2
  subst e1
  exact ⟨a, vs, e, e3, r.length⟩
/-- the owned list of frozen items at a slot is rewritten with frozen items -/
theorem StOk.mut {i : Nat} {ds ds' : List D} {a : Addr} {vs' : List V} (h : StOk g Hf H σ Γ fr) (hi : Γ[i]? = some (some (.l .z, .list ds))) (ha : σ[i]? = some (some (.ref a))) (hv : FzAll g.K Hf vs' ds') :
    StOk g Hf (upd H a (.lst vs')) σ (Γ.set i (some (.l .z, .list ds'))) fr := by
  obtain ⟨ω, h⟩ := h
  obtain ⟨v, e, A, o, nd, hA⟩ := h.slots i _ hi
  obtain ⟨a', vs, ds0, B, e1, e2, e3, r, e4⟩ := o
  rw [e] at ha
  cases ha
  cases e1
  have wa : ω a = some (.inl i) := hA a (by rw [e4]; exact List.mem_cons_self)
  have ow := h.own a _ wa
  have k : ∀ b j, j ≠ Sum.inl i → ω b = some j → upd H a (.lst vs') b = H b := fun b j hj e => upd_ne (fun z => hj (by rw [z, wa] at e; exact (Option.some.inj e).symm))
  refine ⟨ω, fun b o e => ?_, fun b o e => ?_, h.old, h.new, fun b j e => ⟨(h.own b j e).1, (h.own b j e).2.1, ?_⟩, by rw [List.length_set]; exact h.len, fun j y e' => ?_, h.fr.mono (Same.refl _) fun b j _ e => ⟨k b (.inr j) (fun z => nomatch z) e, e⟩⟩
  · rw [upd_ne (ne_of_none e ow.1)]; exact h.base b o e
  · rw [upd_ne (ne_of_none e ow.2.1)]; exact h.sub b o e
  · by_cases z : b = a
    · subst z; rw [upd_same]; exact fun z => nomatch z
    · rw [upd_ne z]; exact (h.own b j e).2.2
  · by_cases hj : i = j
    · subst hj
      rw [List.getElem?_set_self (List.getElem?_eq_some_iff.mp hi).1] at e'
      cases e'
      exact ⟨.ref a, e, [a], ⟨a, vs', ds', [], rfl, rfl, upd_same, OwnL.of_zs hv, rfl⟩, by simp, fun b hb => by rw [List.mem_singleton.mp hb]; exact wa⟩
    · rw [List.getElem?_set_ne hj] at e'
      obtain ⟨w, e2, q⟩ := h.slots j y e'
      exact ⟨w, e2, q.mono (Same.refl _) fun b e => ⟨k b _ (fun z => by cases z; exact hj rfl) e, e⟩⟩
end

/-! ### new values -/
section
variable {K : PySem.W.Frag} {Hf H : Hp}
theorem NewV.z {v : V} {d : D} (s : Same Hf H) (h : Fz K Hf v d) : NewV K Hf H H Hf v (.z, d) := ⟨Same.refl _, Same.refl _, s, fun _ n => .inl n, [], ⟨rfl, h⟩, List.nodup_nil, fun _ z => nomatch z⟩
theorem same_new {H : Hp} {p : Addr} {o : HO} (n : H p = none) : Same H (upd H p o) := fun b u e => by rw [upd_ne (ne_of_none e n)]; exact e
theorem NewV.lst {p : Addr} {vs : List V} {ds : List D} (s : Same Hf H) (n : H p = none) (h : FzAll K Hf vs ds) : NewV K Hf H (upd H p (.lst vs)) Hf (.ref p) (.l .z, .list ds) :=
  ⟨same_new n, Same.refl _, s.trans (same_new n), fun _ n => .inl n, [p], ⟨p, vs, ds, [], rfl, rfl, upd_same, OwnL.of_zs h, rfl⟩, by simp, fun a ha => by rw [List.mem_singleton.mp ha]; exact ⟨n, Same.free s n⟩⟩
theorem NewV.tup {p : Addr} {vs : List V} {ds : List D} (s : Same Hf H) (n : H p = none) (h : FzAll K Hf vs ds) : NewV K Hf H (upd H p (.tup vs)) (upd Hf p (.tup vs)) (.ref p) (.z, .tuple ds) := by
  have nf : Hf p = none := Same.free s n
  refine ⟨same_new n, same_new nf, fun b o e => ?_, fun b e => ?_, [], ⟨rfl, .tup (.inl (.inl upd_same)) (h.mono (same_new nf))⟩, List.nodup_nil, fun _ z => nomatch z⟩
  · by_cases z : b = p
    · subst z; rw [upd_same] at e ⊢; exact e
    · rw [upd_ne z] at e ⊢; exact s b o e
  · by_cases z : b = p
    · subst z; exact .inr n
    · rw [upd_ne z] at e; exact .inl e
end
end PV
namespace PV
open PySem PySem.Spec PyProof.Rows L2

/-! ### what a def computes, as plain functions -/
def Out.bind {α β : Type} (o : Out α) (k : α → Ev → Out β) : Out β := match o with
  | .ok a Γ => k a Γ
  | .ex e Γ => .ex e Γ
  | .st => .st
def Out.of {α : Type} (o : Option α) (Γ : Ev) : Out α := match o with
  | some a => .ok a Γ
  | none => .st
/-- an operand: what it gives when it is asked, and what stands there when it is used -/
structure Opn where
  f : Ev → Out D
  l : Ev → D → Option D
structure Opns where
  f : Ev → Out (List D)
  l : Ev → List D → Option (List D)
/-- the top node is read in H, what is below stands frozen -/
def Fz1 (K : PySem.W.Frag) (Hf H : Hp) (v : V) (d : D) : Prop := Fz K Hf v d ∨ ∃ a vs ds, v = .ref a ∧ d = .list ds ∧ H a = some (.lst vs) ∧ FzAll K Hf vs ds
inductive Fz1All (K : PySem.W.Frag) (Hf H : Hp) : List V → List D → Prop
  | nil : Fz1All K Hf H [] []
  | cons {v : V} {vs : List V} {d : D} {ds : List D} : Fz1 K Hf H v d → Fz1All K Hf H vs ds → Fz1All K Hf H (v :: vs) (d :: ds)
/-- .. and the module's names, the wish about exceptions -/
structure GW where
  h : Gh
  mg : Str → Option Value
  W : WX
def ExOk (g : GW) (Hf : Hp) (e : Exc) (cls : Value) (dx : Option Addr) : Prop :=
  g.mg e.c = some cls ∧ ((e.fs = [] ∧ dx = none) ∨ ∃ a fv, dx = some a ∧ Hf a = some (.xd fv) ∧ fv.map (·.1) = e.fs.map (·.1) ∧ FzAll g.h.K Hf (fv.map (·.2)) (e.fs.map (·.2)) ∧ e.fs ≠ [])
def PEx (g : GW) (Hf : Hp) (σ : St) (fr : List (V × Va)) (e : Exc) (Γ' : Ev) : Prop :=
  ∀ cls dx H' Hf', Same Hf Hf' → ExOk g Hf' e cls dx → StOk g.h Hf' H' σ Γ' fr → g.W cls dx σ H'
def Late (g : GW) (Hf : Hp) (σ : St) (v : V) (L : Ev → Option D) : Prop :=
  ∀ Γ2 Hf2 H2 fr2, Same Hf Hf2 → StOk g.h Hf2 H2 σ Γ2 fr2 → ∀ d, L Γ2 = some d → Fz1 g.h.K Hf2 H2 v d
def Lates (g : GW) (Hf : Hp) (σ : St) (v : List V) (L : Ev → Option (List D)) : Prop :=
  ∀ Γ2 Hf2 H2 fr2, Same Hf Hf2 → StOk g.h Hf2 H2 σ Γ2 fr2 → ∀ d, L Γ2 = some d → Fz1All g.h.K Hf2 H2 v d
/-- generic ends -/
def Post {α β : Type} (g : GW) (σ : St) (fr : List (V × Va)) (R : Hp → Hp → α → Ev → β → Prop) (Hf : Hp) (Q : β → Hp → Prop) : Out α → Prop
  | .ok a Γ' => ∀ b H' Hf', Same Hf Hf' → R Hf' H' a Γ' b → Q b H'
  | .ex e Γ' => PEx g Hf σ fr e Γ'
  | .st => False
def RV (g : GW) (σ : St) (fr : List (V × Va)) : Hp → Hp → Va → Ev → V → Prop := fun Hf H x Γ v => StOk g.h Hf H σ Γ ((v, x) :: fr)
def RO (g : GW) (σ : St) (fr : List (V × Va)) (l : Ev → D → Option D) : Hp → Hp → D → Ev → V → Prop := fun Hf H d Γ v => StOk g.h Hf H σ Γ fr ∧ Late g Hf σ v fun Γ2 => l Γ2 d
def RA (g : GW) (σ : St) (fr : List (V × Va)) (l : Ev → List D → Option (List D)) : Hp → Hp → List D → Ev → List V → Prop := fun Hf H d Γ v => StOk g.h Hf H σ Γ fr ∧ Lates g Hf σ v fun Γ2 => l Γ2 d
def RT (g : GW) (σ : St) (fr : List (V × Va)) : Hp → Hp → Bool → Ev → Bool → Prop := fun Hf H b Γ c => StOk g.h Hf H σ Γ fr ∧ c = b
def tV (g : GW) (f : Ev → Out Va) : TE := fun σ H Q => ∃ Hf Γ fr, StOk g.h Hf H σ Γ fr ∧ Post g σ fr (RV g σ fr) Hf Q (f Γ)
def tO (g : GW) (o : Opn) : TE := fun σ H Q => ∃ Hf Γ fr, StOk g.h Hf H σ Γ fr ∧ Post g σ fr (RO g σ fr o.l) Hf Q (o.f Γ)
def tA (g : GW) (o : Opns) : TA := fun σ H Q => ∃ Hf Γ fr, StOk g.h Hf H σ Γ fr ∧ Post g σ fr (RA g σ fr o.l) Hf Q (o.f Γ)
def tT (g : GW) (c : Ev → Out Bool) : TT := fun σ H Q => ∃ Hf Γ fr, StOk g.h Hf H σ Γ fr ∧ Post g σ fr (RT g σ fr) Hf Q (c Γ)
abbrev gh (X : Cx) (W : WX) (f0 h0 : Hp) : GW := ⟨⟨X.K, f0, h0⟩, X.mg, W⟩
structure PV (X : Cx) (W : WX) (e : Expr) (f : Ev → Out Va) : Prop where
  run : ∀ f0 h0, PE X e (tV (gh X W f0 h0) f)
structure PZ (X : Cx) (W : WX) (e : Expr) (o : Opn) : Prop where
  run : ∀ f0 h0, PE X e (tO (gh X W f0 h0) o)
structure PZs (X : Cx) (W : WX) (es : List Expr) (o : Opns) : Prop where
  run : ∀ f0 h0, PA X es (tA (gh X W f0 h0) o)
structure PB (X : Cx) (W : WX) (e : Expr) (c : Ev → Out Bool) : Prop where
  run : ∀ f0 h0, PT X e (tT (gh X W f0 h0) c)
/-- and, or: a test whatever its whole is -/
structure PBw (X : Cx) (W : WX) (e : Expr) (c : Ev → Out Bool) : Prop where
  run : ∀ f0 h0, L2.PW X e (tT (gh X W f0 h0) c)

theorem _root_.L2.PE.imp {X : Cx} {e : Expr} {t t' : TE} (h : PE X e t) (k : ∀ σ H Q, t' σ H Q → t σ H Q) : PE X e t' := ⟨fun pins s σ H Q I q => h.run pins s σ H Q I (k σ H Q q)⟩
theorem _root_.L2.PT.imp {X : Cx} {e : Expr} {t t' : TT} (h : PT X e t) (k : ∀ σ H Q, t' σ H Q → t σ H Q) : PT X e t' := ⟨fun pins s σ H Q I q => h.run pins s σ H Q I (k σ H Q q)⟩
theorem _root_.L2.PW.imp {X : Cx} {e : Expr} {t t' : TT} (h : L2.PW X e t) (k : ∀ σ H Q, t' σ H Q → t σ H Q) : L2.PW X e t' := ⟨fun wh pins s σ H Q I q => h.run wh pins s σ H Q I (k σ H Q q)⟩
theorem _root_.L2.PA.imp {X : Cx} {e : List Expr} {t t' : TA} (h : PA X e t) (k : ∀ σ H Q, t' σ H Q → t σ H Q) : PA X e t' := ⟨fun p pins s σ H Q I q => h.run p pins s σ H Q I (k σ H Q q)⟩
theorem _root_.L2.PS.imp {X : Cx} {e : Stmt} {t t' : TS} (h : PS X e t) (k : ∀ D σ H, t' D σ H → t D σ H) : PS X e t' := ⟨fun pins s σ H Q I q => h.run pins s σ H Q I (k Q σ H q)⟩
theorem _root_.L2.PSs.imp {X : Cx} {e : List Stmt} {t t' : TS} (h : PSs X e t) (k : ∀ D σ H, t' D σ H → t D σ H) : PSs X e t' := ⟨fun pins s σ H Q I q => h.run pins s σ H Q I (k Q σ H q)⟩

section
variable {g : GW} {Hf Hf' H H' : Hp} {σ : St} {Γ Γ' : Ev} {fr fr' : List (V × Va)} {α β γ δ : Type}
theorem PEx.mono {e : Exc} (h : PEx g Hf σ fr e Γ) (s : Same Hf Hf') : PEx g Hf' σ fr e Γ := fun cls dx H1 Hf1 s1 x st => h cls dx H1 Hf1 (s.trans s1) x st
theorem PEx.pop {e : Exc} {p : V × Va} (h : PEx g Hf σ fr e Γ) : PEx g Hf σ (p :: fr) e Γ := fun cls dx H1 Hf1 s1 x st => h cls dx H1 Hf1 s1 x st.pop
theorem Post.mono {R : Hp → Hp → α → Ev → β → Prop} {Q : β → Hp → Prop} {o : Out α} (h : Post g σ fr R Hf Q o) (s : Same Hf Hf') : Post g σ fr R Hf' Q o := by
  cases o with
  | ok a Γ' => exact fun b H1 Hf1 s1 r => h b H1 Hf1 (s.trans s1) r
  | ex e Γ' => exact PEx.mono h s
  | st => exact h
theorem Post.pop {R : Hp → Hp → α → Ev → β → Prop} {Q : β → Hp → Prop} {p : V × Va} {o : Out α} {R' : Hp → Hp → α → Ev → β → Prop} (h : Post g σ fr R Hf Q o) (hr : ∀ Hf H a Γ b, R' Hf H a Γ b → R Hf H a Γ b) : Post g σ (p :: fr) R' Hf Q o := by
  cases o with
  | ok a Γ' => exact fun b H1 Hf1 s1 r => h b H1 Hf1 s1 (hr _ _ _ _ _ r)
  | ex e Γ' => exact PEx.pop h
  | st => exact h
/-- the first of two steps -/
theorem Post.bind {o : Out α} {k : α → Ev → Out γ} {R : Hp → Hp → γ → Ev → δ → Prop} {Q : δ → Hp → Prop} {R1 : Hp → Hp → α → Ev → β → Prop} {Q1 : β → Hp → Prop} (h : Post g σ fr R Hf Q (o.bind k))
    (h1 : ∀ a Γ1, o = .ok a Γ1 → ∀ b H1 Hf1, Same Hf Hf1 → R1 Hf1 H1 a Γ1 b → Post g σ fr R Hf1 Q (k a Γ1) → Q1 b H1) : Post g σ fr R1 Hf Q1 o := by
  cases o with
  | ok a Γ1 => exact fun b H1 Hf1 s1 r => h1 a Γ1 rfl b H1 Hf1 s1 r (Post.mono (show Post g σ fr R Hf Q (k a Γ1) from h) s1)
  | ex e Γ1 => exact h
  | st => exact h
theorem Post.of {R : Hp → Hp → α → Ev → β → Prop} {Q : β → Hp → Prop} {o : Option α} (h : Post g σ fr R Hf Q (.of o Γ)) : ∃ a, o = some a ∧ ∀ b H' Hf', Same Hf Hf' → R Hf' H' a Γ b → Q b H' := by
  cases o with
  | none => exact h.elim
  | some a => exact ⟨a, rfl, h⟩
theorem Late.mono {v : V} {L : Ev → Option D} (h : Late g Hf σ v L) (s : Same Hf Hf') : Late g Hf' σ v L := fun Γ2 Hf2 H2 fr2 s2 => h Γ2 Hf2 H2 fr2 (s.trans s2)
theorem Late.fz {v : V} {d : D} (h : Fz g.h.K Hf v d) : Late g Hf σ v fun _ => some d := fun Γ2 Hf2 H2 fr2 s2 st d' e => by
  cases e
  exact .inl (h.mono s2)
theorem Fz1All.length {K : PySem.W.Frag} : ∀ {vs : List V} {ds : List D}, Fz1All K Hf H vs ds → vs.length = ds.length
  | _, _, .nil => rfl
  | _, _, .cons _ r => congrArg (· + 1) r.length
end

/-! ### operands -/
def RF (g : GW) (σ : St) (fr : List (V × Va)) : Hp → Hp → D → Ev → V → Prop := fun Hf H d Γ v => StOk g.h Hf H σ Γ fr ∧ Fz g.h.K Hf v d
def tF (g : GW) (f : Ev → Out D) : TE := fun σ H Q => ∃ Hf Γ fr, StOk g.h Hf H σ Γ fr ∧ Post g σ fr (RF g σ fr) Hf Q (f Γ)
/-- frozen data -/
structure PF (X : Cx) (W : WX) (e : Expr) (f : Ev → Out D) : Prop where
  run : ∀ f0 h0, PE X e (tF (gh X W f0 h0) f)
def fC (d : D) : Ev → Out D := fun Γ => .ok d Γ
def fN (i : Nat) : Ev → Out D := fun Γ => match Γ[i]? with | some (some (.z, d)) => .ok d Γ | _ => .st
def fZ (i : Nat) : Ev → Out D := fun Γ => match Γ[i]? with | some (some x) => .ok x.2 (Γ.set i (some (.z, x.2))) | _ => .st
def fV (f : Ev → Out Va) : Ev → Out D := fun Γ => (f Γ).bind fun x Γ1 => .ok x.2 Γ1
def vF (f : Ev → Out D) : Ev → Out Va := fun Γ => (f Γ).bind fun d Γ1 => .ok (.z, d) Γ1
def oF (f : Ev → Out D) : Opn := ⟨f, fun _ d => some d⟩
/-- a slot whose list is read when it is used -/
def oB (i : Nat) : Opn := ⟨fun Γ => match Γ[i]? with | some (some _) => .ok .none Γ | _ => .st, fun Γ _ => match Γ[i]? with | some (some (.l .z, .list ds)) => some (.list ds) | some (some (.z, d)) => some d | _ => none⟩
def osN : Opns := ⟨fun Γ => .ok [] Γ, fun _ ds => some ds⟩
def osC (o : Opn) (os : Opns) : Opns := ⟨fun Γ => (o.f Γ).bind fun d Γ1 => (os.f Γ1).bind fun ds Γ2 => .ok (d :: ds) Γ2, fun Γ ds => match ds with | d :: ds => (o.l Γ d).bind fun d => (os.l Γ ds).bind fun ds => some (d :: ds) | [] => none⟩
section
variable {X : Cx} {W : WX} {e : Expr} {pos : Pos}
theorem pf_c {v : V} {d : D} (h : PE X e (tC v)) (q : ∀ K Hf, Fz K Hf v d) : PF X W e (fC d) := ⟨fun f0 h0 => h.imp fun σ H Q ⟨Hf, Γ, fr, st, p⟩ => p v H Hf (Same.refl _) ⟨st, q _ _⟩⟩
theorem pf_int {i j} : PF X W (.Constant (.int i) j pos) (fC (.int i)) := pf_c pe_int fun _ _ => .int i
theorem pf_bl {b j} : PF X W (.Constant (.bool b) j pos) (fC (.bool b)) := pf_c pe_bl fun _ _ => .bl b
theorem pf_non {j} : PF X W (.Constant .none j pos) (fC .none) := pf_c pe_non fun _ _ => .non
theorem pf_str {x j} : PF X W (.Constant (.str x) j pos) (fC (.str x)) := pf_c pe_str fun _ _ => .str x
theorem pf_v {f : Ev → Out Va} (h : PV X W e f) : PF X W e (fV f) := ⟨fun f0 h0 => (h.run f0 h0).imp fun σ H Q ⟨Hf, Γ, fr, st, p⟩ => ⟨Hf, Γ, fr, st, Post.bind p fun x Γ1 _ v H1 Hf1 s1 st1 q => by
  obtain ⟨Hf2, s2, st2⟩ := StOk.frz st1
  exact q v H1 Hf2 s2 ⟨st2.pop, st2.top⟩⟩⟩
theorem pv_f {f : Ev → Out D} (h : PF X W e f) : PV X W e (vF f) := ⟨fun f0 h0 => (h.run f0 h0).imp fun σ H Q ⟨Hf, Γ, fr, st, p⟩ => ⟨Hf, Γ, fr, st, Post.bind p fun x Γ1 _ v H1 Hf1 s1 ⟨st1, z⟩ q => q v H1 Hf1 (Same.refl _) (st1.push z)⟩⟩
theorem pz_f {f : Ev → Out D} (h : PF X W e f) : PZ X W e (oF f) := ⟨fun f0 h0 => (h.run f0 h0).imp fun σ H Q ⟨Hf, Γ, fr, st, p⟩ => by
  refine ⟨Hf, Γ, fr, st, ?_⟩
  have p' : Post (gh X W f0 h0) σ fr (RO (gh X W f0 h0) σ fr (oF f).l) Hf Q (f Γ) := p
  cases hf : f Γ with
  | ok d Γ1 =>
    rw [hf] at p'
    exact fun v H1 Hf1 s1 ⟨st1, z⟩ => p' v H1 Hf1 s1 ⟨st1, .fz z⟩
  | ex e Γ1 => rw [hf] at p'; exact p'
  | st => rw [hf] at p'; exact p'⟩
theorem pf_n (i : Nat) {x : Str} (hN : X.N[i]? = some x := by rfl) (hv : Vis X.env.scope x := by first | exact Or.inl rfl | exact Or.inr (Or.inl rfl) | exact Or.inr (Or.inr rfl)) (hd : (x == ("__debug__" : Str)) = false := by decide)
    (hcd : (x == ("__classdict__" : Str)) = false := by decide) : PF X W (.Name x pos) (fN i) := ⟨fun f0 h0 => (pe_var hN hv hd hcd).imp fun σ H Q ⟨Hf, Γ, fr, st, p⟩ => by
  unfold fN at p
  split at p
  · rename_i d e'
    obtain ⟨v, e1, fz⟩ := st.getZ e'
    exact ⟨v, e1, p v H Hf (Same.refl _) ⟨st, fz⟩⟩
  · exact p.elim⟩
theorem pf_z (i : Nat) {x : Str} (hN : X.N[i]? = some x := by rfl) (hv : Vis X.env.scope x := by first | exact Or.inl rfl | exact Or.inr (Or.inl rfl) | exact Or.inr (Or.inr rfl)) (hd : (x == ("__debug__" : Str)) = false := by decide)
    (hcd : (x == ("__classdict__" : Str)) = false := by decide) : PF X W (.Name x pos) (fZ i) := ⟨fun f0 h0 => (pe_var hN hv hd hcd).imp fun σ H Q ⟨Hf, Γ, fr, st, p⟩ => by
  unfold fZ at p
  split at p
  · rename_i x e
    obtain ⟨Hf1, v, s1, e1, st1⟩ := st.frzSlot e
    exact ⟨v, e1, p v H Hf1 s1 ⟨st1.pop, st1.top⟩⟩
  · exact p.elim⟩
theorem pz_b (i : Nat) {x : Str} (hN : X.N[i]? = some x := by rfl) (hv : Vis X.env.scope x := by first | exact Or.inl rfl | exact Or.inr (Or.inl rfl) | exact Or.inr (Or.inr rfl)) (hd : (x == ("__debug__" : Str)) = false := by decide)
    (hcd : (x == ("__classdict__" : Str)) = false := by decide) : PZ X W (.Name x pos) (oB i) := ⟨fun f0 h0 => (pe_var hN hv hd hcd).imp fun σ H Q ⟨Hf, Γ, fr, st, p⟩ => by
  unfold oB at p
  dsimp only at p
  split at p
  · rename_i x e
    have : ∃ v, σ[i]? = some (some v) := by
      obtain ⟨ω, st⟩ := st
      obtain ⟨v, e, _⟩ := st.slots i _ e
      exact ⟨v, e⟩
    obtain ⟨v, e1⟩ := this
    refine ⟨v, e1, p v H Hf (Same.refl _) ⟨st, fun Γ2 Hf2 H2 fr2 s2 st2 d h => ?_⟩⟩
    dsimp only at h
    split at h
    · rename_i ds q
      cases h
      obtain ⟨ω, st2⟩ := st2
      obtain ⟨v', e2, A, o, _⟩ := st2.slots i _ q
      rw [e1] at e2
      cases e2
      obtain ⟨a, vs, ds', B, rfl, e4, e5, e6, _⟩ := o
      cases e4
      exact .inr ⟨a, vs, ds, rfl, rfl, e5, e6.zs.2⟩
    · rename_i d' q
      cases h
      obtain ⟨v', e2, fz⟩ := st2.getZ q
      rw [e1] at e2
      cases e2
      exact .inl fz
    · cases h
  · exact p.elim⟩
theorem pzs_n : PZs X W [] osN := ⟨fun f0 h0 => pa_nil.imp fun σ H Q ⟨Hf, Γ, fr, st, p⟩ => p [] H Hf (Same.refl _) ⟨st, fun Γ2 Hf2 H2 fr2 s2 st2 d e => by
  cases e
  exact .nil⟩⟩
theorem pzs_c {es : List Expr} {o : Opn} {os : Opns} (h : PZ X W e o) (hs : PZs X W es os) (hst : starEach (e :: es) X.env = (false, eval e X.env) :: starEach es X.env := by rfl) : PZs X W (e :: es) (osC o os) :=
  ⟨fun f0 h0 => (pa_cons (h.run f0 h0) (hs.run f0 h0) hst).imp fun σ H Q ⟨Hf, Γ, fr, st, p⟩ => ⟨Hf, Γ, fr, st, Post.bind p fun d Γ1 _ v H1 Hf1 s1 ⟨st1, l1⟩ q => ⟨Hf1, Γ1, fr, st1, Post.bind q fun ds Γ2 _ vs H2 Hf2 s2 ⟨st2, l2⟩ q => q (v :: vs) H2 Hf2 (Same.refl _)
    ⟨st2, fun Γ3 Hf3 H3 fr3 s3 st3 r e => by
      cases h1 : o.l Γ3 d with
      | none => simp [osC, h1] at e
      | some d1 =>
        cases h2 : os.l Γ3 ds with
        | none => simp [osC, h1, h2] at e
        | some ds1 =>
          have e' : d1 :: ds1 = r := by simpa [osC, h1, h2] using e
          subst e'
          exact .cons (l1 Γ3 Hf3 H3 fr3 (s2.trans s3) st3 d1 h1) (l2 Γ3 Hf3 H3 fr3 s3 st3 ds1 h2)⟩⟩⟩⟩
end

/-! ### operators -/
/-- what a two-place operation gives, by the data -/
def OpS (K : PySem.W.Frag) (r : R2) (op : D → D → Option Va) : Prop := ∀ (Hf H : Hp) (x y : V) (dx dy : D) (z : Va) (Q : VK), Same Hf H → Fz1 K Hf H x dx → Fz1 K Hf H y dy → op dx dy = some z → (∀ v H' Hf', NewV K Hf H H' Hf' v z → Q v H') → r x y H Q
def o2 (op : D → D → Option Va) (a b : Opn) : Ev → Out Va := fun Γ => (a.f Γ).bind fun x Γ1 => (b.f Γ1).bind fun y Γ2 => .of ((a.l Γ2 x).bind fun x => (b.l Γ2 y).bind fun y => op x y) Γ2
theorem OpS.or {K : PySem.W.Frag} {r r' : R2} {op : D → D → Option Va} (h : OpS K r op) : OpS K (fun x y H Q => r x y H Q ∨ r' x y H Q) op := fun Hf H x y dx dy z Q s h1 h2 e q => .inl (h Hf H x y dx dy z Q s h1 h2 e q)
section
variable {X : Cx} {W : WX} {a b : Expr} {oa ob : Opn} {pos : Pos}
theorem bind2 {α β γ : Type} {x : Option α} {y : Option β} {f : α → β → Option γ} {z : γ} (h : (x.bind fun x => y.bind fun y => f x y) = some z) : ∃ a b, x = some a ∧ y = some b ∧ f a b = some z := by
  cases x with
  | none => cases h
  | some a =>
    cases y with
    | none => cases h
    | some b => exact ⟨a, b, rfl, rfl, h⟩
theorem tOp_of {g : GW} {r : R2} {op : D → D → Option Va} (hs : OpS g.h.K r op) {σ : St} {H : Hp} {Q : VK} (h : tV g (o2 op oa ob) σ H Q) : tOp r (tO g oa) (tO g ob) σ H Q := by
  obtain ⟨Hf, Γ, fr, st, p⟩ := h
  refine ⟨Hf, Γ, fr, st, Post.bind p fun x Γ1 _ v H1 Hf1 s1 ⟨st1, l1⟩ q => ⟨Hf1, Γ1, fr, st1, Post.bind q fun y Γ2 _ u H2 Hf2 s2 ⟨st2, l2⟩ q => ?_⟩⟩
  obtain ⟨z, e, q⟩ := Post.of q
  obtain ⟨x', y', e1, e2, e3⟩ := bind2 e
  exact hs Hf2 H2 v u x' y' z Q st2.sub (l1 Γ2 Hf2 H2 fr s2 st2 x' e1) (l2 Γ2 Hf2 H2 fr (Same.refl _) st2 y' e2) e3 fun v' H' Hf' n => q v' H' Hf' n.f1 (st2.pushN n)
theorem pv_bin {op : Operator} {r : R2} {f : D → D → Option Va} (ho : OpR X (binaryOp op) r) (hs : OpS X.K r f) (ha : PZ X W a oa) (hb : PZ X W b ob) : PV X W (.BinOp a op b pos) (o2 f oa ob) :=
  ⟨fun f0 h0 => (pe_op ho (ha.run f0 h0) (hb.run f0 h0)).imp fun σ H Q h => tOp_of hs h⟩
theorem pv_cmp {op : CmpOp} {r : R2} {f : D → D → Option Va} (ho : OpR X (compareOp op) r) (hs : OpS X.K r f) (ha : PZ X W a oa) (hb : PZ X W b ob) (hm : behindInMarks op b = false) : PV X W (.Compare a [op] [b] pos) (o2 f oa ob) :=
  ⟨fun f0 h0 => (pe_cmpR ho (ha.run f0 h0) (hb.run f0 h0) hm).imp fun σ H Q h => tOp_of hs h⟩
theorem pv_ix {r : R2} {f : D → D → Option Va} (ho : IxR X r) (hs : OpS X.K r f) (ha : PZ X W a oa) (hb : PZ X W b ob) (hp : PlainIx b) : PV X W (.Subscript a b pos) (o2 f oa ob) :=
  ⟨fun f0 h0 => (pe_ix ho (ha.run f0 h0) (hb.run f0 h0) hp).imp fun σ H Q h => tOp_of hs h⟩
/-- a value as a test -/
def bV (f : Ev → Out Va) : Ev → Out Bool := fun Γ => (f Γ).bind fun x Γ1 => .of (match x.2 with | .bool c => some c | _ => none) Γ1
theorem tTest_of {g : GW} {t : TE} {f : Ev → Out Va} {σ : St} {H : Hp} {Q : Bool → Hp → Prop} (hv : ∀ Q, tV g f σ H Q → t σ H Q) (h : tT g (bV f) σ H Q) : tTest t σ H Q := by
  obtain ⟨Hf, Γ, fr, st, p⟩ := h
  refine hv _ ⟨Hf, Γ, fr, st, Post.bind p fun x Γ1 _ v H1 Hf1 s1 st1 q => ?_⟩
  obtain ⟨c, e, q⟩ := Post.of q
  obtain ⟨s, d⟩ := x
  cases d with
  | bool k =>
    have e' : k = c := Option.some.inj e
    subst e'
    obtain ⟨Hf2, s2, st2⟩ := StOk.frz st1
    have z := st2.top
    cases z
    exact ⟨k, rfl, q k H1 Hf2 s2 ⟨st2.pop, rfl⟩⟩
  | _ => cases e
theorem pb_cmp {op : CmpOp} {r : R2} {f : D → D → Option Va} (ho : OpR X (compareOp op) r) (hs : OpS X.K r f) (ha : PZ X W a oa) (hb : PZ X W b ob) (hm : behindInMarks op b = false) : PB X W (.Compare a [op] [b] pos) (bV (o2 f oa ob)) :=
  ⟨fun f0 h0 => (pt_cmpR ho (ha.run f0 h0) (hb.run f0 h0) hm).imp fun σ H Q h => tTest_of (f := o2 f oa ob) (fun Q h => tOp_of hs h) h⟩
end
/-! ### the data's own operations -/
def b2 (o : Option Bool) : Option Va := o.map fun b => (.z, .bool b)
def mulOk (i j : Int) : Bool := decide (i.natAbs < 2 ^ 64) || decide (j.natAbs < 2 ^ 64)
def dAdd : D → D → Option Va
  | .int i, .int j => some (.z, .int (i + j))
  | .str i, .str j => if i.length + j.length ≤ 16777216 then some (.z, .str (i ++ j)) else none
  | .list i, .list j => if i.length + j.length ≤ 16777216 then some (.l .z, .list (i ++ j)) else none
  | .tuple i, .tuple j => if i.length + j.length ≤ 16777216 then some (.z, .tuple (i ++ j)) else none
  | _, _ => none
def dSub : D → D → Option Va
  | .int i, .int j => some (.z, .int (i - j))
  | _, _ => none
def dMul : D → D → Option Va
  | .int i, .int j => if mulOk i j then some (.z, .int (i * j)) else none
  | .list i, .int j => if 0 ≤ j ∧ j < 2 ^ 63 ∧ i.length * j.toNat ≤ 16777216 then some (.l .z, .list (List.replicate j.toNat i).flatten) else none
  | _, _ => none
def dDiv : D → D → Option Va
  | .int i, .int j => if 0 < j ∧ j < 2 ^ 64 then some (.z, .int (i / j)) else none
  | _, _ => none
def dMod : D → D → Option Va
  | .int i, .int j => if 0 < j then some (.z, .int (i % j)) else none
  | _, _ => none
def dPow : D → D → Option Va
  | .int i, .int j => if 0 ≤ j ∧ j ≤ 1000000 ∧ i.natAbs < 2 ^ 64 then some (.z, .int (i ^ j.toNat)) else none
  | _, _ => none
def dShl : D → D → Option Va
  | .int i, .int j => if 0 ≤ j ∧ j ≤ 1000000 ∧ i.natAbs < 2 ^ 64 then some (.z, .int (i * 2 ^ j.toNat)) else none
  | _, _ => none
def dShr : D → D → Option Va
  | .int i, .int j => if 0 ≤ j then some (.z, .int (i / 2 ^ j.toNat)) else none
  | _, _ => none
def dAnd : D → D → Option Va
  | .int i, .int j => some (.z, .int (Builtin.bitAnd i j))
  | _, _ => none
def dFlat : D → Bool
  | .none => true
  | .bool _ => true
  | .int _ => true
  | .str _ => true
  | _ => false
/-- == : of flat data, of data of a kind -/
def dEqv (a b : D) : Option Bool := if SeqAt.shaped a && SeqAt.shaped b then some (PyData.eqv a b) else none
def dSc : D → D → Option Bool
  | .none, .none => some true | .none, .int _ => some false | .int _, .none => some false | .none, .bool _ => some false | .bool _, .none => some false | .none, .str _ => some false | .str _, .none => some false
  | .int i, .int j => some (decide (i = j)) | .bool i, .bool j => some (decide (i = j)) | .str i, .str j => some (decide (i = j))
  | .int _, .str _ => some false | .str _, .int _ => some false | .bool _, .str _ => some false | .str _, .bool _ => some false
  | a, b => dEqv a b
def dEq (a b : D) : Option Va := b2 (dSc a b)
def dNe (a b : D) : Option Va := b2 ((dSc a b).map not)
def dLt : D → D → Option Va
  | .int i, .int j => some (.z, .bool (decide (i < j)))
  | .str i, .str j => some (.z, .bool (decide (i.cps.toList < j.cps.toList)))
  | _, _ => none
def dLe : D → D → Option Va
  | .int i, .int j => some (.z, .bool (decide (i ≤ j)))
  | _, _ => none
def dGt (a b : D) : Option Va := dLt b a
def dGe (a b : D) : Option Va := dLe b a
def dIs : D → D → Option Va
  | a, .none => some (.z, .bool (match a with | .none => true | _ => false))
  | _, _ => none
def dIsnt : D → D → Option Va
  | a, .none => some (.z, .bool (match a with | .none => false | _ => true))
  | _, _ => none
def dAt : D → D → Option Va
  | .list ds, .int i => (atI ds i).map fun d => (.z, d)
  | .tuple ds, .int i => (atI ds i).map fun d => (.z, d)
  | .str z, .int i => if z.length ≤ 16777216 then (atI z.cps.toList i).map fun c => (.z, .str ⟨#[c]⟩) else none
  | .dict [(.none, .list ds)], .int i => (atI ds i).map fun d => (.z, d)
  | _, _ => none
section
variable {K : PySem.W.Frag} {Hf H : Hp}
theorem atI_map {α β : Type} (f : α → β) (xs : List α) (i : Int) : atI (xs.map f) i = (atI xs i).map f := by
  unfold atI
  rw [List.length_map]
  cases ixN xs.length i with
  | none => rfl
  | some j => simp
theorem FzAll.at {vs : List V} {ds : List D} {i : Int} {d : D} (h : FzAll K H vs ds) (e : atI ds i = some d) : ∃ v, atI vs i = some v ∧ Fz K H v d := by
  unfold atI at e ⊢
  rw [h.length]
  cases q : ixN ds.length i with
  | none => rw [q] at e; cases e
  | some j =>
    rw [q] at e
    exact h.get e
theorem Fz1.list {v : V} {ds : List D} (h : Fz1 K Hf H v (.list ds)) (s : Same Hf H) : ∃ a vs, v = .ref a ∧ H a = some (.lst vs) ∧ FzAll K Hf vs ds := by
  rcases h with h | ⟨a, vs, ds', rfl, e, h, r⟩
  · cases h with
    | lst h r => exact ⟨_, _, rfl, s _ _ h, r⟩
  · cases e
    exact ⟨a, vs, rfl, h, r⟩
theorem Fz1.tup {v : V} {ds : List D} (h : Fz1 K Hf H v (.tuple ds)) : ∃ a vs, v = .ref a ∧ SqT K Hf a vs ∧ FzAll K Hf vs ds := by
  rcases h with h | ⟨a, vs, ds', rfl, e, h, r⟩
  · cases h with
    | tup h r => exact ⟨_, _, rfl, h, r⟩
  · cases e
theorem Fz1.int {v : V} {i : Int} (h : Fz1 K Hf H v (.int i)) : v = .int i := by
  rcases h with h | ⟨a, vs, ds', rfl, e, h, r⟩
  · cases h; rfl
  · cases e
theorem Fz1.str {v : V} {i : Str} (h : Fz1 K Hf H v (.str i)) : v = .str i := by
  rcases h with h | ⟨a, vs, ds', rfl, e, h, r⟩
  · cases h; rfl
  · cases e
theorem Fz1.bool {v : V} {i : Bool} (h : Fz1 K Hf H v (.bool i)) : v = .bl i := by
  rcases h with h | ⟨a, vs, ds', rfl, e, h, r⟩
  · cases h; rfl
  · cases e
theorem Fz1.none {v : V} (h : Fz1 K Hf H v .none) : v = .non := by
  rcases h with h | ⟨a, vs, ds', rfl, e, h, r⟩
  · cases h; rfl
  · cases e
theorem Fz1.non_iff {v : V} {d : D} (h : Fz1 K Hf H v d) : decide (v = .non) = (match d with | .none => true | _ => false) := by
  rcases h with h | ⟨a, vs, ds', rfl, rfl, h, r⟩
  · cases h <;> rfl
  · rfl
theorem Fz1.scr {v : V} {ds : List D} (h : Fz1 K Hf H v (.dict [(.none, .list ds)])) (s : Same Hf H) : ∃ (a : Addr) (ns : List Int), v = .ref a ∧ SqL K H a (ns.map V.int) ∧ ds = ns.map .int := by
  rcases h with h | ⟨a, vs, ds', rfl, e, h, r⟩
  · generalize hd : PyData.dict [(.none, .list ds)] = d at h
    cases h with
    | scr ns h =>
      have hd' : ds = ns.map .int := by
        injection hd with hd
        injection hd with hd _
        injection hd with _ hd
        injection hd
      exact ⟨_, ns, rfl, s.seq h, hd'⟩
    | @dK a kvs ds' h r =>
      injection hd with hd
      cases kvs with
      | nil => cases ds' <;> cases hd
      | cons p kvs =>
        cases ds' with
        | nil => cases hd
        | cons d' ds' =>
          rw [List.map_cons, List.zip_cons_cons] at hd
          injection hd with hd _
          injection hd with hd _
          obtain ⟨k, w⟩ := p
          cases k <;> cases hd
    | _ => cases hd
  · cases e
theorem Fz1.dp {v : V} {d : D} (h : Fz1 K Hf H v d) (s : Same Hf H) (c : d.canLay0 = true) : Dp K H v d := by
  rcases h with h | ⟨a, vs, ds', rfl, rfl, h, r⟩
  · exact (h.mono s).dp c
  · exact .lst (.inl (.inl h)) ((r.mono s).dp c)
end
end PV
namespace PV
open PySem PySem.Spec PyProof.Rows L2

section
variable {X : Cx} {K : PySem.W.Frag}
def rI' (C : Int → Int → Prop) (g : Int → Int → V) : R2 := rI C g
/-- ints -/
theorem ops_int {C : Int → Int → Prop} {g : Int → Int → Int} {op : D → D → Option Va} (h : ∀ dx dy z, op dx dy = some z → ∃ i j, dx = .int i ∧ dy = .int j ∧ C i j ∧ z = (.z, .int (g i j))) : OpS K (rI C fun i j => .int (g i j)) op := fun Hf H x y dx dy z Q s h1 h2 e q => by
  obtain ⟨i, j, rfl, rfl, c, rfl⟩ := h dx dy z e
  exact ⟨i, j, h1.int, h2.int, c, q _ H Hf (.z s (.int _))⟩
theorem ops_int0 {g : Int → Int → Int} {op : D → D → Option Va} (h : ∀ dx dy z, op dx dy = some z → ∃ i j, dx = .int i ∧ dy = .int j ∧ z = (.z, .int (g i j))) : OpS K (rI0 fun i j => .int (g i j)) op := fun Hf H x y dx dy z Q s h1 h2 e q => by
  obtain ⟨i, j, rfl, rfl, rfl⟩ := h dx dy z e
  exact ⟨i, j, h1.int, h2.int, q _ H Hf (.z s (.int _))⟩
def rAddV (K : PySem.W.Frag) : R2 := fun x y H Q => (rI0 (fun i j => .int (i + j)) x y H Q ∨ ∃ i j, x = .str i ∧ y = .str j ∧ i.length + j.length ≤ sizeLine ∧ Q (.str (i ++ j)) H) ∨ rCat x y H Q ∨ rCatA K x y H Q
theorem op_addV : OpR X (binaryOp .Add) (rAddV X.K) := (op_add.or op_add_str).or (op_cat.or op_catA)
theorem ops_add : OpS K (rAddV K) dAdd := fun Hf H x y dx dy z Q s h1 h2 e q => by
  cases dx <;> cases dy <;> first
    | (cases e; done)
    | (cases e; exact .inl (.inl ⟨_, _, h1.int, h2.int, q _ H Hf (.z s (.int _))⟩))
    | (simp only [dAdd] at e; split at e <;> cases e <;> first
        | exact .inl (.inr ⟨_, _, h1.str, h2.str, ‹_›, q _ H Hf (.z s (.str _))⟩)
        | (obtain ⟨a, vs, rfl, r1, f1⟩ := h1.list s
           obtain ⟨b, ws, rfl, r2, f2⟩ := h2.list s
           exact .inr (.inl ⟨a, b, vs, ws, rfl, rfl, r1, r2, by rw [f1.length, f2.length]; assumption, fun p n => q _ _ Hf (.lst s n (f1.append f2))⟩))
        | (obtain ⟨a, vs, rfl, r1, f1⟩ := h1.tup
           obtain ⟨b, ws, rfl, r2, f2⟩ := h2.tup
           refine .inr (.inr ⟨a, b, vs, ws, rfl, rfl, Same.seqT s r1, Same.seqT s r2, by rw [f1.length, f2.length]; assumption, fun e => ?_, fun _ e => ?_, fun _ _ p n => q _ _ _ (.tup s n (f1.append f2))⟩)
           · subst e
             cases f1
             exact q _ H Hf (.z s (.tup r2 f2))
           · subst e
             cases f2
             rw [List.append_nil] at q
             exact q _ H Hf (.z s (.tup r1 f1))))
theorem ops_sub : OpS K (rI0 fun i j => .int (i - j)) dSub := ops_int0 fun dx dy z e => by
  cases dx <;> cases dy <;> cases e
  exact ⟨_, _, rfl, rfl, rfl⟩
def CMul' (i j : Int) : Prop := mulOk i j = true
theorem cmul_of {i j : Int} (h : CMul' i j) : CMul i j := by
  unfold CMul' mulOk at h
  rw [Bool.or_eq_true, decide_eq_true_eq, decide_eq_true_eq] at h
  unfold CMul
  omega
def rMulV : R2 := fun x y H Q => rI CMul (fun i j => .int (i * j)) x y H Q ∨ rRep x y H Q
theorem op_mulV : OpR X (binaryOp .Mult) rMulV := op_mul.or op_rep
theorem ops_mul : OpS K rMulV dMul := fun Hf H x y dx dy z Q s h1 h2 e q => by
  cases dx <;> cases dy <;> first
    | (cases e; done)
    | (simp only [dMul] at e; split at e <;> cases e <;> first
        | exact .inl ⟨_, _, h1.int, h2.int, cmul_of ‹_›, q _ H Hf (.z s (.int _))⟩
        | (obtain ⟨a, vs, rfl, r1, f1⟩ := h1.list s
           obtain ⟨c1, c2, c3⟩ := ‹_ ∧ _›
           refine .inr ⟨a, _, vs, rfl, h2.int, r1, by omega, c2, by rw [f1.length]; exact c3, fun p n => q _ _ Hf (.lst s n ?_)⟩
           rename_i k
           have : ∀ m : Nat, FzAll K Hf (List.replicate m vs).flatten (List.replicate m ‹List PyData›).flatten := fun m => by
             induction m with
             | zero => exact .nil
             | succ m ih =>
               rw [List.replicate_succ, List.replicate_succ, List.flatten_cons, List.flatten_cons]
               exact f1.append ih
           exact this _))
def CDiv' (i j : Int) : Prop := 0 < j ∧ j < 2 ^ 64
theorem op_divV : OpR X (binaryOp .FloorDiv) (rI CDiv' fun i j => .int (i / j)) := fun pins s σ H x y v u Q I rx ry h => by
  obtain ⟨i, j, e1, e2, c, q⟩ := h
  have c' : 0 < j ∧ j < 2 ^ 64 := c
  exact op_fdivW pins s σ H x y v u Q I rx ry ⟨i, j, e1, e2, wide_div (b := 64) c'.1 (by omega) (by decide) (by decide), q⟩
theorem ops_div : OpS K (rI CDiv' fun i j => .int (i / j)) dDiv := ops_int fun dx dy z e => by
  cases dx <;> cases dy <;> first
    | (cases e; done)
    | (simp only [dDiv] at e; split at e <;> cases e; exact ⟨_, _, rfl, rfl, ‹_›, rfl⟩)
theorem ops_mod : OpS K (rI (fun _ j => 0 < j) fun i j => .int (i % j)) dMod := ops_int fun dx dy z e => by
  cases dx <;> cases dy <;> first
    | (cases e; done)
    | (simp only [dMod] at e; split at e <;> cases e; exact ⟨_, _, rfl, rfl, ‹_›, rfl⟩)
theorem ops_pow : OpS K (rI CPow fun i j => .int (i ^ j.toNat)) dPow := ops_int fun dx dy z e => by
  cases dx <;> cases dy <;> first
    | (cases e; done)
    | (simp only [dPow] at e; split at e <;> cases e; exact ⟨_, _, rfl, rfl, ‹_›, rfl⟩)
theorem ops_shl : OpS K (rI CPow fun i j => .int (i * 2 ^ j.toNat)) dShl := ops_int fun dx dy z e => by
  cases dx <;> cases dy <;> first
    | (cases e; done)
    | (simp only [dShl] at e; split at e <;> cases e; exact ⟨_, _, rfl, rfl, ‹_›, rfl⟩)
theorem ops_shr : OpS K (rI (fun _ j => 0 ≤ j) fun i j => .int (i / 2 ^ j.toNat)) dShr := ops_int fun dx dy z e => by
  cases dx <;> cases dy <;> first
    | (cases e; done)
    | (simp only [dShr] at e; split at e <;> cases e; exact ⟨_, _, rfl, rfl, ‹_›, rfl⟩)
theorem ops_and : OpS K (rI0 fun i j => .int (Builtin.bitAnd i j)) dAnd := ops_int0 fun dx dy z e => by
  cases dx <;> cases dy <;> cases e
  exact ⟨_, _, rfl, rfl, rfl⟩
/-! comparisons -/
def rEqV (K : PySem.W.Frag) : R2 := fun x y H Q => rEq x y H Q ∨ rEqD K x y H Q
def rNeV (K : PySem.W.Frag) : R2 := fun x y H Q => rNe x y H Q ∨ rNeD K x y H Q
theorem op_eqV (hu : X.A.units + 64 < cLine) : OpR X (compareOp .Eq) (rEqV X.K) := op_eq.or (op_eqD hu)
theorem op_neV (hu : X.A.units + 64 < cLine) : OpR X (compareOp .NotEq) (rNeV X.K) := op_ne.or (op_neD hu)
theorem dEqv_some {a b : D} {c : Bool} (h : dEqv a b = some c) : SeqAt.shaped a = true ∧ SeqAt.shaped b = true ∧ PyData.eqv a b = c := by
  unfold dEqv at h
  split at h
  · rename_i q
    rw [Bool.and_eq_true] at q
    exact ⟨q.1, q.2, Option.some.inj h⟩
  · cases h
theorem dSc_ok {x y : V} {a b : D} {c : Bool} (s : Same Hf H) (h1 : Fz1 K Hf H x a) (h2 : Fz1 K Hf H y b) (e : dSc a b = some c) :
    (L2.scal x y = true ∧ decide (x = y) = c) ∨ ∃ d e, Dp K H x d ∧ Dp K H y e ∧ SeqAt.shaped d = true ∧ SeqAt.shaped e = true ∧ PyData.eqv d e = c := by
  have go : ∀ {a b : D}, Fz1 K Hf H x a → Fz1 K Hf H y b → dEqv a b = some c → ∃ d e, Dp K H x d ∧ Dp K H y e ∧ SeqAt.shaped d = true ∧ SeqAt.shaped e = true ∧ PyData.eqv d e = c := fun {a b} h1 h2 e => by
    obtain ⟨q1, q2, q3⟩ := dEqv_some e
    exact ⟨a, b, h1.dp s (SeqAt.canLay_of_shaped q1), h2.dp s (SeqAt.canLay_of_shaped q2), q1, q2, q3⟩
  cases a <;> cases b <;> first
    | exact .inr (go h1 h2 e)
    | (have e' := Option.some.inj e
       subst e'
       first
         | (cases h1.none; cases h2.none; exact .inl ⟨rfl, by simp⟩)
         | (cases h1.none; cases h2.int; exact .inl ⟨rfl, by simp⟩)
         | (cases h1.none; cases h2.bool; exact .inl ⟨rfl, by simp⟩)
         | (cases h1.none; cases h2.str; exact .inl ⟨rfl, by simp⟩)
         | (cases h1.int; cases h2.none; exact .inl ⟨rfl, by simp⟩)
         | (cases h1.bool; cases h2.none; exact .inl ⟨rfl, by simp⟩)
         | (cases h1.str; cases h2.none; exact .inl ⟨rfl, by simp⟩)
         | (cases h1.int; cases h2.int; exact .inl ⟨rfl, by simp⟩)
         | (cases h1.bool; cases h2.bool; exact .inl ⟨rfl, by simp⟩)
         | (cases h1.str; cases h2.str; exact .inl ⟨rfl, by simp⟩)
         | (cases h1.int; cases h2.str; exact .inl ⟨rfl, by simp⟩)
         | (cases h1.str; cases h2.int; exact .inl ⟨rfl, by simp⟩)
         | (cases h1.bool; cases h2.str; exact .inl ⟨rfl, by simp⟩)
         | (cases h1.str; cases h2.bool; exact .inl ⟨rfl, by simp⟩))
theorem ops_eq : OpS K (rEqV K) dEq := fun Hf H x y dx dy z Q s h1 h2 e q => by
  cases h : dSc dx dy with
  | none => rw [dEq, h] at e; cases e
  | some c =>
    rw [dEq, h] at e
    cases e
    rcases dSc_ok s h1 h2 h with ⟨a, b⟩ | ⟨d, e, a1, a2, a3, a4, a5⟩
    · exact .inl ⟨a, by rw [b]; exact q _ H Hf (.z s (.bl _))⟩
    · exact .inr ⟨d, e, a1, a2, a3, a4, by rw [a5]; exact q _ H Hf (.z s (.bl _))⟩
theorem ops_ne : OpS K (rNeV K) dNe := fun Hf H x y dx dy z Q s h1 h2 e q => by
  cases h : dSc dx dy with
  | none => rw [dNe, h] at e; cases e
  | some c =>
    rw [dNe, h] at e
    cases e
    rcases dSc_ok s h1 h2 h with ⟨a, b⟩ | ⟨d, e, a1, a2, a3, a4, a5⟩
    · exact .inl ⟨a, by rw [b]; exact q _ H Hf (.z s (.bl _))⟩
    · exact .inr ⟨d, e, a1, a2, a3, a4, by rw [a5]; exact q _ H Hf (.z s (.bl _))⟩
def rLtV : R2 := fun x y H Q => rI0 (fun i j => .bl (decide (i < j))) x y H Q ∨ ∃ i j, x = .str i ∧ y = .str j ∧ Q (.bl (decide (i.cps.toList < j.cps.toList))) H
def rGtV : R2 := fun x y H Q => rI0 (fun i j => .bl (decide (j < i))) x y H Q ∨ ∃ i j, x = .str i ∧ y = .str j ∧ Q (.bl (decide (j.cps.toList < i.cps.toList))) H
theorem op_ltV : OpR X (compareOp .Lt) rLtV := op_lt.or op_lt_str
theorem op_gtV : OpR X (compareOp .Gt) rGtV := op_gt.or op_gt_str
theorem ops_lt : OpS K rLtV dLt := fun Hf H x y dx dy z Q s h1 h2 e q => by
  cases dx <;> cases dy <;> first
    | (cases e; done)
    | (cases e; exact .inl ⟨_, _, h1.int, h2.int, q _ H Hf (.z s (.bl _))⟩)
    | (cases e; exact .inr ⟨_, _, h1.str, h2.str, q _ H Hf (.z s (.bl _))⟩)
theorem ops_gt : OpS K rGtV dGt := fun Hf H x y dx dy z Q s h1 h2 e q => by
  cases dx <;> cases dy <;> first
    | (cases e; done)
    | (cases e; exact .inl ⟨_, _, h1.int, h2.int, q _ H Hf (.z s (.bl _))⟩)
    | (cases e; exact .inr ⟨_, _, h1.str, h2.str, q _ H Hf (.z s (.bl _))⟩)
theorem ops_le : OpS K (rI0 fun i j => .bl (decide (i ≤ j))) dLe := fun Hf H x y dx dy z Q s h1 h2 e q => by
  cases dx <;> cases dy <;> first
    | (cases e; done)
    | (cases e; exact ⟨_, _, h1.int, h2.int, q _ H Hf (.z s (.bl _))⟩)
theorem ops_ge : OpS K (rI0 fun i j => .bl (decide (j ≤ i))) dGe := fun Hf H x y dx dy z Q s h1 h2 e q => by
  cases dx <;> cases dy <;> first
    | (cases e; done)
    | (cases e; exact ⟨_, _, h1.int, h2.int, q _ H Hf (.z s (.bl _))⟩)
def rIsN : R2 := fun x y H Q => y = .non ∧ Q (.bl (decide (x = .non))) H
def rNotN : R2 := fun x y H Q => y = .non ∧ Q (.bl (!decide (x = .non))) H
theorem op_isV : OpR X (compareOp .Is) rIsN := op_isN
theorem op_isntV : OpR X (compareOp .IsNot) rNotN := op_notN
theorem ops_is : OpS K rIsN dIs := fun Hf H x y dx dy z Q s h1 h2 e q => by
  cases dy <;> first
    | (cases dx <;> cases e; done)
    | (refine ⟨h2.none, ?_⟩; rw [h1.non_iff]; cases dx <;> cases e <;> exact q _ H Hf (.z s (.bl _)))
theorem ops_isnt : OpS K rNotN dIsnt := fun Hf H x y dx dy z Q s h1 h2 e q => by
  cases dy <;> first
    | (cases dx <;> cases e; done)
    | (refine ⟨h2.none, ?_⟩; rw [h1.non_iff]; cases dx <;> cases e <;> exact q _ H Hf (.z s (.bl _)))
/-! subscripts -/
theorem ops_at : OpS K (rIx K) dAt := fun Hf H x y dx dy z Q s h1 h2 e q => by
  unfold dAt at e
  split at e
  · cases h : atI ‹List D› ‹Int› with
    | none => rw [h] at e; cases e
    | some d =>
      rw [h] at e
      cases e
      obtain ⟨a, vs, rfl, r, f⟩ := h1.list s
      obtain ⟨v, e1, f1⟩ := f.at h
      exact .inl ⟨a, vs, _, v, rfl, h2.int, SqL.of r, e1, q _ H Hf (.z s f1)⟩
  · cases h : atI ‹List D› ‹Int› with
    | none => rw [h] at e; cases e
    | some d =>
      rw [h] at e
      cases e
      obtain ⟨a, vs, rfl, r, f⟩ := h1.tup
      obtain ⟨v, e1, f1⟩ := f.at h
      exact .inr (.inl ⟨a, vs, _, v, rfl, h2.int, Same.seqT s r, e1, q _ H Hf (.z s f1)⟩)
  · split at e
    · cases h : atI (‹Str› : Str).cps.toList ‹Int› with
      | none => rw [h] at e; cases e
      | some d =>
        rw [h] at e
        cases e
        exact .inr (.inr ⟨_, _, d, h1.str, h2.int, ‹_›, h, q _ H Hf (.z s (.str _))⟩)
    · cases e
  · cases h : atI ‹List D› ‹Int› with
    | none => rw [h] at e; cases e
    | some d =>
      rw [h] at e
      cases e
      obtain ⟨a, ns, rfl, r, rfl⟩ := h1.scr s
      rw [atI_map] at h
      cases h' : atI ns ‹Int› with
      | none => rw [h'] at h; cases h
      | some n =>
        rw [h'] at h
        cases h
        exact .inl ⟨a, _, _, .int n, rfl, h2.int, r, by rw [atI_map, h']; rfl, q _ H Hf (.z s (.int n))⟩
  · cases e
end
end PV
namespace PV
open PySem PySem.Spec PyProof.Rows L2

/-! ### lists of frozen items -/
def RFs (g : GW) (σ : St) (fr : List (V × Va)) : Hp → Hp → List D → Ev → List V → Prop := fun Hf H d Γ v => StOk g.h Hf H σ Γ fr ∧ FzAll g.h.K Hf v d
def tFs (g : GW) (f : Ev → Out (List D)) : TA := fun σ H Q => ∃ Hf Γ fr, StOk g.h Hf H σ Γ fr ∧ Post g σ fr (RFs g σ fr) Hf Q (f Γ)
structure PFs (X : Cx) (W : WX) (es : List Expr) (f : Ev → Out (List D)) : Prop where
  run : ∀ f0 h0, PA X es (tFs (gh X W f0 h0) f)
def fsN : Ev → Out (List D) := fun Γ => .ok [] Γ
def fsC (f : Ev → Out D) (fs : Ev → Out (List D)) : Ev → Out (List D) := fun Γ => (f Γ).bind fun d Γ1 => (fs Γ1).bind fun ds Γ2 => .ok (d :: ds) Γ2
section
variable {X : Cx} {W : WX} {e : Expr} {es : List Expr} {pos : Pos}
theorem pfs_n : PFs X W [] fsN := ⟨fun f0 h0 => pa_nil.imp fun σ H Q ⟨Hf, Γ, fr, st, p⟩ => p [] H Hf (Same.refl _) ⟨st, .nil⟩⟩
theorem pfs_c {f : Ev → Out D} {fs : Ev → Out (List D)} (h : PF X W e f) (hs : PFs X W es fs) (hst : starEach (e :: es) X.env = (false, eval e X.env) :: starEach es X.env := by rfl) : PFs X W (e :: es) (fsC f fs) :=
  ⟨fun f0 h0 => (pa_cons (h.run f0 h0) (hs.run f0 h0) hst).imp fun σ H Q ⟨Hf, Γ, fr, st, p⟩ => ⟨Hf, Γ, fr, st, Post.bind p fun d Γ1 _ v H1 Hf1 s1 ⟨st1, l1⟩ q => ⟨Hf1, Γ1, fr, st1, Post.bind q fun ds Γ2 _ vs H2 Hf2 s2 ⟨st2, l2⟩ q => q (v :: vs) H2 Hf2 (Same.refl _) ⟨st2, .cons (l1.mono s2) l2⟩⟩⟩⟩
/-- [a, b, ..], (a, b, ..) -/
def fLst (fs : Ev → Out (List D)) : Ev → Out Va := fun Γ => (fs Γ).bind fun ds Γ1 => .of (if ds.length ≤ 16777216 then some (.l .z, .list ds) else none) Γ1
def fTup (fs : Ev → Out (List D)) : Ev → Out D := fun Γ => (fs Γ).bind fun ds Γ1 => .of (if ds.length ≤ 16777216 then some (.tuple ds) else none) Γ1
theorem pv_lst {fs : Ev → Out (List D)} (h : PFs X W es fs) : PV X W (.List es pos) (fLst fs) :=
  ⟨fun f0 h0 => (pe_lst (h.run f0 h0)).imp fun σ H Q ⟨Hf, Γ, fr, st, p⟩ => ⟨Hf, Γ, fr, st, Post.bind p fun ds Γ1 _ vs H1 Hf1 s1 ⟨st1, l1⟩ q => by
    obtain ⟨x, e, q⟩ := Post.of q
    split at e <;> cases e
    refine ⟨by rw [l1.length, sizeLine_eq]; assumption, fun p n => ?_⟩
    exact q _ _ Hf1 (Same.refl _) (st1.pushN (.lst st1.sub n l1))⟩⟩
theorem pf_tup {fs : Ev → Out (List D)} {k} (h : PFs X W es fs) : PF X W (.Tuple es k pos) (fTup fs) :=
  ⟨fun f0 h0 => (pe_tup (h.run f0 h0)).imp fun σ H Q ⟨Hf, Γ, fr, st, p⟩ => ⟨Hf, Γ, fr, st, Post.bind p fun ds Γ1 _ vs H1 Hf1 s1 ⟨st1, l1⟩ q => by
    obtain ⟨x, e, q⟩ := Post.of q
    split at e <;> cases e
    refine ⟨by rw [l1.length, sizeLine_eq]; assumption, fun p n => ?_⟩
    have nv := NewV.tup (K := X.K) st1.sub n l1
    have st2 := st1.pushN nv
    exact q _ _ _ nv.f1 ⟨st2.pop, st2.top⟩⟩⟩
end

/-! ### calls of built-ins -/
def CallS (K : PySem.W.Frag) (r : List V → Hp → VK → Prop) (op : List D → Option Va) : Prop := ∀ (Hf H : Hp) (xs : List V) (ds : List D) (z : Va) (Q : VK), Same Hf H → Fz1All K Hf H xs ds → op ds = some z → (∀ v H' Hf', NewV K Hf H H' Hf' v z → Q v H') → r xs H Q
def fB (op : List D → Option Va) (os : Opns) : Ev → Out Va := fun Γ => (os.f Γ).bind fun ds Γ1 => .of ((os.l Γ1 ds).bind op) Γ1
section
variable {X : Cx} {W : WX} {e : Expr} {es : List Expr} {x : Str} {p pos : Pos} {id T : String} {r : List V → Hp → VK → Prop} {op : List D → Option Va} {os : Opns}
theorem tCB_of {g : GW} (hs : CallS g.h.K r op) {σ : St} {H : Hp} {Q : VK} (h : tV g (fB op os) σ H Q) : tCB r (tA g os) σ H Q := by
  obtain ⟨Hf, Γ, fr, st, p⟩ := h
  refine ⟨Hf, Γ, fr, st, Post.bind p fun ds Γ1 _ vs H1 Hf1 s1 ⟨st1, l1⟩ q => ?_⟩
  obtain ⟨z, e, q⟩ := Post.of q
  cases h : os.l Γ1 ds with
  | none => rw [h] at e; cases e
  | some ds' =>
    rw [h] at e
    exact hs Hf1 H1 vs ds' z Q st1.sub (l1 Γ1 Hf1 H1 fr (Same.refl _) st1 ds' h) e fun v' H' Hf' n => q v' H' Hf' n.f1 (st1.pushN n)
theorem pv_callB (hc : CallR X (.builtin id) r) (hs : CallS X.K r op) (hg : Gl X x) (hm : X.mg x = none) (hv : bootBuiltins x = some (.builtin id)) (ha : PZs X W (e :: es) os) (hn : x ≠ "__name__" := by decide) (hdb : (x == ("__debug__" : Str)) = false := by decide)
    (he : starEach (e :: es) X.env = (false, eval e X.env) :: starEach es X.env := by rfl) (hpl : (backTo pos (starEach es X.env)).any (·.1) = false := by rfl) : PV X W (.Call (.Name x p) (e :: es) [] pos) (fB op os) :=
  ⟨fun f0 h0 => (pe_callB hc hg hm hv (ha.run f0 h0) hn hdb he hpl).imp fun σ H Q h => tCB_of hs h⟩
theorem pv_callTy (hc : CallR X (.type T) r) (hs : CallS X.K r op) (hg : Gl X x) (hm : X.mg x = none) (hv : bootBuiltins x = some (.type T)) (ha : PZs X W (e :: es) os) (hn : x ≠ "__name__" := by decide) (hdb : (x == ("__debug__" : Str)) = false := by decide)
    (he : starEach (e :: es) X.env = (false, eval e X.env) :: starEach es X.env := by rfl) (hpl : (backTo pos (starEach es X.env)).any (·.1) = false := by rfl) : PV X W (.Call (.Name x p) (e :: es) [] pos) (fB op os) :=
  ⟨fun f0 h0 => (pe_callTy hc hg hm hv (ha.run f0 h0) hn hdb he hpl).imp fun σ H Q h => tCB_of hs h⟩
end
section
variable {X : Cx} {K : PySem.W.Frag}
theorem Fz1All.one {Hf H : Hp} {xs : List V} {d : D} (h : Fz1All K Hf H xs [d]) : ∃ v, xs = [v] ∧ Fz1 K Hf H v d := by
  cases h with
  | cons h r => cases r; exact ⟨_, rfl, h⟩
theorem Fz1All.two {Hf H : Hp} {xs : List V} {d e : D} (h : Fz1All K Hf H xs [d, e]) : ∃ v w, xs = [v, w] ∧ Fz1 K Hf H v d ∧ Fz1 K Hf H w e := by
  cases h with
  | cons h r =>
    cases r with
    | cons h2 r2 => cases r2; exact ⟨_, _, rfl, h, h2⟩
def dLen : List D → Option Va
  | [.list ds] => some (.z, .int ds.length)
  | [.tuple ds] => some (.z, .int ds.length)
  | [.str z] => if z.length ≤ 16777216 then some (.z, .int z.length) else none
  | [.dict [(.none, .list ds)]] => some (.z, .int ds.length)
  | _ => none
def rLenV (K : PySem.W.Frag) : List V → Hp → VK → Prop := fun xs H Q => (∃ p ys, xs = [.ref p] ∧ (SqL K H p ys ∨ SqT K H p ys) ∧ Q (.int ys.length) H) ∨ ∃ z, xs = [.str z] ∧ z.length ≤ sizeLine ∧ Q (.int z.length) H
theorem call_lenV : CallR X (.builtin "len") (rLenV X.K) := call_len_seq.or call_len_str
theorem cs_len : CallS K (rLenV K) dLen := fun Hf H xs ds z Q s h e q => by
  unfold dLen at e
  split at e
  · obtain ⟨v, rfl, hh⟩ := h.one
    cases e
    obtain ⟨a, vs, rfl, r, f⟩ := hh.list s
    exact .inl ⟨a, vs, rfl, .inl (SqL.of r), by rw [f.length]; exact q _ H Hf (.z s (.int _))⟩
  · obtain ⟨v, rfl, hh⟩ := h.one
    cases e
    obtain ⟨a, vs, rfl, r, f⟩ := hh.tup
    exact .inl ⟨a, vs, rfl, .inr (Same.seqT s r), by rw [f.length]; exact q _ H Hf (.z s (.int _))⟩
  · obtain ⟨v, rfl, hh⟩ := h.one
    split at e <;> cases e
    cases hh.str
    exact .inr ⟨_, rfl, by rw [sizeLine_eq]; assumption, q _ H Hf (.z s (.int _))⟩
  · obtain ⟨v, rfl, hh⟩ := h.one
    cases e
    obtain ⟨a, ns, rfl, r, rfl⟩ := hh.scr s
    refine .inl ⟨a, _, rfl, .inl r, ?_⟩
    rw [List.length_map] at q ⊢
    exact q _ H Hf (.z s (.int _))
  · cases e
/-- int(n), int(flag) -/
def dInt : List D → Option Va
  | [.int i] => some (.z, .int i)
  | [.bool b] => some (.z, .int (if b then 1 else 0))
  | _ => none
theorem cs_int : CallS K (fun xs H Q => (∃ i, xs = [.int i] ∧ Q (.int i) H) ∨ ∃ k, xs = [.bl k] ∧ Q (.int (if k then 1 else 0)) H) dInt := fun Hf H xs ds z Q s h e q => by
  unfold dInt at e
  split at e
  · obtain ⟨v, rfl, hh⟩ := h.one
    cases e
    cases hh.int
    exact .inl ⟨_, rfl, q _ H Hf (.z s (.int _))⟩
  · obtain ⟨v, rfl, hh⟩ := h.one
    cases e
    cases hh.bool
    exact .inr ⟨_, rfl, q _ H Hf (.z s (.int _))⟩
  · cases e
/-- list(xs), tuple(xs) -/
def dListOf : List D → Option Va
  | [.list ds] => some (.l .z, .list ds)
  | [.tuple ds] => some (.l .z, .list ds)
  | _ => none
theorem cs_list : CallS K (fun xs H Q => ∃ p ys, xs = [.ref p] ∧ (SqL K H p ys ∨ SqT K H p ys) ∧ ∀ l, H l = none → Q (.ref l) (upd H l (.lst ys))) dListOf := fun Hf H xs ds z Q s h e q => by
  unfold dListOf at e
  split at e
  · obtain ⟨v, rfl, hh⟩ := h.one
    cases e
    obtain ⟨a, vs, rfl, r, f⟩ := hh.list s
    exact ⟨a, vs, rfl, .inl (SqL.of r), fun l n => q _ _ Hf (.lst s n f)⟩
  · obtain ⟨v, rfl, hh⟩ := h.one
    cases e
    obtain ⟨a, vs, rfl, r, f⟩ := hh.tup
    exact ⟨a, vs, rfl, .inr (Same.seqT s r), fun l n => q _ _ Hf (.lst s n f)⟩
  · cases e
def dTupOf : List D → Option Va
  | [.list ds] => some (.z, .tuple ds)
  | [.tuple ds] => some (.z, .tuple ds)
  | _ => none
theorem cs_tuple : CallS K (fun xs H Q => ∃ p ys, xs = [.ref p] ∧ ((SqL K H p ys ∧ ∀ l, H l = none → Q (.ref l) (upd H l (.tup ys))) ∨ (SqT K H p ys ∧ Q (.ref p) H))) dTupOf := fun Hf H xs ds z Q s h e q => by
  unfold dTupOf at e
  split at e
  · obtain ⟨v, rfl, hh⟩ := h.one
    cases e
    obtain ⟨a, vs, rfl, r, f⟩ := hh.list s
    exact ⟨a, vs, rfl, .inl ⟨SqL.of r, fun l n => q _ _ _ (.tup s n f)⟩⟩
  · obtain ⟨v, rfl, hh⟩ := h.one
    cases e
    obtain ⟨a, vs, rfl, r, f⟩ := hh.tup
    exact ⟨a, vs, rfl, .inr ⟨Same.seqT s r, q _ H Hf (.z s (.tup r f))⟩⟩
  · cases e
/-- the dInts, the truth values of a list -/
def dInts : List D → Option (List Int)
  | [] => some []
  | .int i :: ds => (dInts ds).map (i :: ·)
  | _ => none
theorem ints_eq : ∀ {ds : List D} {ns : List Int}, dInts ds = some ns → ds = ns.map .int
  | [], ns, h => by cases h; rfl
  | .int i :: ds, ns, h => by
    cases q : dInts ds with
    | none => rw [dInts, q] at h; cases h
    | some ms =>
      rw [dInts, q] at h
      cases h
      rw [ints_eq q]
      rfl
  | .none :: _, _, h => nomatch h
  | .bool _ :: _, _, h => nomatch h
  | .str _ :: _, _, h => nomatch h
  | .list _ :: _, _, h => nomatch h
  | .tuple _ :: _, _, h => nomatch h
  | .dict _ :: _, _, h => nomatch h
theorem ints_map : ∀ (ns : List Int), dInts (ns.map .int) = some ns
  | [] => rfl
  | n :: ns => by rw [List.map_cons, dInts, ints_map ns]; rfl
def dBools : List D → Option (List Bool)
  | [] => some []
  | .bool i :: ds => (dBools ds).map (i :: ·)
  | _ => none
theorem bools_eq : ∀ {ds : List D} {ns : List Bool}, dBools ds = some ns → ds = ns.map .bool
  | [], ns, h => by cases h; rfl
  | .bool i :: ds, ns, h => by
    cases q : dBools ds with
    | none => rw [dBools, q] at h; cases h
    | some ms =>
      rw [dBools, q] at h
      cases h
      rw [bools_eq q]
      rfl
  | .none :: _, _, h => nomatch h
  | .int _ :: _, _, h => nomatch h
  | .str _ :: _, _, h => nomatch h
  | .list _ :: _, _, h => nomatch h
  | .tuple _ :: _, _, h => nomatch h
  | .dict _ :: _, _, h => nomatch h
theorem bools_map : ∀ (ns : List Bool), dBools (ns.map .bool) = some ns
  | [] => rfl
  | n :: ns => by rw [List.map_cons, dBools, bools_map ns]; rfl
def dSum : List D → Option Va
  | [.list ds] => (dInts ds).map fun ns => (.z, .int ns.sum)
  | _ => none
def maxI : Int → List Int → Int
  | m, [] => m
  | m, n :: ns => maxI (if m < n then n else m) ns
def minI : Int → List Int → Int
  | m, [] => m
  | m, n :: ns => minI (if n < m then n else m) ns
def dMax : List D → Option Va
  | [.list ds] => match dInts ds with | some (n :: ns) => some (.z, .int (maxI n ns)) | _ => none
  | [.int i, .int j] => some (.z, .int (if i < j then j else i))
  | _ => none
def dMin : List D → Option Va
  | [.list ds] => match dInts ds with | some (n :: ns) => some (.z, .int (minI n ns)) | _ => none
  | [.int i, .int j] => some (.z, .int (if j < i then j else i))
  | _ => none
def dAll : List D → Option Va
  | [.list ds] => (dBools ds).map fun bs => (.z, .bool (bs.all id))
  | _ => none
def dAny : List D → Option Va
  | [.list ds] => (dBools ds).map fun bs => (.z, .bool (bs.any id))
  | _ => none
def dAbs : List D → Option Va
  | [.int i] => some (.z, .int (if i < 0 then -i else i))
  | _ => none
theorem cs_sum : CallS K (rSum K) dSum := fun Hf H xs ds z Q s h e q => by
  unfold dSum at e
  split at e
  · obtain ⟨v, rfl, hh⟩ := h.one
    cases h2 : dInts ‹List D› with
    | none => rw [h2] at e; cases e
    | some ns =>
      rw [h2] at e
      cases e
      obtain ⟨a, vs, rfl, r, f⟩ := hh.list s
      rw [ints_eq h2] at f
      rw [f.ints] at r
      exact ⟨a, ns, rfl, SqL.of r, q _ H Hf (.z s (.int _))⟩
  · cases e
theorem cs_all : CallS K (rAll K) dAll := fun Hf H xs ds z Q s h e q => by
  unfold dAll at e
  split at e
  · obtain ⟨v, rfl, hh⟩ := h.one
    cases h2 : dBools ‹List D› with
    | none => rw [h2] at e; cases e
    | some ns =>
      rw [h2] at e
      cases e
      obtain ⟨a, vs, rfl, r, f⟩ := hh.list s
      rw [bools_eq h2] at f
      rw [f.bools] at r
      exact ⟨a, ns, rfl, SqL.of r, q _ H Hf (.z s (.bl _))⟩
  · cases e
theorem cs_any : CallS K (rAny K) dAny := fun Hf H xs ds z Q s h e q => by
  unfold dAny at e
  split at e
  · obtain ⟨v, rfl, hh⟩ := h.one
    cases h2 : dBools ‹List D› with
    | none => rw [h2] at e; cases e
    | some ns =>
      rw [h2] at e
      cases e
      obtain ⟨a, vs, rfl, r, f⟩ := hh.list s
      rw [bools_eq h2] at f
      rw [f.bools] at r
      exact ⟨a, ns, rfl, SqL.of r, q _ H Hf (.z s (.bl _))⟩
  · cases e
theorem maxI_spec : ∀ (ns : List Int) (m : Int), (maxI m ns = m ∨ maxI m ns ∈ ns) ∧ m ≤ maxI m ns ∧ ∀ y ∈ ns, y ≤ maxI m ns
  | [], m => ⟨.inl rfl, Int.le_refl _, fun _ h => nomatch h⟩
  | n :: ns, m => by
    unfold maxI
    obtain ⟨h1, h2, h3⟩ := maxI_spec ns (if m < n then n else m)
    by_cases c : m < n
    · rw [if_pos c] at h1 h2 h3 ⊢
      refine ⟨.inr ?_, by omega, fun y hy => ?_⟩
      · rcases h1 with h1 | h1
        · rw [h1]; exact List.mem_cons_self
        · exact List.mem_cons_of_mem _ h1
      · rcases List.mem_cons.mp hy with rfl | hy
        · exact h2
        · exact h3 y hy
    · rw [if_neg c] at h1 h2 h3 ⊢
      refine ⟨?_, by omega, fun y hy => ?_⟩
      · rcases h1 with h1 | h1
        · exact .inl h1
        · exact .inr (List.mem_cons_of_mem _ h1)
      · rcases List.mem_cons.mp hy with rfl | hy
        · omega
        · exact h3 y hy
theorem minI_spec : ∀ (ns : List Int) (m : Int), (minI m ns = m ∨ minI m ns ∈ ns) ∧ minI m ns ≤ m ∧ ∀ y ∈ ns, minI m ns ≤ y
  | [], m => ⟨.inl rfl, Int.le_refl _, fun _ h => nomatch h⟩
  | n :: ns, m => by
    unfold minI
    obtain ⟨h1, h2, h3⟩ := minI_spec ns (if n < m then n else m)
    by_cases c : n < m
    · rw [if_pos c] at h1 h2 h3 ⊢
      refine ⟨.inr ?_, by omega, fun y hy => ?_⟩
      · rcases h1 with h1 | h1
        · rw [h1]; exact List.mem_cons_self
        · exact List.mem_cons_of_mem _ h1
      · rcases List.mem_cons.mp hy with rfl | hy
        · exact h2
        · exact h3 y hy
    · rw [if_neg c] at h1 h2 h3 ⊢
      refine ⟨?_, by omega, fun y hy => ?_⟩
      · rcases h1 with h1 | h1
        · exact .inl h1
        · exact .inr (List.mem_cons_of_mem _ h1)
      · rcases List.mem_cons.mp hy with rfl | hy
        · omega
        · exact h3 y hy
theorem min_anti {a b c : Int} (h1 : a ≤ b) (h2 : b ≤ a) : a = b := by omega
def rMaxV (K : PySem.W.Frag) : List V → Hp → VK → Prop := fun xs H Q => rMax K xs H Q ∨ ∃ i j, xs = [.int i, .int j] ∧ Q (.int (if i < j then j else i)) H
def rMinV (K : PySem.W.Frag) : List V → Hp → VK → Prop := fun xs H Q => rMin K xs H Q ∨ ∃ i j, xs = [.int i, .int j] ∧ Q (.int (if j < i then j else i)) H
theorem cs_max : CallS K (rMaxV K) dMax := fun Hf H xs ds z Q s h e q => by
  unfold dMax at e
  split at e
  · obtain ⟨v, rfl, hh⟩ := h.one
    split at e
    · rename_i n ns h2
      cases e
      obtain ⟨a, vs, rfl, r, f⟩ := hh.list s
      rw [ints_eq h2] at f
      rw [f.ints] at r
      refine .inl ⟨a, n :: ns, rfl, SqL.of r, Nat.succ_pos _, fun m hm hy => ?_⟩
      obtain ⟨h1, h2, h3⟩ := maxI_spec ns n
      have e1 : m ≤ maxI n ns := by
        rcases List.mem_cons.mp hm with rfl | hm
        · exact h2
        · exact h3 m hm
      have e2 : maxI n ns ≤ m := by
        rcases h1 with h1 | h1
        · rw [h1]; exact hy n List.mem_cons_self
        · exact hy _ (List.mem_cons_of_mem _ h1)
      rw [min_anti (c := 0) e1 e2]
      exact q _ H Hf (.z s (.int _))
    · cases e
  · obtain ⟨v, w, rfl, h1, h2⟩ := h.two
    cases e
    cases h1.int
    cases h2.int
    exact .inr ⟨_, _, rfl, q _ H Hf (.z s (.int _))⟩
  · cases e
theorem cs_min : CallS K (rMinV K) dMin := fun Hf H xs ds z Q s h e q => by
  unfold dMin at e
  split at e
  · obtain ⟨v, rfl, hh⟩ := h.one
    split at e
    · rename_i n ns h2
      cases e
      obtain ⟨a, vs, rfl, r, f⟩ := hh.list s
      rw [ints_eq h2] at f
      rw [f.ints] at r
      refine .inl ⟨a, n :: ns, rfl, SqL.of r, Nat.succ_pos _, fun m hm hy => ?_⟩
      obtain ⟨h1, h2, h3⟩ := minI_spec ns n
      have e1 : minI n ns ≤ m := by
        rcases List.mem_cons.mp hm with rfl | hm
        · exact h2
        · exact h3 m hm
      have e2 : m ≤ minI n ns := by
        rcases h1 with h1 | h1
        · rw [h1]; exact hy n List.mem_cons_self
        · exact hy _ (List.mem_cons_of_mem _ h1)
      rw [min_anti (c := 0) e2 e1]
      exact q _ H Hf (.z s (.int _))
    · cases e
  · obtain ⟨v, w, rfl, h1, h2⟩ := h.two
    cases e
    cases h1.int
    cases h2.int
    exact .inr ⟨_, _, rfl, q _ H Hf (.z s (.int _))⟩
  · cases e
end
end PV
namespace PV
open PySem PySem.Spec PyProof.Rows L2

/-! ### a call of a def of one's own -/
def RPost (g : GW) (Hf H : Hp) (Q : VK) (E : XK) : Res → Prop
  | .ok x => ∀ v H' Hf', NewV g.h.K Hf H H' Hf' v x → Q v H'
  | .ex e => ∀ cls dx H' Hf', Same H H' → Same Hf Hf' → Same Hf' H' → (∀ a, Hf' a ≠ none → Hf a ≠ none ∨ H a = none) → ExOk g Hf' e cls dx → E cls dx H'
  | .st => False
/-- the promise of a def that computes F -/
def spV (K : PySem.W.Frag) (mg : Str → Option Value) (n : Nat) (F : List D → Res) : Sp := fun vs H Q E => ∃ Hf ds, ds.length = n ∧ Same Hf H ∧ FzAll K Hf vs ds ∧ RPost ⟨⟨K, Hf, H⟩, mg, fun _ _ _ _ => False⟩ Hf H Q E (F ds)
def fCall (n : Nat) (F : List D → Res) (fs : Ev → Out (List D)) : Ev → Out Va := fun Γ => (fs Γ).bind fun ds Γ1 => if ds.length = n then (match F ds with | .ok x => .ok x Γ1 | .ex e => .ex e Γ1 | .st => .st) else .st
section
variable {X : Cx} {W : WX} {e : Expr} {es : List Expr} {x : Str} {p pos : Pos}
theorem pv_call {f : Addr} {fd : FuncData} {ps : List Str} {k n : Nat} {F : List D → Res} {fs : Ev → Out (List D)} (hF : FnOk X.prog X.w X.K X.mg X.base (L2.CX X.prog X.w) k f fd ps (spV X.K X.mg n F)) (hr : Room k X.A) (hg : Gl X x) (hm : X.mg x = some (.ref f))
    (hk : PySem.W.keepIn X.K (.ref f) = true) (hb : Binds X.K fd ps []) (tk : Takes X W) (ha : PFs X W (e :: es) fs) (hdb : (x == ("__debug__" : Str)) = false := by decide) (he : starEach (e :: es) X.env = (false, eval e X.env) :: starEach es X.env := by rfl)
    (hpl : (backTo pos (starEach es X.env)).any (·.1) = false := by rfl) : PV X W (.Call (.Name x p) (e :: es) [] pos) (fCall n F fs) :=
  ⟨fun f0 h0 => (pe_callS (E := WE W) hF hr hg hm hk hb (fun σ => passAt tk σ) (ha.run f0 h0) hdb he hpl).imp fun σ H Q ⟨Hf, Γ, fr, st, p⟩ => ⟨Hf, Γ, fr, st, Post.bind p fun ds Γ1 _ vs H1 Hf1 s1 ⟨st1, l1⟩ q => by
    refine ⟨Hf1, ds, ?_, st1.sub, l1, ?_⟩
    · by_cases c : ds.length = n
      · exact c
      · rw [if_neg c] at q; exact q.elim
    · split at q
      · cases h : F ds with
        | ok x =>
          rw [h] at q
          exact fun v H' Hf' nv => q v H' Hf' nv.f1 (st1.pushN nv)
        | ex ee =>
          rw [h] at q
          exact fun cls dx H' Hf' a1 a2 a3 a4 a5 => q cls dx H' Hf' a2 a5 (st1.freeze a1 a2 a3 a4)
        | st =>
          rw [h] at q
          exact q
      · exact q.elim⟩⟩
end

/-! ### tests -/
def dTru : D → Option Bool
  | .none => some false
  | .bool b => some b
  | .int i => some (i != 0)
  | .str z => if z.length ≤ 16777216 then some ((z.length : Int) != 0) else none
  | .list ds => some (!ds.isEmpty)
  | .tuple ds => some (!ds.isEmpty)
  | _ => none
def bO (o : Opn) : Ev → Out Bool := fun Γ => (o.f Γ).bind fun d Γ1 => .of ((o.l Γ1 d).bind dTru) Γ1
def bNot (c : Ev → Out Bool) : Ev → Out Bool := fun Γ => (c Γ).bind fun b Γ1 => .ok (!b) Γ1
def bAnd (a b : Ev → Out Bool) : Ev → Out Bool := fun Γ => (a Γ).bind fun c Γ1 => if c = true then b Γ1 else .ok false Γ1
def bOr (a b : Ev → Out Bool) : Ev → Out Bool := fun Γ => (a Γ).bind fun c Γ1 => if c = true then .ok true Γ1 else b Γ1
def vIf (c : Ev → Out Bool) (a b : Ev → Out Va) : Ev → Out Va := fun Γ => (c Γ).bind fun k Γ1 => if k = true then a Γ1 else b Γ1
/-- .. as values -/
def dB : D → Option Bool
  | .bool b => some b
  | _ => none
def vAnd (a : Ev → Out D) (b : Ev → Out Va) : Ev → Out Va := fun Γ => (a Γ).bind fun d Γ1 => match d with | .bool true => b Γ1 | .bool false => .ok (.z, .bool false) Γ1 | _ => .st
def vOr (a : Ev → Out D) (b : Ev → Out Va) : Ev → Out Va := fun Γ => (a Γ).bind fun d Γ1 => match d with | .bool true => .ok (.z, .bool true) Γ1 | .bool false => b Γ1 | _ => .st
def fNot (a : Ev → Out D) : Ev → Out D := fun Γ => (a Γ).bind fun d Γ1 => match d with | .bool b => .ok (.bool !b) Γ1 | _ => .st
theorem isEmpty_len {α β : Type} {xs : List α} {ys : List β} (h : xs.length = ys.length) : xs.isEmpty = ys.isEmpty := by
  cases xs <;> cases ys <;> simp at h ⊢
section
variable {X : Cx} {W : WX} {a b : Expr} {rest : List Expr} {pos : Pos}
theorem pb_o {o : Opn} (h : PZ X W a o) (he : ∀ whole, isTrue a X.env whole = (do let v ← whole; standAt a.pos; holding [v] (truthy v)) := by intro _; rfl) : PB X W a (bO o) :=
  ⟨fun f0 h0 => (pt_truth (h.run f0 h0) he).imp fun σ H Q ⟨Hf, Γ, fr, st, p⟩ => ⟨Hf, Γ, fr, st, Post.bind p fun d Γ1 _ v H1 Hf1 s1 ⟨st1, l1⟩ q => by
    obtain ⟨c, e, q⟩ := Post.of q
    cases h : o.l Γ1 d with
    | none => rw [h] at e; cases e
    | some d' =>
      rw [h] at e
      have z := l1 Γ1 Hf1 H1 fr (Same.refl _) st1 d' h
      have fin := q c H1 Hf1 (Same.refl _) ⟨st1, rfl⟩
      cases d' with
      | none => cases e; cases z.none; exact ⟨_, rfl, fin⟩
      | bool _ => cases e; cases z.bool; exact ⟨_, rfl, fin⟩
      | int _ => cases e; cases z.int; exact ⟨_, rfl, fin⟩
      | str x =>
        change (if x.length ≤ 16777216 then _ else _) = _ at e
        split at e <;> cases e
        cases z.str
        exact ⟨_, ⟨by rw [sizeLine_eq]; assumption, rfl⟩, fin⟩
      | list ds =>
        cases e
        obtain ⟨a, vs, rfl, r, f⟩ := z.list st1.sub
        exact ⟨_, .inl ⟨vs, SqL.of r, by rw [isEmpty_len f.length]⟩, fin⟩
      | tuple ds =>
        cases e
        obtain ⟨a, vs, rfl, r, f⟩ := z.tup
        exact ⟨_, .inr (.inl ⟨vs, Same.seqT st1.sub r, by rw [isEmpty_len f.length]⟩), fin⟩
      | dict _ => cases e⟩⟩
theorem pb_not {c : Ev → Out Bool} (h : PB X W a c) : PB X W (.UnaryOp .Not a pos) (bNot c) :=
  ⟨fun f0 h0 => (pt_not (h.run f0 h0)).imp fun σ H Q ⟨Hf, Γ, fr, st, p⟩ => ⟨Hf, Γ, fr, st, Post.bind p fun d Γ1 _ v H1 Hf1 s1 ⟨st1, e⟩ q => q (!v) H1 Hf1 (Same.refl _) ⟨st1, by rw [e]⟩⟩⟩
theorem pb_w {c : Ev → Out Bool} (h : PBw X W a c) : PB X W a c := ⟨fun f0 h0 => (h.run f0 h0).pt⟩
theorem pw_a1 {c : Ev → Out Bool} (h : PB X W a c) : PBw X W (.BoolOp .And [a] pos) c := ⟨fun f0 h0 => pw_and1 (h.run f0 h0)⟩
theorem pw_o1 {c : Ev → Out Bool} (h : PB X W a c) : PBw X W (.BoolOp .Or [a] pos) c := ⟨fun f0 h0 => pw_or1 (h.run f0 h0)⟩
theorem pw_a {c d : Ev → Out Bool} (h : PB X W a c) (k : PBw X W (.BoolOp .And (b :: rest) pos) d) : PBw X W (.BoolOp .And (a :: b :: rest) pos) (bAnd c d) :=
  ⟨fun f0 h0 => (pw_and (h.run f0 h0) (k.run f0 h0)).imp fun σ H Q ⟨Hf, Γ, fr, st, p⟩ => ⟨Hf, Γ, fr, st, Post.bind p fun c Γ1 _ v H1 Hf1 s1 ⟨st1, e⟩ q => by
    subst e
    cases v with
    | true => exact ⟨Hf1, Γ1, fr, st1, q⟩
    | false => exact q false H1 Hf1 (Same.refl _) ⟨st1, rfl⟩⟩⟩
theorem pw_o {c d : Ev → Out Bool} (h : PB X W a c) (k : PBw X W (.BoolOp .Or (b :: rest) pos) d) : PBw X W (.BoolOp .Or (a :: b :: rest) pos) (bOr c d) :=
  ⟨fun f0 h0 => (pw_or (h.run f0 h0) (k.run f0 h0)).imp fun σ H Q ⟨Hf, Γ, fr, st, p⟩ => ⟨Hf, Γ, fr, st, Post.bind p fun c Γ1 _ v H1 Hf1 s1 ⟨st1, e⟩ q => by
    subst e
    cases v with
    | true => exact q true H1 Hf1 (Same.refl _) ⟨st1, rfl⟩
    | false => exact ⟨Hf1, Γ1, fr, st1, q⟩⟩⟩
theorem pv_if {c : Expr} {t : Ev → Out Bool} {f f' : Ev → Out Va} (h : PB X W c t) (h1 : PV X W a f) (h2 : PV X W b f') : PV X W (.IfExp c a b pos) (vIf t f f') :=
  ⟨fun f0 h0 => (pe_ifExp (h.run f0 h0) (h1.run f0 h0) (h2.run f0 h0)).imp fun σ H Q ⟨Hf, Γ, fr, st, p⟩ => ⟨Hf, Γ, fr, st, Post.bind p fun c Γ1 _ v H1 Hf1 s1 ⟨st1, e⟩ q => by
    subst e
    cases v with
    | true => exact ⟨Hf1, Γ1, fr, st1, q⟩
    | false => exact ⟨Hf1, Γ1, fr, st1, q⟩⟩⟩
theorem pv_one {op} {f : Ev → Out Va} (h : PV X W a f) : PV X W (.BoolOp op [a] pos) f := ⟨fun f0 h0 => pe_one (h.run f0 h0)⟩
theorem pv_and {f : Ev → Out D} {f' : Ev → Out Va} (h : PF X W a f) (h2 : PV X W (.BoolOp .And (b :: rest) pos) f') : PV X W (.BoolOp .And (a :: b :: rest) pos) (vAnd f f') :=
  ⟨fun f0 h0 => (pe_and (h.run f0 h0) (h2.run f0 h0)).imp fun σ H Q ⟨Hf, Γ, fr, st, p⟩ => ⟨Hf, Γ, fr, st, Post.bind p fun d Γ1 _ v H1 Hf1 s1 ⟨st1, z⟩ q => by
    cases d with
    | bool c =>
      cases z
      cases c with
      | true => exact ⟨true, rfl, Hf1, Γ1, fr, st1, q⟩
      | false => exact ⟨false, rfl, q _ H1 Hf1 (Same.refl _) (st1.push (.bl false))⟩
    | _ => exact q.elim⟩⟩
theorem pv_or {f : Ev → Out D} {f' : Ev → Out Va} (h : PF X W a f) (h2 : PV X W (.BoolOp .Or (b :: rest) pos) f') : PV X W (.BoolOp .Or (a :: b :: rest) pos) (vOr f f') :=
  ⟨fun f0 h0 => (pe_or (h.run f0 h0) (h2.run f0 h0)).imp fun σ H Q ⟨Hf, Γ, fr, st, p⟩ => ⟨Hf, Γ, fr, st, Post.bind p fun d Γ1 _ v H1 Hf1 s1 ⟨st1, z⟩ q => by
    cases d with
    | bool c =>
      cases z
      cases c with
      | false => exact ⟨false, rfl, Hf1, Γ1, fr, st1, q⟩
      | true => exact ⟨true, rfl, q _ H1 Hf1 (Same.refl _) (st1.push (.bl true))⟩
    | _ => exact q.elim⟩⟩
theorem pf_not {f : Ev → Out D} (h : PF X W a f) : PF X W (.UnaryOp .Not a pos) (fNot f) :=
  ⟨fun f0 h0 => (pe_not (h.run f0 h0)).imp fun σ H Q ⟨Hf, Γ, fr, st, p⟩ => ⟨Hf, Γ, fr, st, Post.bind p fun d Γ1 _ v H1 Hf1 s1 ⟨st1, z⟩ q => by
    cases d with
    | bool c =>
      cases z
      exact ⟨c, rfl, q _ H1 Hf1 (Same.refl _) ⟨st1, .bl _⟩⟩
    | _ => exact q.elim⟩⟩
def fNeg (a : Ev → Out D) : Ev → Out D := fun Γ => (a Γ).bind fun d Γ1 => match d with | .int i => .ok (.int (-i)) Γ1 | _ => .st
theorem pf_neg {f : Ev → Out D} (h : PF X W a f) : PF X W (.UnaryOp .USub a pos) (fNeg f) :=
  ⟨fun f0 h0 => (pe_un un_neg (h.run f0 h0)).imp fun σ H Q ⟨Hf, Γ, fr, st, p⟩ => ⟨Hf, Γ, fr, st, Post.bind p fun d Γ1 _ v H1 Hf1 s1 ⟨st1, z⟩ q => by
    cases d with
    | int c =>
      cases z
      exact ⟨c, rfl, q _ H1 Hf1 (Same.refl _) ⟨st1, .int _⟩⟩
    | _ => exact q.elim⟩⟩
end

/-! ### slices -/
def cut {α : Type} (xs : List α) (lo hi : Option Int) : List α := (xs.drop (HT.sIx xs.length 0 lo)).take (HT.sIx xs.length xs.length hi - HT.sIx xs.length 0 lo)
theorem FzAll.cut {K : PySem.W.Frag} {H : Hp} {vs : List V} {ds : List D} (h : FzAll K H vs ds) (lo hi : Option Int) : FzAll K H (cutV vs lo hi) (cut ds lo hi) := by
  unfold cutV PV.cut
  rw [h.length]
  exact (h.drop _).take _
def dCut : D → Option Int → Option Int → Option Va
  | .list ds, lo, hi => some (.l .z, .list (cut ds lo hi))
  | .tuple ds, lo, hi => some (.z, .tuple (cut ds lo hi))
  | .str z, lo, hi => if z.length ≤ 16777216 then some (.z, .str (cutS z lo hi)) else none
  | _, _, _ => none
def fPN : Ev → Out (Option Int) := fun Γ => .ok none Γ
def fPS (f : Ev → Out D) : Ev → Out (Option Int) := fun Γ => (f Γ).bind fun d Γ1 => match d with | .int i => .ok (some i) Γ1 | _ => .st
def vCut (o : Opn) (a b : Ev → Out (Option Int)) : Ev → Out Va := fun Γ => (o.f Γ).bind fun d Γ1 => (a Γ1).bind fun lo Γ2 => (b Γ2).bind fun hi Γ3 => .of ((o.l Γ3 d).bind fun d => dCut d lo hi) Γ3
def RP (g : GW) (σ : St) (fr : List (V × Va)) : Hp → Hp → Option Int → Ev → Option Int → Prop := fun Hf H b Γ c => StOk g.h Hf H σ Γ fr ∧ c = b
structure PPo (X : Cx) (W : WX) (e : Option Expr) (f : Ev → Out (Option Int)) : Prop where
  run : ∀ f0 h0, PO X e fun σ H Q => ∃ Hf Γ fr, StOk (gh X W f0 h0).h Hf H σ Γ fr ∧ Post (gh X W f0 h0) σ fr (RP (gh X W f0 h0) σ fr) Hf Q (f Γ)
theorem _root_.L2.PO.imp {X : Cx} {e : Option Expr} {t t' : St → Hp → (Option Int → Hp → Prop) → Prop} (h : PO X e t) (k : ∀ σ H Q, t' σ H Q → t σ H Q) : PO X e t' := ⟨fun pins s σ H Q I q => h.run pins s σ H Q I (k σ H Q q)⟩
section
variable {X : Cx} {W : WX} {e : Expr} {lo hi : Option Expr} {pos p2 : Pos}
theorem pp_n : PPo X W none fPN := ⟨fun f0 h0 => po_none.imp fun σ H Q ⟨Hf, Γ, fr, st, p⟩ => p none H Hf (Same.refl _) ⟨st, rfl⟩⟩
theorem pp_s {f : Ev → Out D} (h : PF X W e f) : PPo X W (some e) (fPS f) := ⟨fun f0 h0 => (po_some (h.run f0 h0)).imp fun σ H Q ⟨Hf, Γ, fr, st, p⟩ => ⟨Hf, Γ, fr, st, Post.bind p fun d Γ1 _ v H1 Hf1 s1 ⟨st1, z⟩ q => by
    cases d with
    | int c =>
      cases z
      exact ⟨c, rfl, q _ H1 Hf1 (Same.refl _) ⟨st1, rfl⟩⟩
    | _ => exact q.elim⟩⟩
theorem pv_cut {o : Opn} {a b : Ev → Out (Option Int)} (h : PZ X W e o) (hl : PPo X W lo a) (hu : PPo X W hi b) : PV X W (.Subscript e (.Slice lo hi none p2) pos) (vCut o a b) :=
  ⟨fun f0 h0 => (pe_slice (sl_list.or (sl_tupA.or sl_str)) (h.run f0 h0) (hl.run f0 h0) (hu.run f0 h0)).imp fun σ H Q ⟨Hf, Γ, fr, st, p⟩ => ⟨Hf, Γ, fr, st, Post.bind p fun d Γ1 _ v H1 Hf1 s1 ⟨st1, l1⟩ q =>
    ⟨Hf1, Γ1, fr, st1, Post.bind q fun lo Γ2 _ lo' H2 Hf2 s2 ⟨st2, e2⟩ q => ⟨Hf2, Γ2, fr, st2, Post.bind q fun hi Γ3 _ hi' H3 Hf3 s3 ⟨st3, e3⟩ q => by
      subst e2 e3
      obtain ⟨z, e, q⟩ := Post.of q
      cases h : o.l Γ3 d with
      | none => rw [h] at e; cases e
      | some d' =>
        rw [h] at e
        have z1 := l1 Γ3 Hf3 H3 fr (s2.trans s3) st3 d' h
        have sb := st3.sub
        cases d' with
        | list ds =>
          cases e
          obtain ⟨a, vs, rfl, r, f⟩ := z1.list sb
          exact .inl ⟨a, vs, rfl, SqL.of r, fun p n => q _ _ Hf3 (Same.refl _) (st3.pushN (.lst sb n (f.cut _ _)))⟩
        | tuple ds =>
          cases e
          obtain ⟨a, vs, rfl, r, f⟩ := z1.tup
          refine .inr (.inl ⟨a, vs, rfl, Same.seqT sb r, fun w => ?_, fun w p n => ?_⟩)
          · have e : cut ds lo' hi' = ds := by
              unfold cut
              rw [← f.length, w.1, w.2]
              rw [List.drop_zero, Nat.sub_zero, f.length, List.take_length]
            rw [e] at q
            exact q _ H3 Hf3 (Same.refl _) (st3.push (.tup r f))
          · have nv := NewV.tup (K := X.K) sb n (f.cut lo' hi')
            exact q _ _ _ nv.f1 (st3.pushN nv)
        | str x =>
          change (if x.length ≤ 16777216 then _ else _) = _ at e
          split at e <;> cases e
          cases z1.str
          exact .inr (.inr ⟨x, rfl, by rw [sizeLine_eq]; assumption, q _ H3 Hf3 (Same.refl _) (st3.push (.str _))⟩)
        | _ => cases e⟩⟩⟩⟩
end

/-! ### isinstance -/
def tyD : D → String
  | .none => "NoneType"
  | .bool _ => "bool"
  | .int _ => "int"
  | .str _ => "str"
  | .list _ => "list"
  | .tuple _ => "tuple"
  | .dict _ => "dict"
def isB (t T : String) : Bool := t == T || (t == "bool" && T == "int")
def dIsi (T : String) (d : D) : Option D := match d with
  | .dict [(.none, _)] => none
  | d => some (.bool (isB (tyD d) T))
def fIsi (T : String) (o : Opn) : Ev → Out D := fun Γ => (o.f Γ).bind fun d Γ1 => .of ((o.l Γ1 d).bind (dIsi T)) Γ1
theorem Fz1.ty {K : PySem.W.Frag} {Hf H : Hp} {v : V} {d : D} (s : Same Hf H) (h : Fz1 K Hf H v d) (hd : ∀ x, d ≠ .dict [(.none, x)]) : TyX K H v (.type (tyD d)) := by
  rcases h with h | ⟨a, vs, ds, rfl, rfl, h, r⟩
  · cases h with
    | non => exact .base .non
    | bl b => exact .base (.bl b)
    | int i => exact .base (.int i)
    | str x => exact .base (.str x)
    | lst h r => exact .base (.lst (s _ _ h))
    | scr ns h => exact absurd rfl (hd _)
    | raw _ => exact absurd rfl (hd _)
    | tup h r =>
      rcases h with (h | ⟨o, h⟩) | ⟨o, its, n, hk, hc, _⟩
      · exact .base (.tup (s _ _ h))
      · exact .fTuple (s _ _ h)
      · exact .kTuple hk hc
    | dK h r => exact .base (.dK (s _ _ h))
  · exact .base (.lst h)
section
variable {X : Cx} {W : WX} {a : Expr} {x T : Str} {p p2 pos : Pos}
theorem pf_isi {T : String} {o : Opn} {y : Str} (hg : Gl X x) (hm : X.mg x = none) (hv : bootBuiltins x = some (.builtin "isinstance")) (h : PZ X W a o) (hg2 : Gl X y) (hm2 : X.mg y = none) (hv2 : bootBuiltins y = some (.type T))
    (hk : ∀ t ∈ ["NoneType", "bool", "int", "str", "list", "tuple", "dict"], PySem.W.kitOne X.K (.type t) (.type T) = some (isB t T))
    (hn : x ≠ "__name__" := by decide) (hdb : (x == ("__debug__" : Str)) = false := by decide) (hn2 : y ≠ "__name__" := by decide) (hdb2 : (y == ("__debug__" : Str)) = false := by decide)
    (he : starEach [a, .Name y p2] X.env = (false, eval a X.env) :: starEach [.Name y p2] X.env := by rfl) (hpl : (backTo pos (starEach [.Name y p2] X.env)).any (·.1) = false := by rfl)
    (he2 : starEach [.Name y p2] X.env = (false, eval (.Name y p2) X.env) :: starEach [] X.env := by rfl) : PF X W (.Call (.Name x p) [a, .Name y p2] [] pos) (fIsi T o) :=
  ⟨fun f0 h0 => (pe_callB call_isi hg hm hv (pa_cons (h.run f0 h0) (pa_cons (pe_bltn hg2 hm2 hv2 (v := .ty T) rfl hn2 hdb2) pa_nil he2) he) hn hdb he hpl).imp fun σ H Q ⟨Hf, Γ, fr, st, p⟩ => ⟨Hf, Γ, fr, st, Post.bind p fun d Γ1 _ v H1 Hf1 s1 ⟨st1, l1⟩ q => by
    obtain ⟨c, e, q⟩ := Post.of q
    cases h : o.l Γ1 d with
    | none => rw [h] at e; cases e
    | some d' =>
      rw [h] at e
      have z := l1 Γ1 Hf1 H1 fr (Same.refl _) st1 d' h
      have e1 : (∀ x, d' ≠ .dict [(.none, x)]) ∧ c = .bool (isB (tyD d') T) := by
        change dIsi T d' = some c at e
        unfold dIsi at e
        split at e
        · cases e
        · rename_i hx
          cases e
          exact ⟨fun x z => hx x z, rfl⟩
      obtain ⟨e1, rfl⟩ := e1
      refine ⟨v, .ty T, .type (tyD d'), .type T, isB (tyD d') T, rfl, .ty T, z.ty st1.sub e1, hk _ ?_, q _ H1 Hf1 (Same.refl _) ⟨st1, .bl _⟩⟩
      cases d' <;> simp [tyD]⟩⟩
end

/-! ### methods of a list that stands at a slot -/
def MtS (K : PySem.W.Frag) (r : V → List V → Hp → VK → Prop) (op : List D → List D → Option (D × List D)) : Prop := ∀ (Hf H : Hp) (l : Addr) (vs : List V) (ds : List D) (xs : List V) (args : List D) (d : D) (ds' : List D) (Q : VK), H l = some (.lst vs) → FzAll K Hf vs ds → FzAll K Hf xs args →
  op ds args = some (d, ds') → (∀ v vs', FzAll K Hf vs' ds' → Fz K Hf v d → Q v (upd H l (.lst vs'))) → r (.ref l) xs H Q
def fMt (i : Nat) (op : List D → List D → Option (D × List D)) (fs : Ev → Out (List D)) : Ev → Out D := fun Γ => match Γ[i]? with
  | some (some (.l .z, .list _)) => (fs Γ).bind fun args Γ1 => (match Γ1[i]? with
    | some (some (.l .z, .list ds)) => (match op ds args with | some (d, ds') => .ok d (Γ1.set i (some (.l .z, .list ds'))) | none => .st)
    | _ => .st)
  | _ => .st
/-- the owned list of frozen items at a slot -/
theorem StOk.getLz {g : Gh} {Hf H : Hp} {σ : St} {Γ : Ev} {fr : List (V × Va)} {i : Nat} {ds : List D} (h : StOk g Hf H σ Γ fr) (hi : Γ[i]? = some (some (.l .z, .list ds))) : ∃ a vs, σ[i]? = some (some (.ref a)) ∧ H a = some (.lst vs) ∧ FzAll g.K Hf vs ds := by
  obtain ⟨ω, h⟩ := h
  obtain ⟨v, e, A, o, _⟩ := h.slots i _ hi
  obtain ⟨a, vs, ds', B, e1, e2, e3, r, e4⟩ := o
  cases e2
  subst e1
  exact ⟨a, vs, e, e3, r.zs.2⟩
section
variable {X : Cx} {W : WX} {e : Expr} {es : List Expr} {x name : Str} {p apos cpos : Pos} {id : String} {r : V → List V → Hp → VK → Prop} {op : List D → List D → Option (D × List D)} {fs : Ev → Out (List D)}
theorem mt_core {g : GW} (hs : MtS g.h.K r op) {i : Nat} {σ : St} {H : Hp} {Q : VK} (h : tF g (fMt i op fs) σ H Q) : tVar i σ H fun x H1 => tyV g.h.K "list" x H1 ∧ tFs g fs σ H1 fun xs H2 => r x xs H2 Q := by
  obtain ⟨Hf, Γ, fr, st, p⟩ := h
  unfold fMt at p
  split at p
  · rename_i ds0 hΓ
    obtain ⟨a, vs, e1, e2, _⟩ := st.getLz hΓ
    refine ⟨.ref a, e1, .inl ⟨rfl, vs, SqL.of e2⟩, Hf, Γ, fr, st, Post.bind p fun args Γ1 _ xs H1 Hf1 s1 ⟨st1, l1⟩ q => ?_⟩
    split at q
    · rename_i ds hΓ1
      obtain ⟨a', vs1, e3, e4, f4⟩ := st1.getLz hΓ1
      rw [e1] at e3
      cases e3
      split at q
      · rename_i d ds' ho
        exact hs Hf1 H1 a vs1 ds xs args d ds' Q e4 f4 l1 ho fun v vs' z1 z2 => q v _ Hf1 (Same.refl _) ⟨st1.mut hΓ1 e1 z1, z2⟩
      · exact q.elim
    · exact q.elim
  · exact p.elim
theorem pf_mt (i : Nat) (pa : PlainAttrs "list") (slot : Slot "list" name id) (hty : typeOf (.builtin id) = pure (.type "method_descriptor")) (hm : MtR X id r) (hs : MtS X.K r op) (ha : PFs X W (e :: es) fs)
    (hN : X.N[i]? = some x := by rfl) (hv : Vis X.env.scope x := by first | exact Or.inl rfl | exact Or.inr (Or.inl rfl) | exact Or.inr (Or.inr rfl)) (hd : (x == ("__debug__" : Str)) = false := by decide)
    (hcd : (x == ("__classdict__" : Str)) = false := by decide) (hbase : attributeBase (.Name x p) name X.env (eval (.Name x p) X.env) = eval (.Name x p) X.env := by rfl)
    (hfew : ((backTo cpos (starEach (e :: es) X.env)).all (fun x => !x.1) && (backToKw cpos (keywordEach [] X.env)).all (fun x => x.1.isSome) && decide ((e :: es).length + ([] : List Keyword).length + (if ([] : List Keyword).isEmpty then 0 else 1) < 30)) = true := by rfl)
    (hline : (apos.endLine == cpos.line) = true := by rfl) (hst : starEach (e :: es) X.env = (false, eval e X.env) :: starEach es X.env := by rfl) (hplain : (backTo cpos (starEach es X.env)).any (·.1) = false := by rfl) :
    PF X W (.Call (.Attribute (.Name x p) name apos) (e :: es) [] cpos) (fMt i op fs) :=
  ⟨fun f0 h0 => (pe_bm pa slot hty hm (pe_var hN hv hd hcd) (ha.run f0 h0) hbase hfew hline hst hplain).imp fun σ H Q h => mt_core (g := gh X W f0 h0) hs h⟩
theorem pf_mt0 (i : Nat) (pa : PlainAttrs "list") (slot : Slot "list" name id) (hty : typeOf (.builtin id) = pure (.type "method_descriptor")) (hm : MtR X id r) (hs : MtS X.K r op)
    (hN : X.N[i]? = some x := by rfl) (hv : Vis X.env.scope x := by first | exact Or.inl rfl | exact Or.inr (Or.inl rfl) | exact Or.inr (Or.inr rfl)) (hd : (x == ("__debug__" : Str)) = false := by decide)
    (hcd : (x == ("__classdict__" : Str)) = false := by decide) (hbase : attributeBase (.Name x p) name X.env (eval (.Name x p) X.env) = eval (.Name x p) X.env := by rfl) (hline : (apos.endLine == cpos.line) = true := by rfl) :
    PF X W (.Call (.Attribute (.Name x p) name apos) [] [] cpos) (fMt i op fsN) :=
  ⟨fun f0 h0 => (pe_bm0 pa slot hty hm (pe_var hN hv hd hcd) hbase hline).imp fun σ H Q h => by
    obtain ⟨v, e, ty, Hf, Γ, fr, st, p⟩ := mt_core (g := gh X W f0 h0) hs h
    exact ⟨v, e, ty, p [] H Hf (Same.refl _) ⟨st, .nil⟩⟩⟩
end
/-! the list's own methods -/
def mAppend : List D → List D → Option (D × List D)
  | ds, [d] => if ds.length < 16777216 then some (.none, ds ++ [d]) else none
  | _, _ => none
def mPop0 : List D → List D → Option (D × List D)
  | ds, [] => (ds[ds.length - 1]?).map fun d => (d, ds.dropLast)
  | _, _ => none
def mPop : List D → List D → Option (D × List D)
  | ds, [.int i] => if -(2 ^ 63) ≤ i ∧ i < 2 ^ 63 then ((seqIndex? i ds.length).bind fun k => (ds[k]?).map fun d => (d, ds.eraseIdx k)) else none
  | _, _ => none
def mReverse : List D → List D → Option (D × List D)
  | ds, [] => some (.none, ds.reverse)
  | _, _ => none
def mClear : List D → List D → Option (D × List D)
  | ds, [] => some (.none, [])
  | _, _ => none
def mInsert : List D → List D → Option (D × List D)
  | ds, [.int i, d] => if ds.length < 16777216 ∧ 0 ≤ i ∧ i < 2 ^ 63 then some (.none, ds.take i.toNat ++ [d] ++ ds.drop i.toNat) else none
  | _, _ => none
def mExtend : List D → List D → Option (D × List D)
  | ds, [.list es] => if ds.length + es.length ≤ 16777216 then some (.none, ds ++ es) else none
  | _, _ => none
section
variable {K : PySem.W.Frag}
theorem FzAll.one {H : Hp} {xs : List V} {d : D} (h : FzAll K H xs [d]) : ∃ v, xs = [v] ∧ Fz K H v d := by
  cases h with
  | cons h r => cases r; exact ⟨_, rfl, h⟩
theorem FzAll.two {H : Hp} {xs : List V} {d e : D} (h : FzAll K H xs [d, e]) : ∃ v w, xs = [v, w] ∧ Fz K H v d ∧ Fz K H w e := by
  cases h with
  | cons h r =>
    cases r with
    | cons h2 r2 => cases r2; exact ⟨_, _, rfl, h, h2⟩
theorem FzAll.zero {H : Hp} {xs : List V} (h : FzAll K H xs []) : xs = [] := by cases h; rfl
theorem FzAll.dropLast {H : Hp} {vs : List V} {ds : List D} (h : FzAll K H vs ds) : FzAll K H vs.dropLast ds.dropLast := by
  rw [List.dropLast_eq_take, List.dropLast_eq_take, h.length]
  exact h.take _
theorem ms_append : MtS K rAppend mAppend := fun Hf H l vs ds xs args d ds' Q h f fa e q => by
  unfold mAppend at e
  split at e
  · split at e <;> cases e
    obtain ⟨v, rfl, z⟩ := fa.one
    exact ⟨l, vs, v, rfl, rfl, h, by rw [f.length, sizeLine_eq]; assumption, q _ _ (f.append (.cons z .nil)) .non⟩
  · cases e
theorem ms_pop0 : MtS K rPop mPop0 := fun Hf H l vs ds xs args d ds' Q h f fa e q => by
  unfold mPop0 at e
  split at e
  · cases h2 : ds[ds.length - 1]? with
    | none => rw [h2] at e; cases e
    | some d0 =>
      rw [h2] at e
      cases e
      obtain ⟨v, e1, z⟩ := f.get h2
      exact ⟨l, vs, v, rfl, fa.zero, h, by rw [f.length]; exact e1, q _ _ f.dropLast z⟩
  · cases e
theorem ms_pop : MtS K rPopAt mPop := fun Hf H l vs ds xs args d ds' Q h f fa e q => by
  unfold mPop at e
  split at e
  · rename_i i
    split at e
    · rename_i c
      cases h1 : seqIndex? i ds.length with
      | none => rw [h1] at e; cases e
      | some k =>
        rw [h1] at e
        cases h2 : ds[k]? with
        | none =>
          have e' : (ds[k]?).map (fun d => (d, ds.eraseIdx k)) = some (d, ds') := e
          rw [h2] at e'; cases e'
        | some d0 =>
          have e' : (ds[k]?).map (fun d => (d, ds.eraseIdx k)) = some (d, ds') := e
          rw [h2] at e'
          cases e'
          obtain ⟨w, rfl, zi⟩ := fa.one
          cases zi
          obtain ⟨v, e1, z⟩ := f.get h2
          exact ⟨l, vs, i, k, v, rfl, rfl, h, c.1, c.2, by rw [f.length]; exact h1, e1, q _ _ (f.eraseIdx k) z⟩
    · cases e
  · cases e
theorem ms_reverse : MtS K rReverse mReverse := fun Hf H l vs ds xs args d ds' Q h f fa e q => by
  unfold mReverse at e
  split at e
  · cases e
    exact ⟨l, vs, rfl, fa.zero, h, q _ _ f.reverse .non⟩
  · cases e
theorem ms_clear : MtS K rClear mClear := fun Hf H l vs ds xs args d ds' Q h f fa e q => by
  unfold mClear at e
  split at e
  · cases e
    exact ⟨l, vs, rfl, fa.zero, h, q _ _ .nil .non⟩
  · cases e
def rInsert : V → List V → Hp → VK → Prop := fun x vs H Q => ∃ (l : Addr) (xs : List V) (i : Int) (y : V), x = .ref l ∧ vs = [.int i, y] ∧ H l = some (.lst xs) ∧ xs.length < sizeLine ∧ 0 ≤ i ∧ i < 2 ^ 63 ∧ Q .non (upd H l (.lst (xs.take i.toNat ++ [y] ++ xs.drop i.toNat)))
theorem mt_insertV {X : Cx} : MtR X "list.insert" rInsert := mt_insert
theorem ms_insert : MtS K rInsert mInsert := fun Hf H l vs ds xs args d ds' Q h f fa e q => by
  unfold mInsert at e
  split at e
  · split at e <;> cases e
    rename_i c
    obtain ⟨v, w, rfl, z1, z2⟩ := fa.two
    cases z1
    exact ⟨l, vs, _, w, rfl, rfl, h, by rw [f.length, sizeLine_eq]; exact c.1, c.2.1, c.2.2, q _ _ (((f.take _).append (.cons z2 .nil)).append (f.drop _)) .non⟩
  · cases e
end
end PV
namespace PV
open PySem PySem.Spec PyProof.Rows L2

/-! ### what is walked -/
/-- the walk J gives the data ds, item by item -/
def ItOk (K : PySem.W.Frag) (Hf : Hp) (J : It) (ds : List D) : Prop := ∀ i Hf1 H, Same Hf Hf1 → Same Hf1 H →
  (∀ d, ds[i]? = some d → J.go i H ∧ ∀ x H', J.yld i H x H' → ∃ Hf', Same H H' ∧ Same Hf1 Hf' ∧ Same Hf' H' ∧ (∀ a, Hf' a ≠ none → Hf1 a ≠ none ∨ H a = none) ∧ Fz K Hf' x d) ∧ (ds[i]? = none → J.stop i H)
def RI (g : GW) (σ : St) (fr : List (V × Va)) : Hp → Hp → List D → Ev → It → Prop := fun Hf H ds Γ J => StOk g.h Hf H σ Γ fr ∧ ItOk g.h.K Hf J ds
def tI (g : GW) (f : Ev → Out (List D)) : TI := fun σ H R => ∃ Hf Γ fr, StOk g.h Hf H σ Γ fr ∧ Post g σ fr (RI g σ fr) Hf R (f Γ)
structure PIt (X : Cx) (W : WX) (tg e : Expr) (f : Ev → Out (List D)) : Prop where
  run : ∀ f0 h0, PI X tg e (tI (gh X W f0 h0) f)
theorem _root_.L2.PI.imp {X : Cx} {tg e : Expr} {t t' : TI} (h : PI X tg e t) (k : ∀ σ H R, t' σ H R → t σ H R) : PI X tg e t' := ⟨fun pins s σ H R I q => h.run pins s σ H R I (k σ H R q)⟩
def iL (f : Ev → Out D) : Ev → Out (List D) := fun Γ => (f Γ).bind fun d Γ1 => match d with | .list ds => .ok ds Γ1 | _ => .st
def iT (f : Ev → Out D) : Ev → Out (List D) := fun Γ => (f Γ).bind fun d Γ1 => match d with | .tuple ds => .ok ds Γ1 | _ => .st
def rangeL (lo : Int) (n : Nat) : List D := (List.range n).map fun (k : Nat) => .int (lo + (k : Int))
def iR1 (fs : Ev → Out (List D)) : Ev → Out (List D) := fun Γ => (fs Γ).bind fun ds Γ1 => match ds with | [.int j] => if j < 2 ^ 62 ∧ -(2 ^ 62) ≤ j then .ok (rangeL 0 j.toNat) Γ1 else .st | _ => .st
def iR2 (fs : Ev → Out (List D)) : Ev → Out (List D) := fun Γ => (fs Γ).bind fun ds Γ1 => match ds with | [.int i, .int j] => if (j < 2 ^ 62 ∧ -(2 ^ 62) ≤ j) ∧ i < 2 ^ 62 ∧ -(2 ^ 62) ≤ i then .ok (rangeL i (j - i).toNat) Γ1 else .st | _ => .st
def enumL (ds : List D) : List D := ds.zipIdx.map fun p => .tuple [.int (p.2 : Nat), p.1]
def iEn (fs : Ev → Out (List D)) : Ev → Out (List D) := fun Γ => (fs Γ).bind fun ds Γ1 => match ds with | [.list es] => .ok (enumL es) Γ1 | _ => .st
def zipL (xs ys : List D) : List D := (xs.zip ys).map fun p => .tuple [p.1, p.2]
def iZp (fs : Ev → Out (List D)) : Ev → Out (List D) := fun Γ => (fs Γ).bind fun ds Γ1 => match ds with | [.list xs, .list ys] => .ok (zipL xs ys) Γ1 | _ => .st
section
variable {X : Cx} {W : WX} {tg e : Expr} {p pos : Pos}
theorem itok_list {K : PySem.W.Frag} {Hf : Hp} {a : Addr} {vs : List V} {ds : List D} (h : Hf a = some (.lst vs)) (f : FzAll K Hf vs ds) : ItOk K Hf (Itl K a) ds := fun i Hf1 H s1 s2 => by
  have hH := s2 _ _ (s1 _ _ h)
  refine ⟨fun d e => ?_, fun e => ⟨vs, SqL.of hH, ?_⟩⟩
  · obtain ⟨v, e1, z⟩ := f.get e
    refine ⟨⟨vs, v, SqL.of hH, e1⟩, fun x H' y => ?_⟩
    obtain ⟨rfl, y⟩ := y
    have e2 := y vs (SqL.of hH)
    rw [e1] at e2
    cases e2
    exact ⟨Hf1, Same.refl _, Same.refl _, s2, fun _ n => .inl n, z.mono s1⟩
  · rw [f.length]
    exact List.getElem?_eq_none_iff.mp e
theorem itok_tup {K : PySem.W.Frag} {Hf : Hp} {a : Addr} {vs : List V} {ds : List D} (h : SqT K Hf a vs) (f : FzAll K Hf vs ds) : ItOk K Hf (Itt K a) ds := fun i Hf1 H s1 s2 => by
  have hH := Same.seqT s2 (Same.seqT s1 h)
  refine ⟨fun d e => ?_, fun e => ⟨vs, hH, ?_⟩⟩
  · obtain ⟨v, e1, z⟩ := f.get e
    refine ⟨⟨vs, v, hH, e1⟩, fun x H' y => ?_⟩
    obtain ⟨rfl, y⟩ := y
    have e2 := y vs hH
    rw [e1] at e2
    cases e2
    exact ⟨Hf1, Same.refl _, Same.refl _, s2, fun _ n => .inl n, z.mono s1⟩
  · rw [f.length]
    exact List.getElem?_eq_none_iff.mp e
theorem itok_range {K : PySem.W.Frag} {Hf : Hp} (lo : Int) (n : Nat) : ItOk K Hf (Itr lo n) (rangeL lo n) := fun i Hf1 H s1 s2 => by
  refine ⟨fun d e => ?_, fun e => ?_⟩
  · unfold rangeL at e
    rw [List.getElem?_map] at e
    by_cases c : i < n
    · rw [List.getElem?_range c] at e
      cases e
      refine ⟨c, fun x H' y => ?_⟩
      obtain ⟨rfl, rfl⟩ := y
      exact ⟨Hf1, Same.refl _, Same.refl _, s2, fun _ n => .inl n, .int _⟩
    · rw [List.getElem?_eq_none (by simpa using c)] at e
      cases e
  · have := List.getElem?_eq_none_iff.mp e
    rw [show (rangeL lo n).length = n by simp [rangeL]] at this
    exact this
theorem itok_enum {K : PySem.W.Frag} {Hf : Hp} {a : Addr} {vs : List V} {ds : List D} (h : Hf a = some (.lst vs)) (f : FzAll K Hf vs ds) : ItOk K Hf (Ite K a) (enumL ds) := fun i Hf1 H s1 s2 => by
  have hH := s2 _ _ (s1 _ _ h)
  refine ⟨fun d e => ?_, fun e => ⟨vs, SqL.of hH, ?_⟩⟩
  · unfold enumL at e
    rw [List.getElem?_map, List.getElem?_zipIdx] at e
    cases e0 : ds[i]? with
    | none => rw [e0] at e; cases e
    | some d0 =>
      rw [e0] at e
      obtain ⟨v, e1, z⟩ := f.get e0
      refine ⟨⟨vs, v, SqL.of hH, e1⟩, fun x H' y => ?_⟩
      obtain ⟨T, x', rfl, nT, rfl, y⟩ := y
      have e2 := y vs (SqL.of hH)
      rw [e1] at e2
      cases e2
      have nv := NewV.tup (K := K) (vs := [.int (i : Nat), v]) (ds := [.int (i : Nat), d0]) s2 nT (.cons (.int _) (.cons (z.mono s1) .nil))
      have e3 : PyData.tuple [.int (i : Nat), d0] = d := by
        have e' : some (PyData.tuple [.int ((0 + i : Nat) : Int), d0]) = some d := e
        rw [Nat.zero_add] at e'
        exact Option.some.inj e'
      subst e3
      obtain ⟨A, o, _⟩ := nv.o
      exact ⟨_, nv.s, nv.f1, nv.f2, nv.f3, o.2⟩
  · rw [f.length]
    have := List.getElem?_eq_none_iff.mp e
    simpa [enumL] using this
theorem itok_zip {K : PySem.W.Frag} {Hf : Hp} {a b : Addr} {vs ws : List V} {ds es : List D} (h : Hf a = some (.lst vs)) (f : FzAll K Hf vs ds) (h' : Hf b = some (.lst ws)) (f' : FzAll K Hf ws es) : ItOk K Hf (Itz K a b) (zipL ds es) := fun i Hf1 H s1 s2 => by
  have hH := s2 _ _ (s1 _ _ h)
  have hH' := s2 _ _ (s1 _ _ h')
  refine ⟨fun d e => ?_, fun e => ⟨vs, ws, SqL.of hH, SqL.of hH', ?_⟩⟩
  · unfold zipL at e
    rw [List.getElem?_map] at e
    cases e0 : (ds.zip es)[i]? with
    | none => rw [e0] at e; cases e
    | some p =>
      rw [e0] at e
      obtain ⟨ea, eb⟩ := List.getElem?_zip_eq_some.mp e0
      obtain ⟨v, e1, z⟩ := f.get ea
      obtain ⟨w, e1', z'⟩ := f'.get eb
      refine ⟨⟨vs, ws, v, w, SqL.of hH, SqL.of hH', e1, e1'⟩, fun x H' y => ?_⟩
      obtain ⟨T, x', y', rfl, nT, rfl, y, yy⟩ := y
      have e2 := y vs (SqL.of hH)
      rw [e1] at e2
      cases e2
      have e2' := yy ws (SqL.of hH')
      rw [e1'] at e2'
      cases e2'
      have nv := NewV.tup (K := K) (vs := [v, w]) (ds := [p.1, p.2]) s2 nT (.cons (z.mono s1) (.cons (z'.mono s1) .nil))
      cases e
      obtain ⟨A, o, _⟩ := nv.o
      exact ⟨_, nv.s, nv.f1, nv.f2, nv.f3, o.2⟩
  · rw [f.length, f'.length]
    have := List.getElem?_eq_none_iff.mp e
    unfold zipL at this
    rw [List.length_map, List.length_zip] at this
    omega
theorem pi_l {f : Ev → Out D} (h : PF X W e f) : PIt X W tg e (iL f) := ⟨fun f0 h0 => (pi_list (h.run f0 h0)).imp fun σ H R ⟨Hf, Γ, fr, st, p⟩ => ⟨Hf, Γ, fr, st, Post.bind p fun d Γ1 _ v H1 Hf1 s1 ⟨st1, z⟩ q => by
  cases d with
  | list ds =>
    cases z with
    | lst h f => exact ⟨_, rfl, ⟨_, SqL.of (st1.sub _ _ h)⟩, q _ H1 Hf1 (Same.refl _) ⟨st1, itok_list h f⟩⟩
  | _ => exact q.elim⟩⟩
theorem pi_t {f : Ev → Out D} (h : PF X W e f) : PIt X W tg e (iT f) := ⟨fun f0 h0 => (pi_tup (h.run f0 h0)).imp fun σ H R ⟨Hf, Γ, fr, st, p⟩ => ⟨Hf, Γ, fr, st, Post.bind p fun d Γ1 _ v H1 Hf1 s1 ⟨st1, z⟩ q => by
  cases d with
  | tuple ds =>
    cases z with
    | tup h f => exact ⟨_, rfl, ⟨_, Same.seqT st1.sub h⟩, q _ H1 Hf1 (Same.refl _) ⟨st1, itok_tup h f⟩⟩
  | _ => exact q.elim⟩⟩
theorem pi_r1 {a : Expr} {fs : Ev → Out (List D)} (hg : Gl X "range") (hm : X.mg "range" = none) (h : PFs X W [a] fs) (hs : starEach [a] X.env = [(false, eval a X.env)] := by rfl) : PIt X W tg (.Call (.Name "range" p) [a] [] pos) (iR1 fs) :=
  ⟨fun f0 h0 => (pi_range1 hg hm (h.run f0 h0) hs).imp fun σ H R ⟨Hf, Γ, fr, st, p⟩ => ⟨Hf, Γ, fr, st, Post.bind p fun ds Γ1 _ vs H1 Hf1 s1 ⟨st1, z⟩ q => by
    split at q
    · split at q
      · rename_i c
        obtain ⟨v, rfl, zz⟩ := z.one
        cases zz
        exact ⟨_, rfl, c.2, c.1, q _ H1 Hf1 (Same.refl _) ⟨st1, itok_range 0 _⟩⟩
      · exact q.elim
    · exact q.elim⟩⟩
theorem pi_r2 {a b : Expr} {fs : Ev → Out (List D)} (hg : Gl X "range") (hm : X.mg "range" = none) (h : PFs X W [a, b] fs) (hs : starEach [a, b] X.env = [(false, eval a X.env), (false, eval b X.env)] := by rfl) (hs2 : starEach [b] X.env = [(false, eval b X.env)] := by rfl) :
    PIt X W tg (.Call (.Name "range" p) [a, b] [] pos) (iR2 fs) :=
  ⟨fun f0 h0 => (pi_range2 hg hm (h.run f0 h0) hs hs2).imp fun σ H R ⟨Hf, Γ, fr, st, p⟩ => ⟨Hf, Γ, fr, st, Post.bind p fun ds Γ1 _ vs H1 Hf1 s1 ⟨st1, z⟩ q => by
    split at q
    · split at q
      · rename_i c
        obtain ⟨v, w, rfl, z1, z2⟩ := z.two
        cases z1
        cases z2
        exact ⟨_, _, rfl, ⟨c.2.2, c.2.1, c.1.2, c.1.1⟩, q _ H1 Hf1 (Same.refl _) ⟨st1, itok_range _ _⟩⟩
      · exact q.elim
    · exact q.elim⟩⟩
theorem pi_en {a : Expr} {elts : List Expr} {kk : Nat} {tpos : Pos} {fs : Ev → Out (List D)} (hg : Gl X "enumerate") (hm : X.mg "enumerate" = none) (h : PFs X W [a] fs) (hs : starEach [a] X.env = [(false, eval a X.env)] := by rfl) :
    PIt X W (.Tuple elts kk tpos) (.Call (.Name "enumerate" p) [a] [] pos) (iEn fs) :=
  ⟨fun f0 h0 => (pi_enum hg hm (h.run f0 h0) hs).imp fun σ H R ⟨Hf, Γ, fr, st, p⟩ => ⟨Hf, Γ, fr, st, Post.bind p fun ds Γ1 _ vs H1 Hf1 s1 ⟨st1, z⟩ q => by
    split at q
    · obtain ⟨v, rfl, zz⟩ := z.one
      cases zz with
      | lst h f => exact ⟨_, _, rfl, SqL.of (st1.sub _ _ h), q _ H1 Hf1 (Same.refl _) ⟨st1, itok_enum h f⟩⟩
    · exact q.elim⟩⟩
theorem pi_zp {a b : Expr} {elts : List Expr} {kk : Nat} {tpos : Pos} {fs : Ev → Out (List D)} (hg : Gl X "zip") (hm : X.mg "zip" = none) (h : PFs X W [a, b] fs) (hs : starEach [a, b] X.env = (false, eval a X.env) :: starEach [b] X.env := by rfl) (hpl : (backTo pos (starEach [b] X.env)).any (·.1) = false := by rfl) :
    PIt X W (.Tuple elts kk tpos) (.Call (.Name "zip" p) [a, b] [] pos) (iZp fs) :=
  ⟨fun f0 h0 => (pi_zip hg hm (h.run f0 h0) hs hpl).imp fun σ H R ⟨Hf, Γ, fr, st, p⟩ => ⟨Hf, Γ, fr, st, Post.bind p fun ds Γ1 _ vs H1 Hf1 s1 ⟨st1, z⟩ q => by
    split at q
    · obtain ⟨v, w, rfl, z1, z2⟩ := z.two
      cases z1 with
      | lst h f =>
        cases z2 with
        | lst h' f' => exact ⟨_, _, _, _, rfl, SqL.of (st1.sub _ _ h), SqL.of (st1.sub _ _ h'), q _ H1 Hf1 (Same.refl _) ⟨st1, itok_zip h f h' f'⟩⟩
    · exact q.elim⟩⟩
end

/-! ### targets -/
def tG (g : GW) (is : List Nat) (t : D → Ev → Option Ev) : TG := fun v σ H Q => ∃ Hf Γ fr d, StOk g.h Hf H σ Γ fr ∧ Fz g.h.K Hf v d ∧ ∃ Γ', t d Γ = some Γ' ∧ ∀ σ' H' Hf', Same Hf Hf' → StOk g.h Hf' H' σ' Γ' fr → wipe σ' is = wipe σ is → Q σ' H'
def tGs (g : GW) (is : List Nat) (t : List D → Ev → Option Ev) : TGs := fun vs σ H Q => ∃ Hf Γ fr ds, StOk g.h Hf H σ Γ fr ∧ FzAll g.h.K Hf vs ds ∧ ∃ Γ', t ds Γ = some Γ' ∧ ∀ σ' H' Hf', Same Hf Hf' → StOk g.h Hf' H' σ' Γ' fr → wipe σ' is = wipe σ is → Q σ' H'
structure PGt (X : Cx) (tg : Expr) (is : List Nat) (t : D → Ev → Option Ev) : Prop where
  run : ∀ g : GW, g.h.K = X.K → PG X tg (tG g is t)
structure PGts (X : Cx) (tgs : List Expr) (is : List Nat) (t : List D → Ev → Option Ev) : Prop where
  len : ∀ ds Γ Γ', t ds Γ = some Γ' → ds.length = tgs.length
  run : ∀ g : GW, g.h.K = X.K → PGs X tgs (tGs g is t)
theorem _root_.L2.PG.imp {X : Cx} {tg : Expr} {t t' : TG} (h : PG X tg t) (k : ∀ v σ H Q, t' v σ H Q → t v σ H Q) : PG X tg t' := ⟨fun pins s σ H v u Q I r q => h.run pins s σ H v u Q I r (k v σ H Q q)⟩
theorem _root_.L2.PGs.imp {X : Cx} {tg : List Expr} {t t' : TGs} (h : PGs X tg t) (k : ∀ v σ H Q, t' v σ H Q → t v σ H Q) : PGs X tg t' := ⟨fun pins s σ H v u Q I r q => h.run pins s σ H v u Q I r (k v σ H Q q)⟩
def gN (i : Nat) : D → Ev → Option Ev := fun d Γ => some (Γ.set i (some (.z, d)))
def gsN : List D → Ev → Option Ev := fun ds Γ => match ds with | [] => some Γ | _ => none
def gsC (t : D → Ev → Option Ev) (u : List D → Ev → Option Ev) : List D → Ev → Option Ev := fun ds Γ => match ds with | d :: r => (t d Γ).bind (u r) | [] => none
def gT (u : List D → Ev → Option Ev) : D → Ev → Option Ev := fun d Γ => match d with | .tuple ds => u ds Γ | _ => none
section
variable {X : Cx} {pos : Pos}
theorem wipe_set {σ : St} {i : Nat} {v : Option V} : ∀ {is : List Nat}, i ∈ is → wipe (σ.set i v) is = wipe σ is
  | j :: js, h => by
    unfold wipe
    by_cases e : i = j
    · subst e
      by_cases hj : i ∈ js
      · rw [wipe_set hj]
      · have : ∀ {js : List Nat}, i ∉ js → (wipe (σ.set i v) js) = (wipe σ js).set i v := fun {js} hj => by
          induction js with
          | nil => rfl
          | cons k ks ih =>
            have h1 : i ≠ k := fun z => hj (by rw [z]; exact List.mem_cons_self)
            have h2 : i ∉ ks := fun z => hj (List.mem_cons_of_mem _ z)
            show (wipe (σ.set i v) ks).set k none = ((wipe σ ks).set k none).set i v
            rw [ih h2, List.set_comm _ _ h1]
        rw [this hj, List.set_set]
    · rw [wipe_set (is := js) ((List.mem_cons.mp h).resolve_left e)]
theorem pg_n (i : Nat) {is : List Nat} {x : Str} (hi' : i ∈ is) (hN : X.N.Nodup) (hi : X.N[i]? = some x) (hx : Loc X.env.scope x) (hf : X.fn x = true ∨ X.env.scope.names.lookup x = some .local) : PGt X (.Name x pos) is (gN i) :=
  ⟨fun g hK => (pg_name hN hi hx hf).imp fun v σ H Q ⟨Hf, Γ, fr, d, st, z, Γ', e, q⟩ => by
    cases e
    exact q _ H Hf (Same.refl _) ((st.push z).store i) (wipe_set hi')⟩
theorem pgs_n {is : List Nat} : PGts X [] is gsN := ⟨fun ds Γ Γ' e => (by
  cases ds with
  | nil => rfl
  | cons _ _ => cases e), fun g hK => pgs_nil.imp fun v σ H Q ⟨Hf, Γ, fr, d, st, z, Γ', e, q⟩ => by
  cases d with
  | nil =>
    cases z
    cases e
    exact ⟨rfl, q σ H Hf (Same.refl _) st rfl⟩
  | cons _ _ => cases e⟩
theorem pgs_c {is : List Nat} {e : Expr} {es : List Expr} {t : D → Ev → Option Ev} {u : List D → Ev → Option Ev} (h1 : PGt X e is t) (h2 : PGts X es is u) (hs : (assignEach (e :: es) X.env).map (·.2) = assign e X.env :: (assignEach es X.env).map (·.2) := by rfl) : PGts X (e :: es) is (gsC t u) :=
  ⟨fun ds Γ Γ' e => (by
    cases ds with
    | nil => cases e
    | cons d ds =>
      cases h : t d Γ with
      | none =>
        have e' : (t d Γ).bind (u ds) = some Γ' := e
        rw [h] at e'; cases e'
      | some Γ1 =>
        have e' : (t d Γ).bind (u ds) = some Γ' := e
        rw [h] at e'
        exact congrArg (· + 1) (h2.len ds Γ1 Γ' e')), fun g hK => (pgs_cons (h1.run g hK) (h2.run g hK) hs).imp fun v σ H Q ⟨Hf, Γ, fr, d, st, z, Γ', e, q⟩ => by
    cases d with
    | nil => cases e
    | cons d ds =>
      cases z with
      | cons z zs =>
        cases h : t d Γ with
        | none =>
          have e' : (t d Γ).bind (u ds) = some Γ' := e
          rw [h] at e'; cases e'
        | some Γ1 =>
          have e' : (t d Γ).bind (u ds) = some Γ' := e
          rw [h] at e'
          exact ⟨_, _, rfl, Hf, Γ, fr, d, st, z, Γ1, h, fun σ1 H1 Hf1 s1 st1 w1 => ⟨Hf1, Γ1, fr, ds, st1, zs.mono s1, Γ', e', fun σ2 H2 Hf2 s2 st2 w2 => q σ2 H2 Hf2 (s1.trans s2) st2 (w2.trans w1)⟩⟩⟩
theorem pg_t {is : List Nat} {es : List Expr} {k : Nat} {u : List D → Ev → Option Ev} (hc : X.calm = true) (h : PGts X es is u) (hn : (assignEach es X.env).length = es.length := by rfl) (hst : (assignEach es X.env).findIdx? (·.1) = none := by rfl) :
    PGt X (.Tuple es k pos) is (gT u) :=
  ⟨fun g hK => (pg_tup (n := es.length) hc (h.run g hK) hn hst).imp fun v σ H Q ⟨Hf, Γ, fr, d, st, z, Γ', e, q⟩ => by
    cases d with
    | tuple ds =>
      cases z with
      | tup z zs => exact ⟨_, _, rfl, by rw [← hK]; exact Same.seqT st.sub z, zs.length.trans (h.len ds Γ Γ' e), Hf, Γ, fr, ds, st, zs, Γ', e, q⟩
    | _ => cases e⟩
end
end PV
namespace PV
open PySem PySem.Spec PyProof.Rows L2

/-! ### statements -/
def PostS (g : GW) (D : Ends) (fr : List (V × Va)) (Hf : Hp) : SO → Prop
  | .nx Γ' => ∀ σ' H' Hf', Same Hf Hf' → StOk g.h Hf' H' σ' Γ' fr → D.nx σ' H'
  | .rt x Γ' => ∀ v σ' H' Hf', Same Hf Hf' → StOk g.h Hf' H' σ' Γ' ((v, x) :: fr) → D.rt v H'
  | .bk Γ' => ∀ σ' H' Hf', Same Hf Hf' → StOk g.h Hf' H' σ' Γ' fr → D.bk σ' H'
  | .ct Γ' => ∀ σ' H' Hf', Same Hf Hf' → StOk g.h Hf' H' σ' Γ' fr → D.ct σ' H'
  | .ex e Γ' => ∀ σ', PEx g Hf σ' fr e Γ'
  | .st => False
def tS (g : GW) (f : Ev → SO) : TS := fun D σ H => ∃ Hf Γ fr, StOk g.h Hf H σ Γ fr ∧ PostS g D fr Hf (f Γ)
structure PSt (X : Cx) (W : WX) (s : Stmt) (f : Ev → SO) : Prop where
  run : ∀ f0 h0, PS X s (tS (gh X W f0 h0) f)
structure PSts (X : Cx) (W : WX) (s : List Stmt) (f : Ev → SO) : Prop where
  run : ∀ f0 h0, PSs X s (tS (gh X W f0 h0) f)
def sB {α : Type} (o : Out α) (k : α → Ev → SO) : SO := match o with
  | .ok a Γ => k a Γ
  | .ex e Γ => .ex e Γ
  | .st => .st
section
variable {g : GW} {D : Ends} {fr : List (V × Va)} {Hf Hf' : Hp} {α β : Type}
theorem PostS.mono {r : SO} (h : PostS g D fr Hf r) (s : Same Hf Hf') : PostS g D fr Hf' r := by
  cases r with
  | nx Γ => exact fun σ' H' Hf1 s1 => h σ' H' Hf1 (s.trans s1)
  | rt x Γ => exact fun v σ' H' Hf1 s1 => h v σ' H' Hf1 (s.trans s1)
  | bk Γ => exact fun σ' H' Hf1 s1 => h σ' H' Hf1 (s.trans s1)
  | ct Γ => exact fun σ' H' Hf1 s1 => h σ' H' Hf1 (s.trans s1)
  | ex e Γ => exact fun σ' => PEx.mono (h σ') s
  | st => exact h
theorem PostS.bind {o : Out α} {k : α → Ev → SO} {σ : St} {R1 : Hp → Hp → α → Ev → β → Prop} {Q1 : β → Hp → Prop} (h : PostS g D fr Hf (sB o k))
    (h1 : ∀ a Γ1, o = .ok a Γ1 → ∀ b H1 Hf1, Same Hf Hf1 → R1 Hf1 H1 a Γ1 b → PostS g D fr Hf1 (k a Γ1) → Q1 b H1) : Post g σ fr R1 Hf Q1 o := by
  cases o with
  | ok a Γ1 => exact fun b H1 Hf1 s1 r => h1 a Γ1 rfl b H1 Hf1 s1 r (PostS.mono (show PostS g D fr Hf (k a Γ1) from h) s1)
  | ex e Γ1 => exact h σ
  | st => exact h
end
def sNx : Ev → SO := fun Γ => .nx Γ
def sSeq (a b : Ev → SO) : Ev → SO := fun Γ => match a Γ with
  | .nx Γ1 => b Γ1
  | r => r
def sAsg (i : Nat) (f : Ev → Out Va) : Ev → SO := fun Γ => sB (f Γ) fun x Γ1 => .nx (Γ1.set i (some x))
def sTgt (t : D → Ev → Option Ev) (f : Ev → Out D) : Ev → SO := fun Γ => sB (f Γ) fun d Γ1 => match t d Γ1 with | some Γ2 => .nx Γ2 | none => .st
def sRet (f : Ev → Out Va) : Ev → SO := fun Γ => sB (f Γ) fun x Γ1 => .rt x Γ1
def sRetN : Ev → SO := fun Γ => .rt (.z, .none) Γ
def sExp (f : Ev → Out D) : Ev → SO := fun Γ => sB (f Γ) fun _ Γ1 => .nx Γ1
def sIf (c : Ev → Out Bool) (a b : Ev → SO) : Ev → SO := fun Γ => sB (c Γ) fun k Γ1 => if k = true then a Γ1 else b Γ1
def sBk : Ev → SO := fun Γ => .bk Γ
def sCt : Ev → SO := fun Γ => .ct Γ
def sAug (i : Nat) (op : D → D → Option Va) (f : Ev → Out D) : Ev → SO := fun Γ => match Γ[i]? with
  | some (some (.z, x)) => sB (f Γ) fun y Γ1 => (match op x y with | some z => .nx (Γ1.set i (some z)) | none => .st)
  | _ => .st
def sForL (t : D → Ev → Option Ev) (body : Ev → SO) : List D → Ev → SO
  | [], Γ => .nx Γ
  | d :: ds, Γ => match t d Γ with
    | none => .st
    | some Γ1 => match body Γ1 with
      | .nx Γ2 => sForL t body ds Γ2
      | .ct Γ2 => sForL t body ds Γ2
      | .bk Γ2 => .nx Γ2
      | r => r
def sFor (f : Ev → Out (List D)) (t : D → Ev → Option Ev) (body : Ev → SO) : Ev → SO := fun Γ => sB (f Γ) fun ds Γ1 => sForL t body ds Γ1
def sWhile (c : Ev → Out Bool) (body : Ev → SO) : Nat → Ev → SO
  | 0, _ => .st
  | n + 1, Γ => sB (c Γ) fun k Γ1 => if k = true then (match body Γ1 with
      | .nx Γ2 => sWhile c body n Γ2
      | .ct Γ2 => sWhile c body n Γ2
      | .bk Γ2 => .nx Γ2
      | r => r) else .nx Γ1
section
variable {X : Cx} {W : WX} {st : Stmt} {rest : List Stmt} {e : Expr} {pos : Pos} {a b : Ev → SO}
theorem pss_n : PSts X W [] sNx := ⟨fun f0 h0 => pss_nil.imp fun D σ H ⟨Hf, Γ, fr, st, p⟩ => p σ H Hf (Same.refl _) st⟩
theorem pss_c (h1 : PSt X W st a) (h2 : PSts X W rest b) : PSts X W (st :: rest) (sSeq a b) := ⟨fun f0 h0 => (pss_cons (h1.run f0 h0) (h2.run f0 h0)).imp fun D σ H ⟨Hf, Γ, fr, st, p⟩ => by
  refine ⟨Hf, Γ, fr, st, ?_⟩
  unfold sSeq at p
  cases h : a Γ with
  | nx Γ1 =>
    rw [h] at p
    exact fun σ1 H1 Hf1 s1 st1 => ⟨Hf1, Γ1, fr, st1, PostS.mono p s1⟩
  | rt x Γ1 => rw [h] at p; exact p
  | bk Γ1 => rw [h] at p; exact p
  | ct Γ1 => rw [h] at p; exact p
  | ex e Γ1 => rw [h] at p; exact p
  | st => rw [h] at p; exact p⟩
theorem pss_1 (h1 : PSt X W st a) : PSts X W [st] a := ⟨fun f0 h0 => pss_one (h1.run f0 h0)⟩
theorem ps_pass' : PSt X W (.Pass pos) sNx := ⟨fun f0 h0 => ps_pass.imp fun D σ H ⟨Hf, Γ, fr, st, p⟩ => p σ H Hf (Same.refl _) st⟩
theorem ps_brk : PSt X W (.Break pos) sBk := ⟨fun f0 h0 => ps_break.imp fun D σ H ⟨Hf, Γ, fr, st, p⟩ => p σ H Hf (Same.refl _) st⟩
theorem ps_cnt : PSt X W (.Continue pos) sCt := ⟨fun f0 h0 => ps_continue.imp fun D σ H ⟨Hf, Γ, fr, st, p⟩ => p σ H Hf (Same.refl _) st⟩
theorem ps_r {f : Ev → Out Va} (h : PV X W e f) : PSt X W (.Return (some e) pos) (sRet f) := ⟨fun f0 h0 => (ps_ret (h.run f0 h0)).imp fun D σ H ⟨Hf, Γ, fr, st, p⟩ => ⟨Hf, Γ, fr, st, PostS.bind p fun x Γ1 _ v H1 Hf1 s1 st1 q => q v σ H1 Hf1 (Same.refl _) st1⟩⟩
theorem ps_rN : PSt X W (.Return none pos) sRetN := ⟨fun f0 h0 => ps_retN.imp fun D σ H ⟨Hf, Γ, fr, st, p⟩ => p .non σ H Hf (Same.refl _) (st.push .non)⟩
theorem ps_x {f : Ev → Out D} (h : PF X W e f) (hs : swapsWith e none pos.line X.env = pure false := by rfl) : PSt X W (.Expr e pos) (sExp f) := ⟨fun f0 h0 => (ps_expr (h.run f0 h0) hs).imp fun D σ H ⟨Hf, Γ, fr, st, p⟩ => ⟨Hf, Γ, fr, st, PostS.bind p fun x Γ1 _ v H1 Hf1 s1 ⟨st1, _⟩ q => q σ H1 Hf1 (Same.refl _) st1⟩⟩
theorem ps_i {c : Expr} {A B : List Stmt} {t : Ev → Out Bool} (hc : PB X W c t) (ha : PSts X W A a) (hb : PSts X W B b) : PSt X W (.If c A B pos) (sIf t a b) :=
  ⟨fun f0 h0 => (ps_if (hc.run f0 h0) (ha.run f0 h0) (hb.run f0 h0)).imp fun D σ H ⟨Hf, Γ, fr, st, p⟩ => ⟨Hf, Γ, fr, st, PostS.bind p fun k Γ1 _ v H1 Hf1 s1 ⟨st1, e⟩ q => by
    subst e
    cases v with
    | true => exact ⟨Hf1, Γ1, fr, st1, q⟩
    | false => exact ⟨Hf1, Γ1, fr, st1, q⟩⟩⟩
theorem ps_a (i : Nat) {x : Str} {pos' : Pos} {f : Ev → Out Va} (hN : X.N.Nodup) (hi : X.N[i]? = some x) (hx : Loc X.env.scope x) (h : PV X W e f) (hs : swapsWith e (some (.Name x pos')) pos.line X.env = pure false := by rfl) (hf : X.fn x = true ∨ X.env.scope.names.lookup x = some .local := by first | exact .inl rfl | exact .inr rfl | assumption) :
    PSt X W (.Assign [.Name x pos'] e pos) (sAsg i f) :=
  ⟨fun f0 h0 => (ps_set hN hi hx (h.run f0 h0) hs hf).imp fun D σ H ⟨Hf, Γ, fr, st, p⟩ => ⟨Hf, Γ, fr, st, PostS.bind p fun x Γ1 _ v H1 Hf1 s1 st1 q => q _ H1 Hf1 (Same.refl _) (st1.store i)⟩⟩
theorem ps_t {tg : Expr} {is : List Nat} {t : D → Ev → Option Ev} {f : Ev → Out D} (h : PF X W e f) (hg : PGt X tg is t) (hs : swapsWithSole [tg] e pos.line X.env = pure false := by rfl) (hw : swappedStores [tg] e X.env = pure none := by rfl)
    (h1 : (assignEach [tg] X.env).map (·.2) = [assign tg X.env] := by rfl) : PSt X W (.Assign [tg] e pos) (sTgt t f) :=
  ⟨fun f0 h0 => (ps_asg (h.run f0 h0) (hg.run (gh X W f0 h0) rfl) hs hw h1).imp fun D σ H ⟨Hf, Γ, fr, st, p⟩ => ⟨Hf, Γ, fr, st, PostS.bind p fun d Γ1 _ v H1 Hf1 s1 ⟨st1, z⟩ q => by
    cases h : t d Γ1 with
    | none => rw [h] at q; exact q.elim
    | some Γ2 =>
      rw [h] at q
      exact ⟨Hf1, Γ1, fr, d, st1, z, Γ2, h, fun σ' H' Hf' s' st' _ => q σ' H' Hf' s' st'⟩⟩⟩
theorem ps_g (i : Nat) {x : Str} {op : Operator} {r : R2} {f : Ev → Out D} {o : D → D → Option Va} {pos' : Pos} (hN : X.N.Nodup) (hi : X.N[i]? = some x) (hx : Loc X.env.scope x) (h : PF X W e f) (ho : OpR X (inplaceOp op) r) (hs : OpS X.K r o)
    (hf : X.fn x = true ∨ X.env.scope.names.lookup x = some .local := by first | exact .inl rfl | exact .inr rfl | assumption) : PSt X W (.AugAssign (.Name x pos') op e pos) (sAug i o f) :=
  ⟨fun f0 h0 => (ps_aug hN hi hx (h.run f0 h0) (fun pins s σ H x y v u Q I rx ry q => ho pins s σ H x y v u Q I rx ry q) hf).imp fun D σ H ⟨Hf, Γ, fr, st, p⟩ => by
    unfold sAug at p
    split at p
    · rename_i dx hΓ
      obtain ⟨v, e1, z⟩ := st.getZ hΓ
      refine ⟨v, e1, Hf, Γ, fr, st, PostS.bind p fun dy Γ1 _ w H1 Hf1 s1 ⟨st1, z1⟩ q => ?_⟩
      cases h : o dx dy with
      | none => rw [h] at q; exact q.elim
      | some dz =>
        rw [h] at q
        exact hs Hf1 H1 v w dx dy dz _ st1.sub (.inl (z.mono s1)) (.inl z1) h fun v' H' Hf' n => q _ H' Hf' n.f1 ((st1.pushN n).store i)
    · exact p.elim⟩
theorem ps_f {tg iter : Expr} {body : List Stmt} {is : List Nat} {t : D → Ev → Option Ev} {f : Ev → Out (List D)} {fb : Ev → SO} (hp : PassesOwn (model X.prog X.w) X.A X.env X.xe) (hc : X.calm = true) (hi : PIt X W tg iter f) (hg : PGt X tg is t) (hb : PSts X W body fb)
    (hs : ∀ x, foldedSetIterable iter X.env x = pure x := by intro _; rfl) : PSt X W (.For tg iter body [] pos) (sFor f t fb) :=
  ⟨fun f0 h0 => (ps_for hp hc (hi.run f0 h0) (hg.run (gh X W f0 h0) rfl) (hb.run f0 h0) hs).imp fun D σ H ⟨Hf, Γ, fr, st, p⟩ => by
    refine ⟨Hf, Γ, fr, st, PostS.bind p fun ds Γ1 _ J H1 Hf1 s1 ⟨st1, it⟩ q => ?_⟩
    refine ⟨fun i m σ H => m = ds.length - i ∧ i ≤ ds.length ∧ ∃ Hf2 Γ2, Same Hf1 Hf2 ∧ StOk (gh X W f0 h0).h Hf2 H σ Γ2 fr ∧ PostS (gh X W f0 h0) D fr Hf2 (sForL t fb (ds.drop i) Γ2), ⟨_, rfl, Nat.zero_le _, Hf1, Γ1, Same.refl _, st1, q⟩, ?_⟩
    rintro i m σ2 H2 ⟨rfl, hi, Hf2, Γ2, s2, st2, q2⟩
    obtain ⟨g1, g2⟩ := it i Hf2 H2 s2 st2.sub
    cases h : ds[i]? with
    | none =>
      refine .inl ⟨g2 h, ?_⟩
      rw [List.drop_eq_nil_of_le (List.getElem?_eq_none_iff.mp h)] at q2
      exact q2 σ2 H2 Hf2 (Same.refl _) st2
    | some d =>
      obtain ⟨go, yl⟩ := g1 d h
      have hlt := (List.getElem?_eq_some_iff.mp h).1
      have ed : ds.drop i = d :: ds.drop (i + 1) := by
        rw [List.drop_eq_getElem_cons hlt]
        rw [List.getElem?_eq_getElem hlt] at h
        rw [Option.some.inj h]
      rw [ed] at q2
      refine .inr ⟨go, fun σ' H' => (i + 1 ≤ ds.length ∧ ∃ Hf2 Γ2, Same Hf1 Hf2 ∧ StOk (gh X W f0 h0).h Hf2 H' σ' Γ2 fr ∧ PostS (gh X W f0 h0) D fr Hf2 (sForL t fb (ds.drop (i + 1)) Γ2)), fun σ' H' n => ⟨ds.length - (i + 1), by omega, rfl, n⟩, fun x H' y => ?_⟩
      obtain ⟨Hf3, a1, a2, a3, a4, z⟩ := yl x H' y
      have st3 := st2.freeze a1 a2 a3 a4
      unfold sForL at q2
      cases ht : t d Γ2 with
      | none => rw [ht] at q2; exact q2.elim
      | some Γ3 =>
        rw [ht] at q2
        dsimp only at q2
        refine ⟨Hf3, Γ2, fr, d, st3, z, Γ3, ht, fun σ4 H4 Hf4 s4 st4 _ => ⟨Hf4, Γ3, fr, st4, ?_⟩⟩
        have sA : Same Hf1 Hf4 := (s2.trans a2).trans s4
        have q3 := PostS.mono q2 (a2.trans s4)
        cases hb : fb Γ3 with
        | nx Γ4 =>
          rw [hb] at q3
          exact fun σ5 H5 Hf5 s5 st5 => ⟨hlt, Hf5, Γ4, sA.trans s5, st5, PostS.mono q3 s5⟩
        | ct Γ4 =>
          rw [hb] at q3
          exact fun σ5 H5 Hf5 s5 st5 => ⟨hlt, Hf5, Γ4, sA.trans s5, st5, PostS.mono q3 s5⟩
        | bk Γ4 => rw [hb] at q3; exact q3
        | rt x Γ4 => rw [hb] at q3; exact q3
        | ex e Γ4 => rw [hb] at q3; exact q3
        | st => rw [hb] at q3; exact q3.elim⟩
theorem ps_w {c : Expr} {body : List Stmt} {t : Ev → Out Bool} {fb : Ev → SO} (n : Nat) (hp : PassesOwn (model X.prog X.w) X.A X.env X.xe) (hc : PB X W c t) (hb : PSts X W body fb) : PSt X W (.While c body [] pos) (sWhile t fb n) :=
  ⟨fun f0 h0 => (ps_while hp (hc.run f0 h0) (hb.run f0 h0)).imp fun D σ H ⟨Hf, Γ, fr, st, p⟩ => by
    refine ⟨fun m σ H => ∃ Hf2 Γ2, Same Hf Hf2 ∧ StOk (gh X W f0 h0).h Hf2 H σ Γ2 fr ∧ PostS (gh X W f0 h0) D fr Hf2 (sWhile t fb m Γ2), ⟨n, Hf, Γ, Same.refl _, st, p⟩, ?_⟩
    rintro m σ2 H2 ⟨Hf2, Γ2, s2, st2, q2⟩
    cases m with
    | zero => exact q2.elim
    | succ m =>
      refine ⟨Hf2, Γ2, fr, st2, PostS.bind q2 fun k Γ3 _ v H3 Hf3 s3 ⟨st3, e⟩ q => ?_⟩
      subst e
      cases v with
      | false => exact q σ2 H3 Hf3 (Same.refl _) st3
      | true =>
        rw [if_pos rfl] at q ⊢
        refine ⟨fun σ' H' => ∃ Hf2 Γ2, Same Hf Hf2 ∧ StOk (gh X W f0 h0).h Hf2 H' σ' Γ2 fr ∧ PostS (gh X W f0 h0) D fr Hf2 (sWhile t fb m Γ2), fun σ' H' n => ⟨m, Nat.lt_succ_self _, n⟩, Hf3, Γ3, fr, st3, ?_⟩
        have sA : Same Hf Hf3 := s2.trans s3
        cases hb : fb Γ3 with
        | nx Γ4 =>
          rw [hb] at q
          exact fun σ5 H5 Hf5 s5 st5 => ⟨Hf5, Γ4, sA.trans s5, st5, PostS.mono q s5⟩
        | ct Γ4 =>
          rw [hb] at q
          exact fun σ5 H5 Hf5 s5 st5 => ⟨Hf5, Γ4, sA.trans s5, st5, PostS.mono q s5⟩
        | bk Γ4 => rw [hb] at q; exact q
        | rt x Γ4 => rw [hb] at q; exact q
        | ex e Γ4 => rw [hb] at q; exact q
        | st => rw [hb] at q; exact q.elim⟩
end

/-! ### a def -/
def st0 (n : Nat) (ds : List D) : Ev := ds.map (fun d => some (.z, d)) ++ List.replicate (n - ds.length) none
def runD (n k : Nat) (f : Ev → SO) : List D → Res := fun ds => if ds.length = k then (match f (st0 n ds) with
  | .nx _ => .ok (.z, .none)
  | .rt x _ => .ok x
  | .ex e _ => .ex e
  | _ => .st) else .st
end PV
namespace PV
open PySem PySem.Spec PyProof.Rows L2

/-! ### a def -/
theorem st0_get {n i : Nat} {ds : List D} {x : Va} (h : (st0 n ds)[i]? = some (some x)) : ∃ d, ds[i]? = some d ∧ x = (.z, d) := by
  unfold st0 at h
  by_cases c : i < ds.length
  · rw [List.getElem?_append_left (by simpa using c), List.getElem?_map] at h
    cases e : ds[i]? with
    | none => rw [e] at h; cases h
    | some d =>
      rw [e] at h
      exact ⟨d, rfl, (Option.some.inj (Option.some.inj h)).symm⟩
  · rw [List.getElem?_append_right (by simpa using Nat.le_of_not_lt c)] at h
    rw [List.getElem?_replicate] at h
    split at h <;> cases h
section
variable {P : Program} {w : World} {K : PySem.W.Frag} {mg : Str → Option Value} {base : Heap}
theorem st_start {N : List Str} {Hf H : Hp} {vs : List V} {ds : List D} (s : Same Hf H) (f : FzAll K Hf vs ds) : StOk ⟨K, Hf, H⟩ Hf H (L2.start N vs) (st0 N.length ds) [] := by
  refine ⟨fun _ => none, Same.refl _, s, Same.refl _, fun a n => .inl n, (fun a i e => nomatch e), ?_, fun i x e => ?_, trivial⟩
  · unfold st0 L2.start
    rw [List.length_append, List.length_append, List.length_map, List.length_map, List.length_replicate, List.length_replicate, f.length]
  · obtain ⟨d, e1, rfl⟩ := st0_get e
    obtain ⟨v, e2, z⟩ := f.get e1
    refine ⟨v, ?_, [], ⟨rfl, z⟩, List.nodup_nil, fun _ z => nomatch z⟩
    have c : i < vs.length := (List.getElem?_eq_some_iff.mp e2).1
    unfold L2.start
    rw [List.getElem?_append_left (by simpa using c), List.getElem?_map, e2]
    rfl
theorem fin_new {g : Gh} {Hf' H' : Hp} {σ : St} {Γ : Ev} {v : V} {x : Va} {fr : List (V × Va)} (st : StOk g Hf' H' σ Γ ((v, x) :: fr)) : NewV g.K g.f0 g.h0 H' Hf' v x := by
  obtain ⟨ω, st⟩ := st
  obtain ⟨A, o, nd, hA⟩ := st.fr.1
  exact ⟨st.base, st.old, st.sub, st.new, A, o, nd, fun a ha => ⟨(st.own a _ (hA a ha)).1, (st.own a _ (hA a ha)).2.1⟩⟩
abbrev cxX (P : Program) (w : World) (K : PySem.W.Frag) (mg : Str → Option Value) (base : Heap) (N : List Str) (qual : Str) (sc : Scope) (f : Addr) (cdv : Value) (A : Around) (outer : List Env) (s : Shared) (H : Hp) (E : XK) : Cx := cxOf (L2.CX P w) P w K mg base N qual sc f cdv A outer s H E
/-- THE RULE for a def: its body computes fb -/
theorem fn_ok {x qual : Str} {stm : Stmt} {f : Addr} {fd : FuncData} {N ps : List Str} {k : Nat} {fb : Ev → SO} (F : Fun K x qual stm f fd) (S : FnScope N ps (defScope stm))
    (hbody : ∀ (cdv : Value) (A : Around) (outer : List Env) (s : Shared) (H : Hp) (E : XK) (W : WX), Room k (cxX P w K mg base N qual (defScope stm) f cdv A outer s H E).A → Takes (cxX P w K mg base N qual (defScope stm) f cdv A outer s H E) W →
      PassesOwn (model P w) (cxX P w K mg base N qual (defScope stm) f cdv A outer s H E).A (cxX P w K mg base N qual (defScope stm) f cdv A outer s H E).env (cxX P w K mg base N qual (defScope stm) f cdv A outer s H E).xe →
      PSts (cxX P w K mg base N qual (defScope stm) f cdv A outer s H E) W (defBody stm) fb) : FnOk P w K mg base (L2.CX P w) (k + 1) f fd ps (spV K mg ps.length (runD N.length ps.length fb)) := by
  refine F.okX S (fun vs H Q E h => ?_) (fun cdv A outer s H vs Q E hr h => ?_)
  · obtain ⟨Hf, ds, e, _, f, _⟩ := h
    rw [f.length, e]
  · obtain ⟨Hf, ds, e, sH, fz, h⟩ := h
    refine ⟨_, (hbody cdv A outer s H E (fun cls d _ H' => E cls d H') hr (takes_of rfl rfl rfl rfl) (passes_of rfl)).run Hf H, ?_⟩
    refine ⟨Hf, st0 N.length ds, [], st_start sH fz, ?_⟩
    unfold runD at h
    rw [if_pos e] at h
    cases hb : fb (st0 N.length ds) with
    | nx Γ' =>
      rw [hb] at h
      exact fun σ' H' Hf' s' st' => h .non H' Hf' (fin_new (st'.push .non))
    | rt x Γ' =>
      rw [hb] at h
      exact fun v σ' H' Hf' s' st' => h v H' Hf' (fin_new st')
    | ex e Γ' =>
      rw [hb] at h
      intro σ' cls dx H' Hf' s' x st'
      obtain ⟨ω, st'⟩ := st'
      exact h cls dx H' Hf' st'.base st'.old st'.sub st'.new x
    | bk Γ' => rw [hb] at h; exact h.elim
    | ct Γ' => rw [hb] at h; exact h.elim
    | st => rw [hb] at h; exact h.elim
end

/-! ### comprehensions -/
abbrev W0 : WX := fun _ _ _ _ => False
structure PBs (X : Cx) (W : WX) (es : List Expr) (c : Ev → Out Bool) : Prop where
  run : ∀ f0 h0, PTs X es (tT (gh X W f0 h0) c)
def bYes : Ev → Out Bool := fun Γ => .ok true Γ
theorem _root_.L2.PTs.imp {X : Cx} {e : List Expr} {t t' : TT} (h : PTs X e t) (k : ∀ σ H Q, t' σ H Q → t σ H Q) : PTs X e t' := ⟨fun pins s σ H Q I q => h.run pins s σ H Q I (k σ H Q q)⟩
theorem pbs_n {X : Cx} {W : WX} : PBs X W [] bYes := ⟨fun f0 h0 => pts_nil.imp fun σ H Q ⟨Hf, Γ, fr, st, p⟩ => p true H Hf (Same.refl _) ⟨st, rfl⟩⟩
theorem pbs_1 {X : Cx} {W : WX} {e : Expr} {c : Ev → Out Bool} (h : PB X W e c) : PBs X W [e] c := ⟨fun f0 h0 => pts_one (h.run f0 h0)⟩
def wipeG (Γ : Ev) : List Nat → Ev
  | [] => Γ
  | i :: is => (wipeG Γ is).set i none
def restG (Γ1 : Ev) (Γ : Ev) : List Nat → Ev
  | [] => Γ
  | i :: is => match Γ1[i]? with
    | some (some (.z, d)) => (restG Γ1 Γ is).set i (some (.z, d))
    | _ => restG Γ1 Γ is
def compL (is : List Nat) (t : D → Ev → Option Ev) (c : Ev → Out Bool) (fe : Ev → Out D) : List D → Ev → Option (List D × Ev)
  | [], Γ => some ([], Γ)
  | d :: ds, Γ => match t d Γ with
    | none => none
    | some Γ1 => match c Γ1 with
      | .ok true Γ2 => (match fe Γ2 with
        | .ok e Γ3 => (compL is t c fe ds (wipeG Γ3 is)).map fun p => (e :: p.1, p.2)
        | _ => none)
      | .ok false Γ2 => compL is t c fe ds (wipeG Γ2 is)
      | _ => none
def vComp (is : List Nat) (f : Ev → Out (List D)) (t : D → Ev → Option Ev) (c : Ev → Out Bool) (fe : Ev → Out D) : Ev → Out Va := fun Γ => (f Γ).bind fun ds Γ1 => if ds.length ≤ 16777216 then
    (match compL is t c fe ds (wipeG Γ1 is) with | some (es, Γ2) => .ok (.l .z, .list es) (restG Γ1 Γ2 is) | none => .st) else .st
theorem wipeG_len {Γ : Ev} : ∀ {is : List Nat}, (wipeG Γ is).length = Γ.length
  | [] => rfl
  | i :: is => by unfold wipeG; rw [List.length_set, wipeG_len]
theorem wipeG_get {Γ : Ev} {i : Nat} {x : Va} : ∀ {is : List Nat}, (wipeG Γ is)[i]? = some (some x) → Γ[i]? = some (some x) ∧ i ∉ is
  | [], h => ⟨h, fun z => nomatch z⟩
  | j :: js, h => by
    unfold wipeG at h
    by_cases e : j = i
    · subst e
      rw [List.getElem?_set] at h
      simp at h
    · rw [List.getElem?_set_ne e] at h
      obtain ⟨h1, h2⟩ := wipeG_get h
      exact ⟨h1, fun z => (List.mem_cons.mp z).elim (fun q => e q.symm) h2⟩
section
variable {g : Gh} {Hf H : Hp} {σ : St} {Γ : Ev} {fr : List (V × Va)}
/-- the list on the top of the frame is rewritten with frozen items -/
theorem StOk.mutTop {ds ds' : List D} {a : Addr} {vs' : List V} (h : StOk g Hf H σ Γ ((.ref a, (.l .z, .list ds)) :: fr)) (hv : FzAll g.K Hf vs' ds') : StOk g Hf (upd H a (.lst vs')) σ Γ ((.ref a, (.l .z, .list ds')) :: fr) := by
  obtain ⟨ω, h⟩ := h
  obtain ⟨⟨A, o, nd, hA⟩, hr⟩ := h.fr
  obtain ⟨a', vs, ds0, B, e1, e2, e3, r, e4⟩ := o
  cases e1
  have wa : ω a = some (.inr fr.length) := hA a (by rw [e4]; exact List.mem_cons_self)
  have ow := h.own a _ wa
  have k : ∀ b j, j ≠ Sum.inr fr.length → ω b = some j → upd H a (.lst vs') b = H b := fun b j hj e => upd_ne (fun z => hj (by rw [z, wa] at e; exact (Option.some.inj e).symm))
  refine ⟨ω, fun b o e => ?_, fun b o e => ?_, h.old, h.new, fun b j e => ⟨(h.own b j e).1, (h.own b j e).2.1, ?_⟩, h.len, fun j y e' => ?_, ⟨⟨[a], ⟨a, vs', ds', [], rfl, rfl, upd_same, OwnL.of_zs hv, rfl⟩, by simp, fun b hb => by rw [List.mem_singleton.mp hb]; exact wa⟩, hr.mono (Same.refl _) fun b j hj e => ⟨k b (.inr j) (fun z => by cases z; exact absurd hj (Nat.lt_irrefl _)) e, e⟩⟩⟩
  · rw [upd_ne (ne_of_none e ow.1)]; exact h.base b o e
  · rw [upd_ne (ne_of_none e ow.2.1)]; exact h.sub b o e
  · by_cases z : b = a
    · subst z; rw [upd_same]; exact fun z => nomatch z
    · rw [upd_ne z]; exact (h.own b j e).2.2
  · obtain ⟨w, e2, q⟩ := h.slots j y e'
    exact ⟨w, e2, q.mono (Same.refl _) fun b e => ⟨k b (.inl j) (fun z => nomatch z) e, e⟩⟩
theorem StOk.topL {ds : List D} {a : Addr} (h : StOk g Hf H σ Γ ((.ref a, (.l .z, .list ds)) :: fr)) : ∃ vs, H a = some (.lst vs) ∧ FzAll g.K Hf vs ds := by
  obtain ⟨ω, h⟩ := h
  obtain ⟨A, o, nd, hA⟩ := h.fr.1
  obtain ⟨a', vs, ds0, B, e1, e2, e3, r, e4⟩ := o
  cases e1
  cases e2
  exact ⟨vs, e3, r.zs.2⟩
theorem StOk.addZ {i : Nat} {v : V} {d : D} (h : StOk g Hf H σ Γ fr) (hi : σ[i]? = some (some v)) (z : Fz g.K Hf v d) : StOk g Hf H σ (Γ.set i (some (.z, d))) fr := by
  have := (h.push z).store i
  have e : σ.set i (some v) = σ := by
    apply List.ext_getElem?
    intro j
    by_cases hj : i = j
    · subst hj
      rw [List.getElem?_set_self (List.getElem?_eq_some_iff.mp hi).1, hi]
    · rw [List.getElem?_set_ne hj]
  rw [e] at this
  exact this
theorem StOk.wipe (h : StOk g Hf H σ Γ fr) (is : List Nat) : StOk g Hf H (L2.wipe σ is) (wipeG Γ is) fr := by
  have hl : Γ.length = σ.length := by
    obtain ⟨ω, h⟩ := h
    exact h.len
  refine h.weak (by rw [wipeG_len, wipe_length, hl]) fun i x e => ?_
  obtain ⟨h1, h2⟩ := wipeG_get e
  exact ⟨h1, wipe_out h2⟩
theorem wipeG_none {Γ : Ev} {is : List Nat} : ∀ j ∈ is, ∀ x, (wipeG Γ is)[j]? ≠ some (some x) := fun j hj x e => (wipeG_get e).2 hj
/-- back from a block -/
theorem StOk.rest {Γ1 : Ev} {Hf1 H1 : Hp} {fr1 : List (V × Va)} (h1 : StOk g Hf1 H1 σ Γ1 fr1) (s : Same Hf1 Hf) {is : List Nat} (h : StOk g Hf H (L2.wipe σ is) Γ fr) (hn : ∀ j ∈ is, ∀ x, Γ[j]? ≠ some (some x)) : ∀ js : List Nat, StOk g Hf H σ (restG Γ1 Γ js) fr := by
  have hl : Γ.length = σ.length := by
    obtain ⟨ω, h⟩ := h
    rw [h.len, wipe_length]
  have h0 : StOk g Hf H σ Γ fr := h.weak hl fun i x e => ⟨e, (wipe_out fun hi => hn i hi x e).symm⟩
  intro js
  induction js with
  | nil => exact h0
  | cons j js ih =>
    unfold restG
    split
    · rename_i d e
      obtain ⟨v, e1, z⟩ := h1.getZ e
      exact ih.addZ e1 (z.mono s)
    · exact ih
theorem StOk.back {σ2 : St} (h : StOk g Hf H σ2 Γ fr) {is : List Nat} (e : L2.wipe σ2 is = L2.wipe σ is) : StOk g Hf H (L2.wipe σ is) (wipeG Γ is) fr := by
  rw [← e]
  exact h.wipe is
end
section
variable {X : Cx} {W : WX}
theorem comp_core {g : GW} {is : List Nat} {f : Ev → Out (List D)} {t : D → Ev → Option Ev} {c : Ev → Out Bool} {fe : Ev → Out D} {σ : St} {H : Hp} {Q : VK} (h : tV g (vComp is f t c fe) σ H Q) :
    tLc (tI g f) (tG g is t) (tT ⟨g.h, g.mg, W0⟩ c) (tF ⟨g.h, g.mg, W0⟩ fe) is σ H Q := by
  obtain ⟨Hf, Γ, fr, st, p⟩ := h
  refine ⟨Hf, Γ, fr, st, Post.bind p fun ds Γ1 _ J H1 Hf1 s1 ⟨st1, it⟩ q => ?_⟩
  split at q
  · rename_i lenOk
    cases hc : compL is t c fe ds (wipeG Γ1 is) with
    | none => rw [hc] at q; exact q.elim
    | some r =>
      obtain ⟨es, Γ2⟩ := r
      rw [hc] at q
      intro a na
      have stD : StOk g.h Hf1 (upd H1 a (.lst [])) (wipe σ is) (wipeG Γ1 is) ((.ref a, (.l .z, .list [])) :: fr) := ((st1.pushN (NewV.lst st1.sub na .nil)).wipe is)
      refine ⟨fun i m H => m = ds.length - i ∧ i ≤ ds.length ∧ ∃ Hf2 Γ3 acc es', Same Hf1 Hf2 ∧ acc.length ≤ i ∧ StOk g.h Hf2 H (wipe σ is) Γ3 ((.ref a, (.l .z, .list acc)) :: fr) ∧ (∀ j ∈ is, ∀ x, Γ3[j]? ≠ some (some x)) ∧
        compL is t c fe (ds.drop i) Γ3 = some (es', Γ2) ∧ acc ++ es' = es, ⟨_, rfl, Nat.zero_le _, Hf1, _, [], es, Same.refl _, Nat.le_refl _, stD, wipeG_none, hc, rfl⟩, ?_⟩
      rintro i m H2 ⟨rfl, hi, Hf2, Γ3, acc, es', s2, la, st2, hn, hcl, rfl⟩
      obtain ⟨g1, g2⟩ := it i Hf2 H2 s2 st2.sub
      cases h : ds[i]? with
      | none =>
        rw [List.drop_eq_nil_of_le (List.getElem?_eq_none_iff.mp h)] at hcl
        have hcl' : ([], Γ3) = (es', Γ2) := Option.some.inj hcl
        cases hcl'
        rw [List.append_nil] at q
        exact .inl ⟨g2 h, q _ H2 Hf2 s2 (StOk.rest st1 s2 st2 hn is)⟩
      | some d =>
        obtain ⟨go, yl⟩ := g1 d h
        have hlt := (List.getElem?_eq_some_iff.mp h).1
        have ed : ds.drop i = d :: ds.drop (i + 1) := by
          rw [List.drop_eq_getElem_cons hlt]
          rw [List.getElem?_eq_getElem hlt] at h
          rw [Option.some.inj h]
        rw [ed] at hcl
        refine .inr ⟨go, fun H' => (i + 1 ≤ ds.length ∧ ∃ Hf2 Γ3 acc' es'', Same Hf1 Hf2 ∧ acc'.length ≤ i + 1 ∧ StOk g.h Hf2 H' (wipe σ is) Γ3 ((.ref a, (.l .z, .list acc')) :: fr) ∧ (∀ j ∈ is, ∀ x, Γ3[j]? ≠ some (some x)) ∧
          compL is t c fe (ds.drop (i + 1)) Γ3 = some (es'', Γ2) ∧ acc' ++ es'' = acc ++ es'), fun H' n => ⟨ds.length - (i + 1), by omega, rfl, n⟩, fun x H' y => ?_⟩
        obtain ⟨Hf3, a1, a2, a3, a4, z⟩ := yl x H' y
        have st3 := st2.freeze a1 a2 a3 a4
        unfold compL at hcl
        cases ht : t d Γ3 with
        | none => rw [ht] at hcl; cases hcl
        | some Γ4 =>
          rw [ht] at hcl
          dsimp only at hcl
          refine ⟨Hf3, Γ3, _, d, st3, z, Γ4, ht, fun σ5 H5 Hf5 s5 st5 w5 => ?_⟩
          have w5' : wipe σ5 is = wipe σ is := by
            rw [w5]
            have : ∀ js : List Nat, (∀ j ∈ js, j ∈ is) → wipe (wipe σ is) js = wipe σ is := fun js => by
              induction js with
              | nil => intro _; rfl
              | cons j js ih =>
                intro hj
                show (wipe (wipe σ is) js).set j none = wipe σ is
                rw [ih fun k hk => hj k (List.mem_cons_of_mem _ hk)]
                have hj' := hj j List.mem_cons_self
                apply List.ext_getElem?
                intro k
                by_cases e : j = k
                · subst e
                  rw [List.getElem?_set]
                  have : ∀ {l : List Nat}, j ∈ l → ∀ {τ : St}, (wipe τ l)[j]? = if j < τ.length then some none else none := fun {l} hl {τ} => by
                    induction l with
                    | nil => cases hl
                    | cons b l ih2 =>
                      show ((wipe τ l).set b none)[j]? = _
                      by_cases e2 : b = j
                      · subst e2
                        rw [List.getElem?_set]
                        simp [wipe_length]
                      · rw [List.getElem?_set_ne e2]
                        exact ih2 ((List.mem_cons.mp hl).resolve_left (fun z => e2 z.symm))
                  rw [this hj' (τ := σ)]
                  simp [wipe_length]
                · rw [List.getElem?_set_ne e]
            exact this is fun j hj => hj
          refine ⟨w5', Hf5, Γ4, _, st5, ?_⟩
          have sA : Same Hf1 Hf5 := (s2.trans a2).trans s5
          cases hcc : c Γ4 with
          | ex e Γ5 => rw [hcc] at hcl; cases hcl
          | st => rw [hcc] at hcl; cases hcl
          | ok k Γ5 =>
            rw [hcc] at hcl
            intro k' H6 Hf6 s6 ⟨st6, ek⟩
            subst ek
            cases k' with
            | false =>
              dsimp only at hcl
              rw [if_neg Bool.false_ne_true]
              exact ⟨hlt, Hf6, _, acc, es', sA.trans s6, by omega, st6.back w5', wipeG_none, hcl, rfl⟩
            | true =>
              dsimp only at hcl
              rw [if_pos rfl]
              refine ⟨Hf6, Γ5, _, st6, ?_⟩
              cases he : fe Γ5 with
              | ex e Γ6 => rw [he] at hcl; cases hcl
              | st => rw [he] at hcl; cases hcl
              | ok e Γ6 =>
                rw [he] at hcl
                dsimp only at hcl
                intro v H7 Hf7 s7 ⟨st7, z7⟩
                obtain ⟨vs, e8, f8⟩ := st7.topL
                cases hr : compL is t c fe (ds.drop (i + 1)) (wipeG Γ6 is) with
                | none => rw [hr] at hcl; cases hcl
                | some r =>
                  obtain ⟨es2, Γ7⟩ := r
                  rw [hr] at hcl
                  cases hcl
                  refine ⟨vs, e8, ?_, hlt, Hf7, _, acc ++ [e], es2, (sA.trans s6).trans s7, ?_, (st7.mutTop (f8.append (.cons z7 .nil))).back w5', wipeG_none, hr, ?_⟩
                  · rw [f8.length, sizeLine_eq]; omega
                  · rw [List.length_append, List.length_singleton]; omega
                  · rw [List.append_assoc]; rfl
  · exact q.elim
end
end PV
namespace PV
open PySem PySem.Spec PyProof.Rows L2

/-! ### comprehensions, the rules -/
section
variable {X : Cx} {W : WX}
theorem pv_lc {elt tg iter : Expr} {ifs : List Expr} {scope : Scope} {own : List (Str × Nat)} {pos : Pos} {f : Ev → Out (List D)} {t : D → Ev → Option Ev} {c : Ev → Out Bool} {fe : Ev → Out D} (hc : X.calm = true) (hN : X.N.Nodup) (ok : BlkOk X.N X.env.scope scope own) (hi : PIt X W tg iter f)
    (hg : ∀ (s : Shared) (H : L2.Hp) (C : Addr) (cl : List (Str × Addr)) (fp : List Addr), PGt (X.blk s H scope (compEnvC scope cl C X.env) fp) tg (own.map (·.2)) t)
    (ht : ∀ (s : Shared) (H : L2.Hp) (C : Addr) (cl : List (Str × Addr)) (fp : List Addr), PBs (X.blk s H scope (compEnvC scope cl C X.env) fp) W0 ifs c)
    (he : ∀ (s : Shared) (H : L2.Hp) (C : Addr) (cl : List (Str × Addr)) (fp : List Addr), PF (X.blk s H scope (compEnvC scope cl C X.env) fp) W0 elt fe) (hs : ∀ x, foldedSetIterable iter X.env x = pure x := by intro _; rfl) :
    PV X W (.ListComp elt [⟨tg, iter, ifs, 0⟩] scope pos) (vComp (own.map (·.2)) f t c fe) :=
  ⟨fun f0 h0 => (pe_lc hc hN (hi.run f0 h0) ok (fun s H C cl fp => (hg s H C cl fp).run (gh X W f0 h0) rfl) (fun s H C cl fp => (ht s H C cl fp).run f0 h0) (fun s H C cl fp => (he s H C cl fp).run f0 h0) hs).imp fun σ H Q h => comp_core (g := gh X W f0 h0) h⟩
theorem ps_lc (i : Nat) {y : Str} {py : Pos} {elt tg iter : Expr} {ifs : List Expr} {scope : Scope} {own : List (Str × Nat)} {pos spos : Pos} {f : Ev → Out (List D)} {t : D → Ev → Option Ev} {c : Ev → Out Bool} {fe : Ev → Out D} (hc : X.calm = true) (hN : X.N.Nodup) (ok : BlkOk X.N X.env.scope scope own)
    (hy : X.N[i]? = some y) (hyl : X.env.scope.names.lookup y = some .local) (hsw : swapsWith (.ListComp elt [⟨tg, iter, ifs, 0⟩] scope pos) (some (.Name y py)) spos.line X.env = pure true) (hi : PIt X W tg iter f)
    (hg : ∀ (s : Shared) (H : L2.Hp) (C : Addr) (cl : List (Str × Addr)) (fp : List Addr), PGt (X.blk s H scope (compEnvC scope cl C X.env) fp) tg (own.map (·.2)) t)
    (ht : ∀ (s : Shared) (H : L2.Hp) (C : Addr) (cl : List (Str × Addr)) (fp : List Addr), PBs (X.blk s H scope (compEnvC scope cl C X.env) fp) W0 ifs c)
    (he : ∀ (s : Shared) (H : L2.Hp) (C : Addr) (cl : List (Str × Addr)) (fp : List Addr), PF (X.blk s H scope (compEnvC scope cl C X.env) fp) W0 elt fe) (hs : ∀ x, foldedSetIterable iter X.env x = pure x := by intro _; rfl) :
    PSt X W (.Assign [.Name y py] (.ListComp elt [⟨tg, iter, ifs, 0⟩] scope pos) spos) (sAsg i (vComp (own.map (·.2)) f t c fe)) :=
  ⟨fun f0 h0 => (ps_setLc hc hN hy hyl hsw (hi.run f0 h0) ok (fun s H C cl fp => (hg s H C cl fp).run (gh X W f0 h0) rfl) (fun s H C cl fp => (ht s H C cl fp).run f0 h0) (fun s H C cl fp => (he s H C cl fp).run f0 h0) hs).imp fun D σ H ⟨Hf, Γ, fr, st, p⟩ =>
    comp_core (g := gh X W f0 h0) ⟨Hf, Γ, fr, st, PostS.bind p fun x Γ1 _ v H1 Hf1 s1 st1 q => q _ H1 Hf1 (Same.refl _) (st1.store i)⟩⟩
end

/-! ### raise, try -/
def sRaise (e : Exc) : Ev → SO := fun Γ => .ex e Γ
def sTry (m : Str → Option Bool) (fb fs : Ev → SO) : Ev → SO := fun Γ => match fb Γ with
  | .ex e Γ1 => (match m e.c with
    | some true => (match fs Γ1 with | .ex _ _ => .st | r => r)
    | some false => .ex e Γ1
    | none => .st)
  | r => r
section
variable {X : Cx} {W : WX} {pos : Pos}
theorem ps_rs {x m : Str} {j : Nat} {p p2 cpos : Pos} {C : Addr} {bmB : List Value} {B newId initId : String} (hc : X.calm = true) (tk : Takes X W) (F : ExcBaseFacts B newId initId bmB) (q : PySem.W.excIn X.K C bmB newId = true) (gC : X.mg x = some (.ref C)) (kC : PySem.W.keepIn X.K (.ref C) = true)
    (r : Raises X (.ref C)) (hg : Gl X x) (hdb : (x == ("__debug__" : Str)) = false := by decide) : PSt X W (.Raise (some (.Call (.Name x p) [.Constant (.str m) j p2] [] cpos)) none pos) (sRaise ⟨x, []⟩) :=
  ⟨fun f0 h0 => (ps_raise hc tk (pmk_own F q gC kC r hg hdb)).imp fun D σ H ⟨Hf, Γ, fr, st, p⟩ => p σ (.ref C) none H Hf (Same.refl _) ⟨gC, .inl ⟨rfl, rfl⟩⟩ st⟩
theorem ps_try {x : Str} {c : Value} {body suite : List Stmt} {b₀ : Stmt} {np pos' : Pos} {m : Str → Option Bool} {fb fs : Ev → SO} (hs : X.stack = X.env :: X.outer) (hf : X.env.frame = some X.env.locals) (hc : Names X x c) (tk : Takes X W)
    (hm : ∀ n b cls, m n = some b → X.mg n = some cls → PySem.W.exmOne X.K cls c = some b)
    (hb : ∀ (W' : WX) (pn : List (Addr × Obj)) (xe : Value → Shared → Prop), Takes (X.tr pn xe) W' → PassesOwn (model X.prog X.w) X.A X.env xe → PSts (X.tr pn xe) W' body fb)
    (hsu : ∀ (a : Addr) (pn : List (Addr × Obj)), PSts (X.suite a pn) W0 (b₀ :: suite) fs) : PSt X W (.Try body [.ExceptHandler (some (.Name x np)) none (b₀ :: suite) pos'] [] [] pos) (sTry m fb fs) :=
  ⟨fun f0 h0 => (ps_try_only (tb := fun W' => tS ⟨⟨X.K, f0, h0⟩, X.mg, W'⟩ fb) (ts := fun a cls d => tS ⟨⟨X.K, f0, h0⟩, X.mg, W0⟩ fs) hs hf hc tk (fun W' pn xe tk' pw => (hb W' pn xe tk' pw).run f0 h0) (fun a oe cls d pn _ _ => (hsu a _).run f0 h0)).imp fun D σ H ⟨Hf, Γ, fr, st, p⟩ => by
    refine ⟨Hf, Γ, fr, st, ?_⟩
    unfold sTry at p
    cases h : fb Γ with
    | nx Γ1 => rw [h] at p; exact p
    | rt x Γ1 => rw [h] at p; exact p
    | bk Γ1 => rw [h] at p; exact p
    | ct Γ1 => rw [h] at p; exact p
    | st => rw [h] at p; exact p
    | ex e Γ1 =>
      rw [h] at p
      dsimp only at p
      intro σ' cls dx H' Hf' s' xo st'
      cases hmm : m e.c with
      | none => rw [hmm] at p; exact p.elim
      | some b =>
        rw [hmm] at p
        refine ⟨b, hm e.c b cls hmm xo.1, fun eb a na => ?_, fun eb => ?_⟩
        · subst eb
          dsimp only at p
          refine ⟨Hf', Γ1, fr, st', ?_⟩
          cases hfs : fs Γ1 with
          | nx Γ2 => rw [hfs] at p; exact PostS.mono p s'
          | rt x Γ2 => rw [hfs] at p; exact PostS.mono p s'
          | bk Γ2 => rw [hfs] at p; exact PostS.mono p s'
          | ct Γ2 => rw [hfs] at p; exact PostS.mono p s'
          | ex e Γ2 => rw [hfs] at p; exact p.elim
          | st => rw [hfs] at p; exact p.elim
        · subst eb
          exact p σ' cls dx H' Hf' s' xo st'⟩
end

/-! ### constants of the module -/
/-- a value of the written part is this data, whatever the heap -/
def KD (K : PySem.W.Frag) (v : V) (d : D) : Prop := ∀ H, Fz K H v d
structure KTab (K : PySem.W.Frag) (w : World) (a : Addr) (tab : List (Str × Option D)) : Prop where
  kd : ∃ es n, KDict K w a es n
  no : ∀ x, (x, none) ∈ tab → PySem.W.nsIn K a x = some none
  yes : ∀ x d, (x, some d) ∈ tab → ∃ u v, PySem.W.nsIn K a x = some (some u) ∧ RelV v u ∧ KD K v d
def fIn (neg : Bool) (tab : List (Str × Option D)) (o : Opn) : Ev → Out D := fun Γ => (o.f Γ).bind fun d Γ1 => .of ((o.l Γ1 d).bind fun d => match d with
  | .str x => (tab.lookup x).map fun r => .bool (if neg then !r.isSome else r.isSome)
  | _ => none) Γ1
def fGet (tab : List (Str × Option D)) (o : Opn) : Ev → Out D := fun Γ => (o.f Γ).bind fun d Γ1 => .of ((o.l Γ1 d).bind fun d => match d with
  | .str x => (tab.lookup x).bind fun r => r
  | _ => none) Γ1
theorem mem_of_lookup' {α β : Type} [BEq α] [LawfulBEq α] {x : α} {y : β} : ∀ {l : List (α × β)}, l.lookup x = some y → (x, y) ∈ l
  | (a, b) :: l, h => by
    rw [List.lookup_cons] at h
    split at h
    · rename_i e
      have e' : x = a := eq_of_beq e
      cases h
      subst e'
      exact List.mem_cons_self
    · exact List.mem_cons_of_mem _ (mem_of_lookup' h)
section
variable {X : Cx} {W : WX} {e : Expr} {x : Str} {p pos : Pos} {a : Addr} {tab : List (Str × Option D)} {o : Opn}
theorem pf_gl {v : V} {u : Value} {d : D} (hg : Gl X x) (hm : X.mg x = some u) (r : RelV v u) (k : KD X.K v d) (hd : (x == ("__debug__" : Str)) = false := by decide) : PF X W (.Name x pos) (fC d) :=
  ⟨fun f0 h0 => (pe_glob hg hm r hd).imp fun σ H Q ⟨Hf, Γ, fr, st, p⟩ => p v H Hf (Same.refl _) ⟨st, k Hf⟩⟩
theorem in_core {g : GW} {w : World} (T : KTab g.h.K w a tab) {neg : Bool} {σ : St} {H : Hp} {Q : VK} (h : tF g (fIn neg tab o) σ H Q) :
    tOp (fun x y H Q => ∃ (z : Str) (r : Option Value), x = .str z ∧ y = .ref a ∧ PySem.W.nsIn g.h.K a z = some r ∧ Q (.bl (if neg then !r.isSome else r.isSome)) H) (tO g o) (tC (.ref a)) σ H Q := by
  obtain ⟨Hf, Γ, fr, st, p⟩ := h
  refine ⟨Hf, Γ, fr, st, Post.bind p fun d Γ1 _ v H1 Hf1 s1 ⟨st1, l1⟩ q => ?_⟩
  obtain ⟨c, e, q⟩ := Post.of q
  cases h : o.l Γ1 d with
  | none => rw [h] at e; cases e
  | some d' =>
    rw [h] at e
    have z := l1 Γ1 Hf1 H1 fr (Same.refl _) st1 d' h
    cases d' with
    | str x =>
      cases hl : tab.lookup x with
      | none =>
        have e' : (tab.lookup x).map (fun r => PyData.bool (if neg then !r.isSome else r.isSome)) = some c := e
        rw [hl] at e'; cases e'
      | some r =>
        have e' : (tab.lookup x).map (fun r => PyData.bool (if neg then !r.isSome else r.isSome)) = some c := e
        rw [hl] at e'
        cases e'
        cases z.str
        have mem := mem_of_lookup' hl
        cases r with
        | none => exact ⟨x, none, rfl, rfl, T.no x mem, q _ H1 Hf1 (Same.refl _) ⟨st1, .bl _⟩⟩
        | some d0 =>
          obtain ⟨u, v, e1, _⟩ := T.yes x d0 mem
          exact ⟨x, some u, rfl, rfl, e1, q _ H1 Hf1 (Same.refl _) ⟨st1, .bl _⟩⟩
    | _ => cases e
theorem pf_kin {nm : Str} {np : Pos} (T : KTab X.K X.w a tab) (he : PZ X W e o) (hg : Gl X nm) (hm : X.mg nm = some (.ref a)) (hd : (nm == ("__debug__" : Str)) = false := by decide) (hb : behindInMarks .In (.Name nm np) = false := by rfl) : PF X W (.Compare e [.In] [.Name nm np] pos) (fIn false tab o) :=
  ⟨fun f0 h0 => by
    obtain ⟨es, n, kd⟩ := T.kd
    exact (pe_cmpR (op_in_kd kd) (he.run f0 h0) (pe_glob hg hm (v := .ref a) rfl hd) hb).imp fun σ H Q h => in_core (g := gh X W f0 h0) T h⟩
theorem pf_knin {nm : Str} {np : Pos} (T : KTab X.K X.w a tab) (he : PZ X W e o) (hg : Gl X nm) (hm : X.mg nm = some (.ref a)) (hd : (nm == ("__debug__" : Str)) = false := by decide) (hb : behindInMarks .NotIn (.Name nm np) = false := by rfl) : PF X W (.Compare e [.NotIn] [.Name nm np] pos) (fIn true tab o) :=
  ⟨fun f0 h0 => by
    obtain ⟨es, n, kd⟩ := T.kd
    exact (pe_cmpR (op_notIn_kd kd) (he.run f0 h0) (pe_glob hg hm (v := .ref a) rfl hd) hb).imp fun σ H Q h => in_core (neg := true) (g := gh X W f0 h0) T h⟩
def bF (f : Ev → Out D) : Ev → Out Bool := fun Γ => (f Γ).bind fun d Γ1 => match d with | .bool b => .ok b Γ1 | _ => .st
theorem tTestF {g : GW} {t : TE} {f : Ev → Out D} {σ : St} {H : Hp} {Q : Bool → Hp → Prop} (hv : ∀ Q, tF g f σ H Q → t σ H Q) (h : tT g (bF f) σ H Q) : tTest t σ H Q := by
  obtain ⟨Hf, Γ, fr, st, p⟩ := h
  refine hv _ ⟨Hf, Γ, fr, st, Post.bind p fun d Γ1 _ v H1 Hf1 s1 ⟨st1, z⟩ q => ?_⟩
  cases d with
  | bool k =>
    cases z
    exact ⟨k, rfl, q k H1 Hf1 (Same.refl _) ⟨st1, rfl⟩⟩
  | _ => exact q.elim
theorem pb_kin {nm : Str} {np : Pos} (T : KTab X.K X.w a tab) (he : PZ X W e o) (hg : Gl X nm) (hm : X.mg nm = some (.ref a)) (hd : (nm == ("__debug__" : Str)) = false := by decide) (hb : behindInMarks .In (.Name nm np) = false := by rfl) : PB X W (.Compare e [.In] [.Name nm np] pos) (bF (fIn false tab o)) :=
  ⟨fun f0 h0 => by
    obtain ⟨es, n, kd⟩ := T.kd
    exact (pt_cmpR (op_in_kd kd) (he.run f0 h0) (pe_glob hg hm (v := .ref a) rfl hd) hb).imp fun σ H Q h => tTestF (f := fIn false tab o) (fun Q h => in_core (g := gh X W f0 h0) T h) h⟩
theorem pb_knin {nm : Str} {np : Pos} (T : KTab X.K X.w a tab) (he : PZ X W e o) (hg : Gl X nm) (hm : X.mg nm = some (.ref a)) (hd : (nm == ("__debug__" : Str)) = false := by decide) (hb : behindInMarks .NotIn (.Name nm np) = false := by rfl) : PB X W (.Compare e [.NotIn] [.Name nm np] pos) (bF (fIn true tab o)) :=
  ⟨fun f0 h0 => by
    obtain ⟨es, n, kd⟩ := T.kd
    exact (pt_cmpR (op_notIn_kd kd) (he.run f0 h0) (pe_glob hg hm (v := .ref a) rfl hd) hb).imp fun σ H Q h => tTestF (f := fIn true tab o) (fun Q h => in_core (neg := true) (g := gh X W f0 h0) T h) h⟩
theorem pf_kget {nm : Str} {np : Pos} (T : KTab X.K X.w a tab) (he : PZ X W e o) (hp : PlainIx e) (hg : Gl X nm) (hm : X.mg nm = some (.ref a)) (hd : (nm == ("__debug__" : Str)) = false := by decide) : PF X W (.Subscript (.Name nm np) e pos) (fGet tab o) :=
  ⟨fun f0 h0 => (pe_ix ix_kdict (pe_glob hg hm (v := .ref a) rfl hd) (he.run f0 h0) hp).imp fun σ H Q ⟨Hf, Γ, fr, st, p⟩ => ⟨Hf, Γ, fr, st, Post.bind p fun d Γ1 _ v H1 Hf1 s1 ⟨st1, l1⟩ q => by
    obtain ⟨c, e, q⟩ := Post.of q
    cases h : o.l Γ1 d with
    | none => rw [h] at e; cases e
    | some d' =>
      rw [h] at e
      have z := l1 Γ1 Hf1 H1 fr (Same.refl _) st1 d' h
      cases d' with
      | str x =>
        cases hl : tab.lookup x with
        | none =>
          have e' : (tab.lookup x).bind (fun r => r) = some c := e
          rw [hl] at e'; cases e'
        | some r =>
          have e' : (tab.lookup x).bind (fun r => r) = some c := e
          rw [hl] at e'
          have e2 : r = some c := e'
          subst e2
          cases z.str
          obtain ⟨u, v, e1, rv, k⟩ := T.yes x c (mem_of_lookup' hl)
          obtain ⟨es, n, kd⟩ := T.kd
          exact ⟨a, x, v, rfl, rfl, ⟨es, n, u, kd.at_, kd.lit, e1, rv⟩, q _ H1 Hf1 (Same.refl _) ⟨st1, k Hf1⟩⟩
      | _ => cases e⟩⟩
end
/-! ### frozen dicts -/
def dKey : D → Option Key
  | .int i => some (.inl i)
  | .str x => some (.inr x)
  | _ => none
def dLook : List (D × D) → Key → Option D
  | [], _ => none
  | (k, d) :: r, x => if dKey k = some x then some d else dLook r x
theorem dKey_kD (k : Key) : dKey (kD k) = some k := by cases k <;> rfl
theorem dKey_eq {d : D} {k : Key} (h : dKey d = some k) : d = kD k := by
  cases d <;> cases h <;> rfl
theorem look_ok {K : PySem.W.Frag} {Hf : Hp} (x : Key) : ∀ {kvs : List (Key × V)} {ds : List D}, FzAll K Hf (kvs.map (·.2)) ds → (valV kvs x = none ∧ dLook ((kvs.map fun p => kD p.1).zip ds) x = none) ∨ ∃ v d, valV kvs x = some v ∧ dLook ((kvs.map fun p => kD p.1).zip ds) x = some d ∧ Fz K Hf v d
  | [], _, _ => .inl ⟨rfl, by cases ‹List D› <;> rfl⟩
  | (k, v) :: kvs, _, .cons (d := d) (ds := ds) h r => by
    show (valV ((k, v) :: kvs) x = none ∧ (if dKey (kD k) = some x then some d else dLook ((kvs.map fun p => kD p.1).zip ds) x) = none) ∨ _
    rw [dKey_kD]
    by_cases e : k = x
    · subst e
      exact .inr ⟨v, d, by unfold valV; simp, by
        show (if dKey (kD k) = some k then some d else _) = some d
        rw [dKey_kD, if_pos rfl], h⟩
    · have n : ¬ (some k = some x) := fun z => e (Option.some.inj z)
      have e2 : valV ((k, v) :: kvs) x = valV kvs x := by
        unfold valV
        rw [List.find?_cons_of_neg (by simpa using e)]
      rw [if_neg n, e2]
      rcases look_ok x r with h | ⟨v', d', h1, h2, h3⟩
      · exact .inl h
      · exact .inr ⟨v', d', h1, by
          show (if dKey (kD k) = some x then some d else _) = some d'
          rw [dKey_kD, if_neg n]
          exact h2, h3⟩
end PV
namespace PV
open PySem PySem.Spec PyProof.Rows L2

/-! ### in, not in -/
theorem flat_of {K : PySem.W.Frag} {Hf : Hp} {v : V} {d : D} (h : Fz K Hf v d) (f : dFlat d = true) : flatV v = true := by
  cases h <;> first | rfl | cases f
theorem flat_all {K : PySem.W.Frag} {Hf : Hp} : ∀ {vs : List V} {ds : List D}, FzAll K Hf vs ds → ds.all dFlat = true → vs.all flatV = true
  | _, _, .nil, _ => rfl
  | _, _, .cons h r, f => by
    rw [List.all_cons, Bool.and_eq_true] at f ⊢
    exact ⟨flat_of h f.1, flat_all r f.2⟩
theorem eqV_flat {K : PySem.W.Frag} {Hf : Hp} {v w : V} {d e : D} (h : Fz K Hf v d) (h' : Fz K Hf w e) (f : dFlat d = true) (f' : dFlat e = true) : eqV v w = PyData.eqv d e := by
  cases h <;> cases h' <;> first
    | (simp only [eqV, PyData.eqv]; done)
    | (cases f; done)
    | (cases f'; done)
theorem inV_flat {K : PySem.W.Frag} {Hf : Hp} {x : V} {d : D} (h : Fz K Hf x d) (f : dFlat d = true) : ∀ {vs : List V} {ds : List D}, FzAll K Hf vs ds → ds.all dFlat = true → inV x vs = ds.any fun z => PyData.eqv z d
  | _, _, .nil, _ => rfl
  | _, _, .cons hz r, fa => by
    rw [List.all_cons, Bool.and_eq_true] at fa
    have ih := inV_flat h f r fa.2
    unfold inV at ih ⊢
    rw [List.any_cons, List.any_cons, ih, eqV_flat hz h fa.1 f]
def dInB : D → D → Option Bool
  | x, .list ds => if dFlat x && ds.all dFlat then some (ds.any fun z => PyData.eqv z x) else none
  | x, .tuple ds => if dFlat x && ds.all dFlat then some (ds.any fun z => PyData.eqv z x) else none
  | .str i, .str j => some (!(Builtin.Str.occurrences j i 0 j.length 1).isEmpty)
  | _, _ => none
def dIn (a b : D) : Option Va := b2 (dInB a b)
def dNin (a b : D) : Option Va := b2 ((dInB a b).map not)
def rInV (K : PySem.W.Frag) : R2 := fun x y H Q => rIn K false x y H Q ∨ ∃ i j, x = .str i ∧ y = .str j ∧ Q (.bl (!(Builtin.Str.occurrences j i 0 j.length 1).isEmpty)) H
def rNinV (K : PySem.W.Frag) : R2 := fun x y H Q => rIn K true x y H Q ∨ ∃ i j, x = .str i ∧ y = .str j ∧ Q (.bl (!(!(Builtin.Str.occurrences j i 0 j.length 1).isEmpty))) H
section
variable {X : Cx} {K : PySem.W.Frag}
theorem op_inV : OpR X (compareOp .In) (rInV X.K) := op_in_seq.or op_in_str
theorem op_ninV : OpR X (compareOp .NotIn) (rNinV X.K) := op_notIn_seq.or L2.op_notin_str
theorem inB_ok {Hf H : Hp} {x y : V} {dx dy : D} {c : Bool} (s : Same Hf H) (h1 : Fz1 K Hf H x dx) (h2 : Fz1 K Hf H y dy) (e : dInB dx dy = some c) :
    (∃ p xs, y = .ref p ∧ (SqL K H p xs ∨ SqT K H p xs) ∧ flatV x = true ∧ xs.all flatV = true ∧ inV x xs = c) ∨ ∃ i j, x = .str i ∧ y = .str j ∧ (!(Builtin.Str.occurrences j i 0 j.length 1).isEmpty) = c := by
  have fz : ∀ {d : D}, Fz1 K Hf H x d → dFlat d = true → Fz K Hf x d := fun {d} h f => by
    rcases h with h | ⟨a, vs, ds, rfl, rfl, h, r⟩
    · exact h
    · cases f
  unfold dInB at e
  split at e
  · split at e
    · rename_i hf
      rw [Bool.and_eq_true] at hf
      obtain ⟨a, vs, rfl, r, f⟩ := h2.list s
      have z := fz h1 hf.1
      refine .inl ⟨a, vs, rfl, .inl (SqL.of r), flat_of z hf.1, flat_all f hf.2, ?_⟩
      rw [inV_flat z hf.1 f hf.2]
      exact Option.some.inj e
    · cases e
  · split at e
    · rename_i hf
      rw [Bool.and_eq_true] at hf
      obtain ⟨a, vs, rfl, r, f⟩ := h2.tup
      have z := fz h1 hf.1
      refine .inl ⟨a, vs, rfl, .inr (Same.seqT s r), flat_of z hf.1, flat_all f hf.2, ?_⟩
      rw [inV_flat z hf.1 f hf.2]
      exact Option.some.inj e
    · cases e
  · exact .inr ⟨_, _, h1.str, h2.str, Option.some.inj e⟩
  · cases e
theorem ops_in : OpS K (rInV K) dIn := fun Hf H x y dx dy z Q s h1 h2 e q => by
  cases h : dInB dx dy with
  | none => rw [dIn, h] at e; cases e
  | some c =>
    rw [dIn, h] at e
    cases e
    have fin := q _ H Hf (.z s (.bl c))
    rcases inB_ok s h1 h2 h with ⟨p, xs, e1, e2, e3, e4, e5⟩ | ⟨i, j, e1, e2, e3⟩
    · exact .inl ⟨p, xs, e1, e2, e3, e4, by rw [if_neg Bool.false_ne_true, e5]; exact fin⟩
    · exact .inr ⟨i, j, e1, e2, by rw [e3]; exact fin⟩
theorem ops_nin : OpS K (rNinV K) dNin := fun Hf H x y dx dy z Q s h1 h2 e q => by
  cases h : dInB dx dy with
  | none => rw [dNin, h] at e; cases e
  | some c =>
    rw [dNin, h] at e
    cases e
    have fin := q _ H Hf (.z s (.bl (!c)))
    rcases inB_ok s h1 h2 h with ⟨p, xs, e1, e2, e3, e4, e5⟩ | ⟨i, j, e1, e2, e3⟩
    · exact .inl ⟨p, xs, e1, e2, e3, e4, by rw [if_pos rfl, e5]; exact fin⟩
    · exact .inr ⟨i, j, e1, e2, by rw [e3]; exact fin⟩
end

/-! ### frozen dicts: {}, d.get(k, x) -/
def fDct0 : Ev → Out D := fun Γ => .ok (.dict []) Γ
def fGet2 (fd fk fx : Ev → Out D) : Ev → Out D := fun Γ => (fd Γ).bind fun d Γ1 => match d with
  | .dict kvs => if (kvs.all fun p => (dKey p.1).isSome) = true then ((fk Γ1).bind fun k Γ2 => (fx Γ2).bind fun x Γ3 => .of ((dKey k).map fun y => (dLook kvs y).getD x) Γ3) else .st
  | _ => .st
theorem NewV.dct {K : PySem.W.Frag} {Hf H : Hp} {p : Addr} {kvs : List (Key × V)} {ds : List D} (s : Same Hf H) (n : H p = none) (h : FzAll K Hf (kvs.map (·.2)) ds) : NewV K Hf H (upd H p (.dK kvs)) (upd Hf p (.dK kvs)) (.ref p) (.z, .dict ((kvs.map fun p => kD p.1).zip ds)) := by
  have nf : Hf p = none := Same.free s n
  refine ⟨same_new n, same_new nf, fun b o e => ?_, fun b e => ?_, [], ⟨rfl, .dK upd_same (h.mono (same_new nf))⟩, List.nodup_nil, fun _ z => nomatch z⟩
  · by_cases z : b = p
    · subst z; rw [upd_same] at e ⊢; exact e
    · rw [upd_ne z] at e ⊢; exact s b o e
  · by_cases z : b = p
    · subst z; exact .inr n
    · rw [upd_ne z] at e; exact .inl e
section
variable {X : Cx} {W : WX} {o e f : Expr} {pos apos cpos : Pos}
theorem pf_dct0 : PF X W (.Dict [] [] pos) fDct0 := ⟨fun f0 h0 => pe_dnewK.imp fun σ H Q ⟨Hf, Γ, fr, st, p⟩ a n => by
  have nv := NewV.dct (K := X.K) (kvs := []) (ds := []) st.sub n .nil
  have st1 := st.pushN nv
  exact p _ _ _ nv.f1 ⟨st1.pop, st1.top⟩⟩
theorem fz_dict {K : PySem.W.Frag} {Hf : Hp} {v : V} {kvs : List (D × D)} (h : Fz K Hf v (.dict kvs)) (hk : (kvs.all fun p => (dKey p.1).isSome) = true) : ∃ a kvs' ds, v = .ref a ∧ Hf a = some (.dK kvs') ∧ FzAll K Hf (kvs'.map (·.2)) ds ∧ kvs = (kvs'.map fun p => kD p.1).zip ds := by
  generalize hd : PyData.dict kvs = d at h
  cases h with
  | scr ns h =>
    cases hd
    cases hk
  | raw a =>
    unfold rawD at hd
    cases hd
    cases hk
  | dK h r =>
    cases hd
    exact ⟨_, _, _, rfl, h, r, rfl⟩
  | _ => cases hd
theorem pf_get2 {fd fk fx : Ev → Out D} (hu : X.A.units + 1 < cLine) (hd : PF X W o fd) (hk : PF X W e fk) (hx : PF X W f fx) (m : M2 X o "get" apos e f cpos) : PF X W (.Call (.Attribute o "get" apos) [e, f] [] cpos) (fGet2 fd fk fx) :=
  ⟨fun f0 h0 => (pe_dget2 hu (hd.run f0 h0) (hk.run f0 h0) (hx.run f0 h0) m).imp fun σ H Q ⟨Hf, Γ, fr, st, p⟩ => ⟨Hf, Γ, fr, st, Post.bind p fun d Γ1 _ v H1 Hf1 s1 ⟨st1, z⟩ q => by
    split at q
    · rename_i kvs
      split at q
      · rename_i hk
        obtain ⟨a, kvs', ds, rfl, ha, fd, rfl⟩ := fz_dict z hk
        refine ⟨a, rfl, .inl ⟨kvs', .inl (st1.sub _ _ ha)⟩, Hf1, Γ1, fr, st1, Post.bind q fun k Γ2 _ w H2 Hf2 s2 ⟨st2, zk⟩ q => ⟨Hf2, Γ2, fr, st2, Post.bind q fun x Γ3 _ u H3 Hf3 s3 ⟨st3, zx⟩ q => ?_⟩⟩
        obtain ⟨c, e, q⟩ := Post.of q
        cases hy : dKey k with
        | none => rw [hy] at e; cases e
        | some y =>
          rw [hy] at e
          cases e
          dsimp only at q
          have ek : w = kV y := by
            have := dKey_eq hy
            subst this
            cases y <;> cases zk <;> rfl
          have hb : H3 a = some (.dK kvs') := st3.sub _ _ ((s2.trans s3) _ _ ha)
          refine ⟨valV kvs' y, by rw [ek]; exact DGet.k hb, ?_⟩
          rcases look_ok y fd with ⟨h1, h2⟩ | ⟨v', d', h1, h2, h3⟩
          · rw [h1]
            rw [h2] at q
            exact q u H3 Hf3 (Same.refl _) ⟨st3, zx⟩
          · rw [h1]
            rw [h2] at q
            exact q v' H3 Hf3 (Same.refl _) ⟨st3, h3.mono (s2.trans s3)⟩
      · exact q.elim
    · exact q.elim⟩⟩
end
end PV
namespace PV
open PySem PySem.Spec PyProof.Rows L2

/-! ### list(range(n)), tuple(range(n)) -/
def vLR1 (f : Ev → Out D) : Ev → Out Va := fun Γ => (f Γ).bind fun d Γ1 => match d with | .int j => if 0 ≤ j ∧ j ≤ 16777216 then .ok (.l .z, .list (rangeL 0 j.toNat)) Γ1 else .st | _ => .st
def fTR1 (f : Ev → Out D) : Ev → Out D := fun Γ => (f Γ).bind fun d Γ1 => match d with | .int j => if 0 ≤ j ∧ j ≤ 16777216 then .ok (.tuple (rangeL 0 j.toNat)) Γ1 else .st | _ => .st
theorem fz_range {K : PySem.W.Frag} {Hf : Hp} (a b : Int) : FzAll K Hf (rgV a b) (rangeL a (b - a).toNat) := by
  have : ∀ l : List Nat, FzAll K Hf (l.map fun i => V.int (a + (i : Nat))) (l.map fun i => PyData.int (a + (i : Nat))) := fun l => by
    induction l with
    | nil => exact .nil
    | cons x l ih => exact .cons (.int _) ih
  exact this _
section
variable {X : Cx} {W : WX} {a b c : Expr} {p p2 pos pos2 : Pos}
theorem pv_lr1 {f : Ev → Out D} (hc : X.calm = true) (hg : Gl X "list") (hm : X.mg "list" = none) (hg2 : Gl X "range") (hm2 : X.mg "range" = none) (h : PF X W a f) (na : starEach [a] X.env = (false, eval a X.env) :: starEach [] X.env := by rfl)
    (na2 : starEach [.Call (.Name "range" p2) [a] [] pos2] X.env = (false, eval (.Call (.Name "range" p2) [a] [] pos2) X.env) :: starEach [] X.env := by rfl) : PV X W (.Call (.Name "list" p) [.Call (.Name "range" p2) [a] [] pos2] [] pos) (vLR1 f) :=
  ⟨fun f0 h0 => (pe_listRg hc hg hm (prg_1 hg2 hm2 (h.run f0 h0) na) na2).imp fun σ H Q ⟨Hf, Γ, fr, st, p⟩ => ⟨Hf, Γ, fr, st, Post.bind p fun d Γ1 _ v H1 Hf1 s1 ⟨st1, z⟩ q => by
    cases d with
    | int j =>
      cases z
      dsimp only at q
      split at q
      · rename_i c
        refine ⟨j, rfl, .of_le (Int.le_refl _) c.2 (by decide) c.1, fun l n => q _ _ Hf1 (Same.refl _) (st1.pushN ?_)⟩
        have := fz_range (K := X.K) (Hf := Hf1) 0 j
        rw [Int.sub_zero] at this
        exact .lst st1.sub n this
      · exact q.elim
    | _ => exact q.elim⟩⟩
theorem pf_tr1 {f : Ev → Out D} (hc : X.calm = true) (hg : Gl X "tuple") (hm : X.mg "tuple" = none) (hg2 : Gl X "range") (hm2 : X.mg "range" = none) (h : PF X W a f) (na : starEach [a] X.env = (false, eval a X.env) :: starEach [] X.env := by rfl)
    (na2 : starEach [.Call (.Name "range" p2) [a] [] pos2] X.env = (false, eval (.Call (.Name "range" p2) [a] [] pos2) X.env) :: starEach [] X.env := by rfl) : PF X W (.Call (.Name "tuple" p) [.Call (.Name "range" p2) [a] [] pos2] [] pos) (fTR1 f) :=
  ⟨fun f0 h0 => (pe_tupRg hc hg hm (prg_1 hg2 hm2 (h.run f0 h0) na) na2).imp fun σ H Q ⟨Hf, Γ, fr, st, p⟩ => ⟨Hf, Γ, fr, st, Post.bind p fun d Γ1 _ v H1 Hf1 s1 ⟨st1, z⟩ q => by
    cases d with
    | int j =>
      cases z
      dsimp only at q
      split at q
      · rename_i c
        refine ⟨j, rfl, .of_le (Int.le_refl _) c.2 (by decide) c.1, fun l n => ?_⟩
        have := fz_range (K := X.K) (Hf := Hf1) 0 j
        rw [Int.sub_zero] at this
        have nv := NewV.tup st1.sub n this
        have st2 := st1.pushN nv
        exact q _ _ _ nv.f1 ⟨st2.pop, st2.top⟩
      · exact q.elim
    | _ => exact q.elim⟩⟩
/-! ### int(..) of ints, flags, texts -/
def dIntV : List D → Option Va
  | [.int i] => some (.z, .int i)
  | [.bool b] => some (.z, .int (if b then 1 else 0))
  | [.str a] => if a.length ≤ 640 then (PySem.intText? a).map fun n => (.z, .int n) else none
  | _ => none
def rIntV : List V → Hp → VK → Prop := fun xs H Q => ((∃ i, xs = [.int i] ∧ Q (.int i) H) ∨ ∃ k, xs = [.bl k] ∧ Q (.int (if k then 1 else 0)) H) ∨ ∃ a n, xs = [.str a] ∧ PySem.intText? a = some n ∧ a.length ≤ 640 ∧ Q (.int n) H
theorem call_intV : CallR X (.type "int") rIntV := call_int1.or call_int_str
theorem cs_intV {K : PySem.W.Frag} : CallS K rIntV dIntV := fun Hf H xs ds z Q s h e q => by
  unfold dIntV at e
  split at e
  · obtain ⟨v, rfl, hh⟩ := h.one
    cases e
    cases hh.int
    exact .inl (.inl ⟨_, rfl, q _ H Hf (.z s (.int _))⟩)
  · obtain ⟨v, rfl, hh⟩ := h.one
    cases e
    cases hh.bool
    exact .inl (.inr ⟨_, rfl, q _ H Hf (.z s (.int _))⟩)
  · obtain ⟨v, rfl, hh⟩ := h.one
    split at e
    · cases hi : PySem.intText? ‹Str› with
      | none => rw [hi] at e; cases e
      | some n =>
        rw [hi] at e
        cases e
        cases hh.str
        exact .inr ⟨_, n, rfl, hi, ‹_›, q _ H Hf (.z s (.int _))⟩
    · cases e
  · cases e
theorem call_maxV (hc : X.calm = true) : CallR X (.builtin "max") (rMaxV X.K) := (cr_max hc).or (call_max2 hc)
theorem call_minV (hc : X.calm = true) : CallR X (.builtin "min") (rMinV X.K) := (cr_min hc).or (call_min2 hc)
/-! ### a < b < c -/
def vCh (op op' : D → D → Option Va) (a b c : Opn) : Ev → Out D := fun Γ => (a.f Γ).bind fun x Γ1 => (b.f Γ1).bind fun y Γ2 => match (a.l Γ2 x).bind fun x => (b.l Γ2 y).bind fun y => op x y with
  | some (.z, .bool true) => (c.f Γ2).bind fun w Γ3 => .of (((b.l Γ3 y).bind fun y => (c.l Γ3 w).bind fun w => op' y w).bind fun z => match z with | (.z, .bool k) => some (.bool k) | _ => none) Γ3
  | some (.z, .bool false) => .ok (.bool false) Γ2
  | _ => .st
theorem chain_of {g : GW} {r r' : R2} {op op' : D → D → Option Va} {oa ob oc : Opn} (hs : OpS g.h.K r op) (hs' : OpS g.h.K r' op') {σ : St} {H : Hp} {Q : VK} (h : tF g (vCh op op' oa ob oc) σ H Q) : tChain r r' (tO g oa) (tO g ob) (tO g oc) σ H Q := by
  obtain ⟨Hf, Γ, fr, st, p⟩ := h
  refine ⟨Hf, Γ, fr, st, Post.bind p fun x Γ1 _ v H1 Hf1 s1 ⟨st1, l1⟩ q => ⟨Hf1, Γ1, fr, st1, Post.bind q fun y Γ2 _ u H2 Hf2 s2 ⟨st2, l2⟩ q => ?_⟩⟩
  cases hb : (oa.l Γ2 x).bind fun x => (ob.l Γ2 y).bind fun y => op x y with
  | none => rw [hb] at q; exact q.elim
  | some z =>
    rw [hb] at q
    obtain ⟨x', y', e1, e2, e3⟩ := bind2 hb
    refine hs Hf2 H2 v u x' y' z _ st2.sub (l1 Γ2 Hf2 H2 fr s2 st2 x' e1) (l2 Γ2 Hf2 H2 fr (Same.refl _) st2 y' e2) e3 fun v' H' Hf' n => ?_
    have st3 := st2.pushN n
    obtain ⟨s, d⟩ := z
    cases s with
    | l _ => cases d <;> exact q.elim
    | d _ => cases d <;> exact q.elim
    | z =>
      cases d with
      | bool k =>
        have z3 := st3.top
        cases z3
        cases k with
        | false => exact ⟨false, rfl, q _ H' Hf' n.f1 ⟨st3.pop, .bl _⟩⟩
        | true =>
          refine ⟨true, rfl, Hf', Γ2, fr, st3.pop, Post.bind (Post.mono q n.f1) fun w Γ3 _ t H4 Hf4 s4 ⟨st4, l4⟩ q => ?_⟩
          obtain ⟨c, e, q⟩ := Post.of q
          cases hb2 : (ob.l Γ3 y).bind fun y => (oc.l Γ3 w).bind fun w => op' y w with
          | none => rw [hb2] at e; cases e
          | some z' =>
            rw [hb2] at e
            obtain ⟨y2, w2, f1, f2, f3⟩ := bind2 hb2
            refine hs' Hf4 H4 u t y2 w2 z' _ st4.sub (l2 Γ3 Hf4 H4 fr (n.f1.trans s4) st4 y2 f1) (l4 Γ3 Hf4 H4 fr (Same.refl _) st4 w2 f2) f3 fun v' H5 Hf5 n5 => ?_
            have st5 := st4.pushN n5
            obtain ⟨s, d⟩ := z'
            cases s with
            | l _ => cases d <;> cases e
            | d _ => cases d <;> cases e
            | z =>
              cases d with
              | bool k =>
                cases e
                exact q _ H5 Hf5 n5.f1 ⟨st5.pop, st5.top⟩
              | _ => cases e
      | _ => exact q.elim
theorem pf_ch {op op' : CmpOp} {r r' : R2} {f f' : D → D → Option Va} {oa ob oc : Opn} (ho : OpR X (compareOp op) r) (hs : OpS X.K r f) (ho' : OpR X (compareOp op') r') (hs' : OpS X.K r' f') (ha : PZ X W a oa) (hb : PZ X W b ob) (hc : PZ X W c oc)
    (hm : lastMarks [op, op'] [b, c] = false := by with_unfolding_all rfl) : PF X W (.Compare a [op, op'] [b, c] pos) (vCh f f' oa ob oc) :=
  ⟨fun f0 h0 => (pe_chain ho ho' (ha.run f0 h0) (hb.run f0 h0) (hc.run f0 h0) hm).imp fun σ H Q h => chain_of hs hs' h⟩
theorem pb_ch {op op' : CmpOp} {r r' : R2} {f f' : D → D → Option Va} {oa ob oc : Opn} (ho : OpR X (compareOp op) r) (hs : OpS X.K r f) (ho' : OpR X (compareOp op') r') (hs' : OpS X.K r' f') (ha : PZ X W a oa) (hb : PZ X W b ob) (hc : PZ X W c oc)
    (hm : lastMarks [op, op'] [b, c] = false := by with_unfolding_all rfl) : PB X W (.Compare a [op, op'] [b, c] pos) (bF (vCh f f' oa ob oc)) :=
  ⟨fun f0 h0 => (pt_chain ho ho' (ha.run f0 h0) (hb.run f0 h0) (hc.run f0 h0) hm).imp fun σ H Q h => tTestF (f := vCh f f' oa ob oc) (fun Q h => chain_of (g := gh X W f0 h0) hs hs' h) h⟩
/-! ### a list or a tuple that is walked -/
def iLT (f : Ev → Out D) : Ev → Out (List D) := fun Γ => (f Γ).bind fun d Γ1 => match d with | .list ds => .ok ds Γ1 | .tuple ds => .ok ds Γ1 | _ => .st
theorem pi_lt {tg e : Expr} {f : Ev → Out D} (h : PF X W e f) : PIt X W tg e (iLT f) := ⟨fun f0 h0 => ⟨fun pins s σ H R I ⟨Hf, Γ, fr, st, q⟩ => by
  have hl := ((pi_l (tg := tg) h).run f0 h0).run pins s σ H R I
  have ht := ((pi_t (tg := tg) h).run f0 h0).run pins s σ H R I
  unfold iLT at q
  cases hf : f Γ with
  | ok d Γ1 =>
    rw [hf] at q
    cases d with
    | list ds => exact hl ⟨Hf, Γ, fr, st, by unfold iL; rw [hf]; exact q⟩
    | tuple ds => exact ht ⟨Hf, Γ, fr, st, by unfold iT; rw [hf]; exact q⟩
    | _ => exact q.elim
  | ex e Γ1 =>
    rw [hf] at q
    exact hl ⟨Hf, Γ, fr, st, by unfold iL; rw [hf]; exact q⟩
  | st => rw [hf] at q; exact q.elim⟩⟩
/-! ### a slot is frozen behind a statement; a slot is handed on whole -/
def sFz (i : Nat) (a : Ev → SO) : Ev → SO := fun Γ => match a Γ with
  | .nx Γ1 => (match Γ1[i]? with | some (some x) => .nx (Γ1.set i (some (.z, x.2))) | _ => .nx Γ1)
  | r => r
theorem ps_fz (i : Nat) {st : Stmt} {a : Ev → SO} (h : PSt X W st a) : PSt X W st (sFz i a) := ⟨fun f0 h0 => (h.run f0 h0).imp fun D σ H ⟨Hf, Γ, fr, st, q⟩ => by
  refine ⟨Hf, Γ, fr, st, ?_⟩
  unfold sFz at q
  cases ha : a Γ with
  | nx Γ1 =>
    rw [ha] at q
    dsimp only at q
    intro σ' H' Hf' s' st'
    split at q
    · rename_i x hx
      obtain ⟨Hf2, v, s2, _, st2⟩ := st'.frzSlot hx
      exact q σ' H' Hf2 (s'.trans s2) st2.pop
    · exact q σ' H' Hf' s' st'
  | rt x Γ1 => rw [ha] at q; exact q
  | bk Γ1 => rw [ha] at q; exact q
  | ct Γ1 => rw [ha] at q; exact q
  | ex e Γ1 => rw [ha] at q; exact q
  | st => rw [ha] at q; exact q⟩
def vMv (i : Nat) : Ev → Out Va := fun Γ => match Γ[i]? with | some (some x) => .ok x (Γ.set i none) | _ => .st
theorem StOk.take {g : Gh} {Hf H : Hp} {σ : St} {Γ : Ev} {fr : List (V × Va)} {i : Nat} {x : Va} (h : StOk g Hf H σ Γ fr) (hi : Γ[i]? = some (some x)) : ∃ v, σ[i]? = some (some v) ∧ StOk g Hf H σ (Γ.set i none) ((v, x) :: fr) := by
  obtain ⟨ω, h⟩ := h
  obtain ⟨v, e1, A, o, nd, hA⟩ := h.slots i x hi
  classical
  refine ⟨v, e1, fun a => if a ∈ A then some (.inr fr.length) else ω a, h.base, h.sub, h.old, h.new, fun a j e => ?_, by rw [List.length_set]; exact h.len, fun j y e => ?_, ⟨⟨A, o, nd, fun a ha => if_pos ha⟩, h.fr.mono (Same.refl _) fun a j hj e => ⟨rfl, ?_⟩⟩⟩
  · by_cases z : a ∈ A
    · exact h.own a _ (hA a z)
    · simp only [if_neg z] at e; exact h.own a j e
  · by_cases hj : i = j
    · subst hj
      rw [List.getElem?_set] at e
      simp at e
    · rw [List.getElem?_set_ne hj] at e
      obtain ⟨w, e2, q⟩ := h.slots j y e
      refine ⟨w, e2, q.mono (Same.refl _) fun a e => ⟨rfl, ?_⟩⟩
      have z : ¬ a ∈ A := fun z => by
        rw [hA a z] at e
        cases e
        exact hj rfl
      simp only [if_neg z]; exact e
  · have z : ¬ a ∈ A := fun z => by
      rw [hA a z] at e
      cases e
    simp only [if_neg z]; exact e
theorem pv_mv (i : Nat) {x : Str} (hN : X.N[i]? = some x := by rfl) (hv : Vis X.env.scope x := by first | exact Or.inl rfl | exact Or.inr (Or.inl rfl) | exact Or.inr (Or.inr rfl)) (hd : (x == ("__debug__" : Str)) = false := by decide)
    (hcd : (x == ("__classdict__" : Str)) = false := by decide) : PV X W (.Name x pos) (vMv i) := ⟨fun f0 h0 => (pe_var hN hv hd hcd).imp fun σ H Q ⟨Hf, Γ, fr, st, p⟩ => by
  unfold vMv at p
  split at p
  · rename_i y e
    obtain ⟨v, e1, st1⟩ := st.take e
    exact ⟨v, e1, p v H Hf (Same.refl _) st1⟩
  · exact p.elim⟩
end
end PV
namespace PV
open PySem PySem.Spec PyProof.Rows L2
abbrev S (x : String) : Str := Str.ofString x
def fuel : Nat := 1000000
theorem hU {k : Nat} {A : Around} (hr : Room k A) : A.units + 64 < cLine := hr.units
theorem hU1 {k : Nat} {A : Around} (hr : Room k A) : A.units + 1 < cLine := hu_of hr
theorem kit_int : ∀ t ∈ ["NoneType", "bool", "int", "str", "list", "tuple", "dict"], kitB t "int" = some (isB t "int") := by decide +kernel
theorem kit_bool : ∀ t ∈ ["NoneType", "bool", "int", "str", "list", "tuple", "dict"], kitB t "bool" = some (isB t "bool") := by decide +kernel
theorem kit_str : ∀ t ∈ ["NoneType", "bool", "int", "str", "list", "tuple", "dict"], kitB t "str" = some (isB t "str") := by decide +kernel
theorem kit_list : ∀ t ∈ ["NoneType", "bool", "int", "str", "list", "tuple", "dict"], kitB t "list" = some (isB t "list") := by decide +kernel
theorem kit_tuple : ∀ t ∈ ["NoneType", "bool", "int", "str", "list", "tuple", "dict"], kitB t "tuple" = some (isB t "tuple") := by decide +kernel
theorem kit_dict : ∀ t ∈ ["NoneType", "bool", "int", "str", "list", "tuple", "dict"], kitB t "dict" = some (isB t "dict") := by decide +kernel
def dAddI : D → D → Option Va
  | .int i, .int j => some (.z, .int (i + j))
  | _, _ => none
theorem ops_addI {K : PySem.W.Frag} : OpS K (rI0 fun i j => .int (i + j)) dAddI := ops_int0 fun dx dy z e => by
  cases dx <;> cases dy <;> cases e
  exact ⟨_, _, rfl, rfl, rfl⟩
theorem cs_abs {K : PySem.W.Frag} : CallS K (fun xs H Q => ∃ i, xs = [.int i] ∧ Q (.int (if i < 0 then -i else i)) H) dAbs := fun Hf H xs ds z Q s h e q => by
  unfold dAbs at e
  split at e
  · obtain ⟨v, rfl, hh⟩ := h.one
    cases e
    cases hh.int
    exact ⟨_, rfl, q _ H Hf (.z s (.int _))⟩
  · cases e
end PV
namespace PV
open PySem PySem.Spec PyProof.Rows L2
/-! ### the end -/
def scr (ns : List Int) : D := .dict [(.none, .list (ns.map .int))]
def spTop (K : PySem.W.Frag) : Sp := fun vs H Q _ => ∃ (a : Addr) (ns : List Int), vs = [.ref a] ∧ SqL K H a (ns.map V.int) ∧ ns.length ≤ 63 ∧ ∀ H', Q (.bl true) H'
theorem top_ok {P : Program} {w : World} {K : PySem.W.Frag} {mg : Str → Option Value} {base : Heap} {CX : CXT} {k : Nat} {f : Addr} {fd : FuncData} {ps : List Str} {F : List D → Res} (h : FnOk P w K mg base CX k f fd ps (spV K mg 1 F))
    (t : ∀ ns : List Int, ns.length ≤ 63 → F [scr ns] = .ok (.z, .bool true)) : FnOk P w K mg base CX k f fd ps (spTop K) := h.imp fun vs H Q E ⟨a, ns, e, hS, hl, q⟩ => by
  subst e
  refine ⟨H, [scr ns], rfl, Same.refl _, .cons (.scr ns hS) .nil, ?_⟩
  rw [t ns hl]
  intro v H' Hf' n
  obtain ⟨A, o, _⟩ := n.o
  have z : Fz K Hf' v (.bool true) := o.2
  cases z
  exact q H'
theorem cx_false {P : Program} {w : World} {outer : List Env} {H : L2.Hp} {s s' : Shared} {e : Value} (h : L2.CX P w outer H s (fun _ _ _ => False) e s') : False := by
  obtain ⟨_, _, _, _, _, _, _, _, _, _, _, _, z⟩ := h
  exact z
theorem exm_of {K : PySem.W.Frag} {C : Addr} (h1 : PySem.W.subIn K (.ref C) (.type "BaseException") = some true) (h2 : PySem.W.isClsIn K C = true) (h3 : PySem.W.typeIn K (.ref C) = some (.type "type")) (h4 : PySem.W.subIn K (.ref C) (.ref C) = some true) :
    PySem.W.exmOne K (.ref C) (.ref C) = some true := by
  have a1 : (PySem.W.subIn K (.ref C) (.type "BaseException") == some true) = true := by rw [h1]; rfl
  have a2 : ((PySem.W.clsIn K C).isSome && PySem.W.typeIn K (.ref C) == some (.type "type")) = true := by
    have z : (PySem.W.clsIn K C).isSome = true := h2
    rw [z, h3]
    rfl
  unfold PySem.W.exmOne
  simp only [a1, if_true]
  unfold PySem.W.kitCls
  simp only [a2, if_true]
  exact h4
/-- the rows of a written dict -/
def TabRows (K : PySem.W.Frag) (a : Addr) : List (Str × Option D) → Prop
  | [] => True
  | (x, none) :: r => PySem.W.nsIn K a x = some none ∧ TabRows K a r
  | (x, some d) :: r => (∃ u v, PySem.W.nsIn K a x = some (some u) ∧ RelV v u ∧ KD K v d) ∧ TabRows K a r
theorem rows_no {K : PySem.W.Frag} {a : Addr} {x : Str} : ∀ {tab : List (Str × Option D)}, TabRows K a tab → (x, none) ∈ tab → PySem.W.nsIn K a x = some none
  | (y, none) :: r, h, m => by
    rcases List.mem_cons.mp m with e | m
    · cases e; exact h.1
    · exact rows_no h.2 m
  | (y, some d) :: r, h, m => by
    rcases List.mem_cons.mp m with e | m
    · cases e
    · exact rows_no h.2 m
theorem rows_yes {K : PySem.W.Frag} {a : Addr} {x : Str} {d : D} : ∀ {tab : List (Str × Option D)}, TabRows K a tab → (x, some d) ∈ tab → ∃ u v, PySem.W.nsIn K a x = some (some u) ∧ RelV v u ∧ KD K v d
  | (y, none) :: r, h, m => by
    rcases List.mem_cons.mp m with e | m
    · cases e
    · exact rows_yes h.2 m
  | (y, some d') :: r, h, m => by
    rcases List.mem_cons.mp m with e | m
    · cases e; exact h.1
    · exact rows_yes h.2 m
theorem ktab_mk {K : PySem.W.Frag} {w : World} {a : Addr} {tab : List (Str × Option D)} (h : ∃ es n, KDict K w a es n) (r : TabRows K a tab) : KTab K w a tab := ⟨h, fun _ m => rows_no r m, fun _ _ m => rows_yes r m⟩
end PV
namespace PV
open PySem PySem.Spec PyProof.Rows L2
/-! ### an item of an owned list is set -/
def setE (i : Nat) (d : D) (o : Option (Option Va)) (k : D) (Γ : Ev) : SO := match o with
  | some (some (.l .z, .list ds)) => (match k with
    | .int n => (match ixN ds.length n with | some j => .nx (Γ.set i (some (.l .z, .list (ds.set j d)))) | none => .st)
    | _ => .st)
  | _ => .st
def setS (o : Option (Option Va)) (r : SO) : SO := match o with
  | some (some (.l .z, .list _)) => r
  | _ => .st
def sSet (i : Nat) (fv fk : Ev → Out D) : Ev → SO := fun Γ => sB (fv Γ) fun d Γ1 => setS (Γ1[i]?) (sB (fk Γ1) fun k Γ2 => setE i d (Γ2[i]?) k Γ2)
section
variable {X : Cx} {W : WX} {pos : Pos}
theorem ps_setL (i : Nat) {x : Str} {p tpos : Pos} {ix value : Expr} {fv fk : Ev → Out D} (hv : PF X W value fv) (hk : PF X W ix fk)
    (hN : X.N[i]? = some x := by rfl) (hvis : Vis X.env.scope x := by first | exact Or.inl rfl | exact Or.inr (Or.inl rfl) | exact Or.inr (Or.inr rfl)) (hd : (x == ("__debug__" : Str)) = false := by decide) (hcd : (x == ("__classdict__" : Str)) = false := by decide)
    (ha : ∀ v, assign (.Subscript (.Name x p) ix tpos) X.env v = (do
      let ov ← holding [v] (eval (.Name x p) X.env)
      let iv ← holding [v, ov] (eval ix X.env)
      standAt tpos
      holding [v, ov, iv] (setItem ov iv v)
      release [v, ov, iv] []) := by intro _; rfl)
    (hs : swapsWithSole [.Subscript (.Name x p) ix tpos] value pos.line X.env = pure false := by rfl) (hw : swappedStores [.Subscript (.Name x p) ix tpos] value X.env = pure none := by rfl)
    (h1 : (assignEach [.Subscript (.Name x p) ix tpos] X.env).map (·.2) = [assign (.Subscript (.Name x p) ix tpos) X.env] := by rfl) :
    PSt X W (.Assign [.Subscript (.Name x p) ix tpos] value pos) (sSet i fv fk) :=
  ⟨fun f0 h0 => (ps_asg (hv.run f0 h0) (pg_sub (pe_var hN hvis hd hcd) (hk.run f0 h0) set_list ha) hs hw h1).imp fun D σ H ⟨Hf, Γ, fr, st, p⟩ => by
    refine ⟨Hf, Γ, fr, st, PostS.bind p fun d Γ1 _ v H1 Hf1 s1 ⟨st1, z1⟩ q => ?_⟩
    unfold setS at q
    split at q
    · rename_i ds0 hΓ
      obtain ⟨a, vs, e1, e2, _⟩ := st1.getLz hΓ
      refine ⟨.ref a, e1, Hf1, Γ1, fr, st1, PostS.bind q fun k Γ2 _ y H2 Hf2 s2 ⟨st2, z2⟩ q2 => ?_⟩
      unfold setE at q2
      split at q2
      · rename_i ds hΓ2
        obtain ⟨a', vs2, e3, e4, f4⟩ := st2.getLz hΓ2
        rw [e1] at e3
        cases e3
        split at q2
        · rename_i n _ _
          cases hj : ixN ds.length n with
          | none => rw [hj] at q2; exact q2.elim
          | some j =>
            rw [hj] at q2
            cases z2
            exact ⟨a, vs2, n, j, rfl, rfl, e4, by rw [f4.length]; exact hj, q2 _ _ Hf2 (Same.refl _) (st2.mut hΓ2 e1 (FzAll.set (z1.mono s2) j f4))⟩
        · exact q2.elim
      · exact q2.elim
    · exact q.elim⟩
end
end PV
namespace PV
open PySem PySem.Spec PyProof.Rows L2
/-! ### dicts at a slot -/
def rows (kvs : List (Key × V)) (ds : List D) : List (D × D) := (kvs.map fun p => kD p.1).zip ds
def dHas (rs : List (D × D)) (k : Key) : Bool := rs.any fun p => decide (dKey p.1 = some k)
def dPutL (rs : List (D × D)) (k : Key) (d : D) : List (D × D) := if dHas rs k = true then rs.map (fun p => if dKey p.1 = some k then (p.1, d) else p) else rs ++ [(kD k, d)]
section
variable {K : PySem.W.Frag} {H : Hp} {k : Key} {v : V} {d : D}
theorem rows_len : ∀ {kvs : List (Key × V)} {ds : List D}, FzAll K H (kvs.map (·.2)) ds → (rows kvs ds).length = kvs.length
  | [], _, .nil => rfl
  | _ :: kvs, _, .cons _ r => congrArg (· + 1) (rows_len (kvs := kvs) r)
theorem rows_has : ∀ {kvs : List (Key × V)} {ds : List D}, FzAll K H (kvs.map (·.2)) ds → dHas (rows kvs ds) k = kvs.any fun kv => decide (kv.1 = k)
  | [], _, .nil => rfl
  | p :: kvs, d :: ds, .cons _ r => by
    have ih := rows_has (kvs := kvs) r
    unfold dHas at ih ⊢
    show ((kD p.1, d) :: rows kvs ds).any _ = _
    rw [List.any_cons, List.any_cons, ih]
    congr 1
    show decide (dKey (kD p.1) = some k) = _
    rw [dKey_kD]
    by_cases e : p.1 = k
    · rw [decide_eq_true (congrArg some e), decide_eq_true e]
    · rw [decide_eq_false (fun z => e (Option.some.inj z)), decide_eq_false e]
theorem rows_map (hd : Fz K H v d) : ∀ {kvs : List (Key × V)} {ds : List D}, FzAll K H (kvs.map (·.2)) ds →
    ∃ ds', (rows kvs ds).map (fun p => if dKey p.1 = some k then (p.1, d) else p) = rows (kvs.map fun kv => if kv.1 = k then (kv.1, v) else kv) ds' ∧ FzAll K H ((kvs.map fun kv => if kv.1 = k then (kv.1, v) else kv).map (·.2)) ds'
  | [], _, .nil => ⟨[], rfl, .nil⟩
  | p :: kvs, d0 :: ds, .cons h r => by
    obtain ⟨ds', e, f⟩ := rows_map hd (kvs := kvs) r
    by_cases q : p.1 = k
    · refine ⟨d :: ds', ?_, ?_⟩
      · show (if dKey (kD p.1) = some k then (kD p.1, d) else (kD p.1, d0)) :: (rows kvs ds).map _ = rows ((if p.1 = k then (p.1, v) else p) :: _) (d :: ds')
        rw [dKey_kD, if_pos (congrArg some q), if_pos q, e]
        rfl
      · show FzAll K H ((if p.1 = k then (p.1, v) else p).2 :: _) (d :: ds')
        rw [if_pos q]
        exact .cons hd f
    · refine ⟨d0 :: ds', ?_, ?_⟩
      · show (if dKey (kD p.1) = some k then (kD p.1, d) else (kD p.1, d0)) :: (rows kvs ds).map _ = rows ((if p.1 = k then (p.1, v) else p) :: _) (d0 :: ds')
        rw [dKey_kD, if_neg (fun z => q (Option.some.inj z)), if_neg q, e]
        rfl
      · show FzAll K H ((if p.1 = k then (p.1, v) else p).2 :: _) (d0 :: ds')
        rw [if_neg q]
        exact .cons h f
theorem rows_app {ds : List D} : ∀ {kvs : List (Key × V)}, FzAll K H (kvs.map (·.2)) ds → rows kvs ds ++ [(kD k, d)] = rows (kvs ++ [(k, v)]) (ds ++ [d]) := fun {kvs} h => by
  unfold rows
  rw [List.map_append, List.zip_append]
  · rfl
  · have := h.length
    rw [List.length_map] at this
    rw [List.length_map]
    exact this
theorem rows_put (hd : Fz K H v d) {kvs : List (Key × V)} {ds : List D} (h : FzAll K H (kvs.map (·.2)) ds) : ∃ ds', dPutL (rows kvs ds) k d = rows (putK kvs k v) ds' ∧ FzAll K H ((putK kvs k v).map (·.2)) ds' := by
  unfold dPutL putK
  rw [rows_has h]
  by_cases q : (kvs.any fun kv => decide (kv.1 = k)) = true
  · rw [if_pos q, if_pos q]
    exact rows_map hd h
  · rw [if_neg q, if_neg q]
    refine ⟨ds ++ [d], rows_app h, ?_⟩
    rw [List.map_append]
    exact h.append (.cons hd .nil)
theorem rows_look {kvs : List (Key × V)} {ds : List D} (h : FzAll K H (kvs.map (·.2)) ds) : (valV kvs k = none ∧ dLook (rows kvs ds) k = none) ∨ ∃ v d, valV kvs k = some v ∧ dLook (rows kvs ds) k = some d ∧ Fz K H v d := look_ok k h
end
section
variable {g : Gh} {Hf H : Hp} {σ : St} {Γ : Ev} {fr : List (V × Va)}
theorem NewV.od {K : PySem.W.Frag} {p : Addr} {kvs : List (Key × V)} {ds : List D} (s : Same Hf H) (n : H p = none) (h : FzAll K Hf (kvs.map (·.2)) ds) : NewV K Hf H (upd H p (.dK kvs)) Hf (.ref p) (.d .z, .dict (rows kvs ds)) :=
  ⟨same_new n, Same.refl _, s.trans (same_new n), fun _ n => .inl n, [p], ⟨p, kvs, ds, [], rfl, rfl, upd_same, OwnL.of_zs h, rfl⟩, by simp, fun a ha => by rw [List.mem_singleton.mp ha]; exact ⟨n, Same.free s n⟩⟩
/-- the object at a slot's own address is another one -/
theorem StOk.mutH {i : Nat} {x x' : Va} {a : Addr} {u : HO} (h : StOk g Hf H σ Γ fr) (hi : Γ[i]? = some (some x)) (ha : σ[i]? = some (some (.ref a))) (hx : ∀ A, Own g.K Hf H x.1 (.ref a) x.2 A → a ∈ A) (hv : Own g.K Hf (upd H a u) x'.1 (.ref a) x'.2 [a]) :
    StOk g Hf (upd H a u) σ (Γ.set i (some x')) fr := by
  obtain ⟨ω, h⟩ := h
  obtain ⟨v, e, A, o, nd, hA⟩ := h.slots i _ hi
  rw [e] at ha
  cases ha
  have wa : ω a = some (.inl i) := hA a (hx A o)
  have ow := h.own a _ wa
  have k : ∀ b j, j ≠ Sum.inl i → ω b = some j → upd H a u b = H b := fun b j hj e => upd_ne (fun z => hj (by rw [z, wa] at e; exact (Option.some.inj e).symm))
  refine ⟨ω, fun b o e => ?_, fun b o e => ?_, h.old, h.new, fun b j e => ⟨(h.own b j e).1, (h.own b j e).2.1, ?_⟩, by rw [List.length_set]; exact h.len, fun j y e' => ?_, h.fr.mono (Same.refl _) fun b j _ e => ⟨k b (.inr j) (fun z => nomatch z) e, e⟩⟩
  · rw [upd_ne (ne_of_none e ow.1)]; exact h.base b o e
  · rw [upd_ne (ne_of_none e ow.2.1)]; exact h.sub b o e
  · by_cases z : b = a
    · subst z; rw [upd_same]; exact fun z => nomatch z
    · rw [upd_ne z]; exact (h.own b j e).2.2
  · by_cases hj : i = j
    · subst hj
      rw [List.getElem?_set_self (List.getElem?_eq_some_iff.mp hi).1] at e'
      cases e'
      exact ⟨.ref a, e, [a], hv, by simp, fun b hb => by rw [List.mem_singleton.mp hb]; exact wa⟩
    · rw [List.getElem?_set_ne hj] at e'
      obtain ⟨w, e2, q⟩ := h.slots j y e'
      exact ⟨w, e2, q.mono (Same.refl _) fun b e => ⟨k b _ (fun z => by cases z; exact hj rfl) e, e⟩⟩
/-- .. on the top of the frame -/
theorem StOk.mutTopH {x x' : Va} {a : Addr} {u : HO} (h : StOk g Hf H σ Γ ((.ref a, x) :: fr)) (hx : ∀ A, Own g.K Hf H x.1 (.ref a) x.2 A → a ∈ A) (hv : Own g.K Hf (upd H a u) x'.1 (.ref a) x'.2 [a]) : StOk g Hf (upd H a u) σ Γ ((.ref a, x') :: fr) := by
  obtain ⟨ω, h⟩ := h
  obtain ⟨⟨A, o, nd, hA⟩, hr⟩ := h.fr
  have wa : ω a = some (.inr fr.length) := hA a (hx A o)
  have ow := h.own a _ wa
  have k : ∀ b j, j ≠ Sum.inr fr.length → ω b = some j → upd H a u b = H b := fun b j hj e => upd_ne (fun z => hj (by rw [z, wa] at e; exact (Option.some.inj e).symm))
  refine ⟨ω, fun b o e => ?_, fun b o e => ?_, h.old, h.new, fun b j e => ⟨(h.own b j e).1, (h.own b j e).2.1, ?_⟩, h.len, fun j y e' => ?_, ⟨⟨[a], hv, by simp, fun b hb => by rw [List.mem_singleton.mp hb]; exact wa⟩, hr.mono (Same.refl _) fun b j hj e => ⟨k b (.inr j) (fun z => by cases z; exact absurd hj (Nat.lt_irrefl _)) e, e⟩⟩⟩
  · rw [upd_ne (ne_of_none e ow.1)]; exact h.base b o e
  · rw [upd_ne (ne_of_none e ow.2.1)]; exact h.sub b o e
  · by_cases z : b = a
    · subst z; rw [upd_same]; exact fun z => nomatch z
    · rw [upd_ne z]; exact (h.own b j e).2.2
  · obtain ⟨w, e2, q⟩ := h.slots j y e'
    exact ⟨w, e2, q.mono (Same.refl _) fun b e => ⟨k b (.inl j) (fun z => nomatch z) e, e⟩⟩
theorem own_d_mem {K : PySem.W.Frag} {s : Sh} {a : Addr} {d : D} {A : List Addr} (h : Own K Hf H (.d s) (.ref a) d A) : a ∈ A := by
  obtain ⟨a', kvs, ds, B, e1, e2, e3, r, e4⟩ := h
  cases e1
  rw [e4]
  exact List.mem_cons_self
theorem own_d_z {K : PySem.W.Frag} {a : Addr} {kvs : List (Key × V)} {ds : List D} (h : FzAll K Hf (kvs.map (·.2)) ds) : Own K Hf (upd H a (.dK kvs)) (.d .z) (.ref a) (.dict (rows kvs ds)) [a] := ⟨a, kvs, ds, [], rfl, rfl, upd_same, OwnL.of_zs h, rfl⟩
/-- the rows of a dict that a slot holds, owned or frozen -/
def dic (o : Option (Option Va)) : Option (List (D × D)) := match o with
  | some (some (.d .z, .dict rs)) => some rs
  | some (some (.z, .dict rs)) => if (rs.all fun p => (dKey p.1).isSome) = true then some rs else none
  | _ => none
theorem StOk.getDic {i : Nat} {rs : List (D × D)} (h : StOk g Hf H σ Γ fr) (hi : dic (Γ[i]?) = some rs) : ∃ a kvs ds, σ[i]? = some (some (.ref a)) ∧ H a = some (.dK kvs) ∧ FzAll g.K Hf (kvs.map (·.2)) ds ∧ rs = rows kvs ds := by
  unfold dic at hi
  split at hi
  · rename_i rs' hg
    cases hi
    obtain ⟨ω, h⟩ := h
    obtain ⟨v, e, A, o, _⟩ := h.slots i _ hg
    obtain ⟨a, kvs, ds, B, e1, e2, e3, r, e4⟩ := o
    subst e1
    cases e2
    exact ⟨a, kvs, ds, e, e3, r.zs.2, rfl⟩
  · rename_i rs' hg
    split at hi
    · rename_i hk
      cases hi
      obtain ⟨v, e, z⟩ := h.getZ hg
      obtain ⟨a, kvs, ds, rfl, ha, f, e2⟩ := fz_dict z hk
      have sub : Same Hf H := by
        obtain ⟨ω, h⟩ := h
        exact h.sub
      exact ⟨a, kvs, ds, e, sub _ _ ha, f, e2⟩
    · cases hi
  · cases hi
theorem StOk.getOd {i : Nat} {rs : List (D × D)} (h : StOk g Hf H σ Γ fr) (hi : Γ[i]? = some (some (.d .z, .dict rs))) : ∃ a kvs ds, σ[i]? = some (some (.ref a)) ∧ H a = some (.dK kvs) ∧ FzAll g.K Hf (kvs.map (·.2)) ds ∧ rs = rows kvs ds := h.getDic (by rw [hi]; rfl)
theorem StOk.mutD {i : Nat} {x : D} {a : Addr} {kvs : List (Key × V)} {ds : List D} (h : StOk g Hf H σ Γ fr) (hi : Γ[i]? = some (some (.d .z, x))) (ha : σ[i]? = some (some (.ref a))) (hv : FzAll g.K Hf (kvs.map (·.2)) ds) : StOk g Hf (upd H a (.dK kvs)) σ (Γ.set i (some (.d .z, .dict (rows kvs ds)))) fr :=
  h.mutH hi ha (fun _ o => own_d_mem o) (own_d_z hv)
end
theorem key_val {K : PySem.W.Frag} {H : Hp} {v : V} {d : D} {k : Key} (h : Fz K H v d) (e : dKey d = some k) : v = kV k ∧ d = kD k := by
  cases h <;> cases e <;> exact ⟨rfl, rfl⟩
/-! ### the terms -/
def vDct0 : Ev → Out Va := fun Γ => .ok (.d .z, .dict []) Γ
def fDIn (neg : Bool) (i : Nat) (fk : Ev → Out D) : Ev → Out D := fun Γ => (fk Γ).bind fun k Γ1 => .of ((dic (Γ1[i]?)).bind fun rs => (dKey k).map fun y => .bool (if neg then !(dLook rs y).isSome else (dLook rs y).isSome)) Γ1
def dicS (o : Option (Option Va)) (r : Out D) : Out D := match dic o with
  | some _ => r
  | none => .st
def fDAt (i : Nat) (fk : Ev → Out D) : Ev → Out D := fun Γ => dicS (Γ[i]?) <| (fk Γ).bind fun k Γ1 => .of ((dic (Γ1[i]?)).bind fun rs => (dKey k).bind fun y => dLook rs y) Γ1
def fDG1 (i : Nat) (fk : Ev → Out D) : Ev → Out D := fun Γ => dicS (Γ[i]?) <| (fk Γ).bind fun k Γ1 => .of ((dic (Γ1[i]?)).bind fun rs => (dKey k).map fun y => (dLook rs y).getD .none) Γ1
def fDG2 (i : Nat) (fk fx : Ev → Out D) : Ev → Out D := fun Γ => dicS (Γ[i]?) <| (fk Γ).bind fun k Γ1 => (fx Γ1).bind fun x Γ2 => .of ((dic (Γ2[i]?)).bind fun rs => (dKey k).map fun y => (dLook rs y).getD x) Γ2
def dputE (i : Nat) (d : D) (o : Option (Option Va)) (k : D) (Γ : Ev) : SO := match o with
  | some (some (.d .z, .dict rs)) => (match dKey k with | some y => if rs.length < 16777216 then .nx (Γ.set i (some (.d .z, .dict (dPutL rs y d)))) else .st | none => .st)
  | _ => .st
def dputS (o : Option (Option Va)) (r : SO) : SO := match o with
  | some (some (.d .z, .dict _)) => r
  | _ => .st
def sDPutI (i : Nat) (fv fk : Ev → Out D) : Ev → SO := fun Γ => sB (fv Γ) fun d Γ1 => dputS (Γ1[i]?) (sB (fk Γ1) fun k Γ2 => dputE i d (Γ2[i]?) k Γ2)
section
variable {X : Cx} {W : WX} {e f ix value : Expr} {x : Str} {p pos apos cpos tpos : Pos} {fk fx fv : Ev → Out D}
theorem pv_dct0 : PV X W (.Dict [] [] pos) vDct0 := ⟨fun f0 h0 => pe_dnewK.imp fun σ H Q ⟨Hf, Γ, fr, st, p⟩ a n =>
  p _ _ _ (Same.refl _) (st.pushN (NewV.od (kvs := []) (ds := []) st.sub n .nil))⟩
theorem pf_din_core {g : GW} {i : Nat} {fk : Ev → Out D} {σ : St} {H : Hp} {Q : VK} (h : tF g (fDIn false i fk) σ H Q) : tDIn (tF g fk) (tVar i) σ H Q := by
  obtain ⟨Hf, Γ, fr, st, p⟩ := h
  exact ⟨Hf, Γ, fr, st, Post.bind p fun k Γ1 _ w H1 Hf1 s1 ⟨st1, z1⟩ q => by
    obtain ⟨c, e, q'⟩ := Post.of q
    clear q
    cases hr : dic (Γ1[i]?) with
    | none => rw [hr] at e; cases e
    | some rs =>
      rw [hr] at e
      obtain ⟨a, kvs, ds, e1, e2, f1, rfl⟩ := st1.getDic hr
      cases hy : dKey k with
      | none => rw [Option.bind_some, hy] at e; cases e
      | some y =>
        rw [Option.bind_some, hy] at e
        cases e
        obtain ⟨rfl, rfl⟩ := key_val z1 hy
        refine ⟨.ref a, e1, a, valV kvs y, rfl, DGet.k e2, ?_⟩
        rcases rows_look (k := y) f1 with ⟨h1, h2⟩ | ⟨v', d', h1, h2, h3⟩
        · rw [h1]; dsimp only at q'; rw [h2] at q'
          exact q' _ H1 Hf1 (Same.refl _) ⟨st1, .bl _⟩
        · rw [h1]; dsimp only at q'; rw [h2] at q'
          exact q' _ H1 Hf1 (Same.refl _) ⟨st1, .bl _⟩⟩
theorem pf_din (i : Nat) (hu : X.A.units + 1 < cLine) (hk : PF X W e fk) (hm : behindInMarks .In (.Name x p) = false := by rfl)
    (hN : X.N[i]? = some x := by rfl) (hv : Vis X.env.scope x := by first | exact Or.inl rfl | exact Or.inr (Or.inl rfl) | exact Or.inr (Or.inr rfl)) (hd : (x == ("__debug__" : Str)) = false := by decide) (hcd : (x == ("__classdict__" : Str)) = false := by decide) :
    PF X W (.Compare e [.In] [.Name x p] pos) (fDIn false i fk) :=
  ⟨fun f0 h0 => (pe_cmp (pc_din hu (hk.run f0 h0) (pe_var hN hv hd hcd)) hm).imp fun σ H Q h => pf_din_core (g := gh X W f0 h0) h⟩
theorem pb_din (i : Nat) (hu : X.A.units + 1 < cLine) (hk : PF X W e fk) (hm : behindInMarks .In (.Name x p) = false := by rfl)
    (hN : X.N[i]? = some x := by rfl) (hv : Vis X.env.scope x := by first | exact Or.inl rfl | exact Or.inr (Or.inl rfl) | exact Or.inr (Or.inr rfl)) (hd : (x == ("__debug__" : Str)) = false := by decide) (hcd : (x == ("__classdict__" : Str)) = false := by decide) :
    PB X W (.Compare e [.In] [.Name x p] pos) (bF (fDIn false i fk)) :=
  ⟨fun f0 h0 => (pt_cmp (pc_din hu (hk.run f0 h0) (pe_var hN hv hd hcd)) hm).imp fun σ H Q h => tTestF (f := fDIn false i fk) (fun Q h => pf_din_core (g := gh X W f0 h0) h) h⟩
theorem pf_dnin_core {g : GW} {i : Nat} {fk : Ev → Out D} {σ : St} {H : Hp} {Q : VK} (h : tF g (fDIn true i fk) σ H Q) : tDNotIn (tF g fk) (tVar i) σ H Q := by
  obtain ⟨Hf, Γ, fr, st, p⟩ := h
  exact ⟨Hf, Γ, fr, st, Post.bind p fun k Γ1 _ w H1 Hf1 s1 ⟨st1, z1⟩ q => by
    obtain ⟨c, e, q'⟩ := Post.of q
    clear q
    cases hr : dic (Γ1[i]?) with
    | none => rw [hr] at e; cases e
    | some rs =>
      rw [hr] at e
      obtain ⟨a, kvs, ds, e1, e2, f1, rfl⟩ := st1.getDic hr
      cases hy : dKey k with
      | none => rw [Option.bind_some, hy] at e; cases e
      | some y =>
        rw [Option.bind_some, hy] at e
        cases e
        obtain ⟨rfl, rfl⟩ := key_val z1 hy
        refine ⟨.ref a, e1, a, valV kvs y, rfl, DGet.k e2, ?_⟩
        rcases rows_look (k := y) f1 with ⟨h1, h2⟩ | ⟨v', d', h1, h2, h3⟩
        · rw [h1]; dsimp only at q'; rw [h2] at q'
          exact q' _ H1 Hf1 (Same.refl _) ⟨st1, .bl _⟩
        · rw [h1]; dsimp only at q'; rw [h2] at q'
          exact q' _ H1 Hf1 (Same.refl _) ⟨st1, .bl _⟩⟩
theorem pf_dnin (i : Nat) (hu : X.A.units + 1 < cLine) (hk : PF X W e fk) (hm : behindInMarks .NotIn (.Name x p) = false := by rfl)
    (hN : X.N[i]? = some x := by rfl) (hv : Vis X.env.scope x := by first | exact Or.inl rfl | exact Or.inr (Or.inl rfl) | exact Or.inr (Or.inr rfl)) (hd : (x == ("__debug__" : Str)) = false := by decide) (hcd : (x == ("__classdict__" : Str)) = false := by decide) :
    PF X W (.Compare e [.NotIn] [.Name x p] pos) (fDIn true i fk) :=
  ⟨fun f0 h0 => (pe_cmp (pc_dnotin hu (hk.run f0 h0) (pe_var hN hv hd hcd)) hm).imp fun σ H Q h => pf_dnin_core (g := gh X W f0 h0) h⟩
theorem pb_dnin (i : Nat) (hu : X.A.units + 1 < cLine) (hk : PF X W e fk) (hm : behindInMarks .NotIn (.Name x p) = false := by rfl)
    (hN : X.N[i]? = some x := by rfl) (hv : Vis X.env.scope x := by first | exact Or.inl rfl | exact Or.inr (Or.inl rfl) | exact Or.inr (Or.inr rfl)) (hd : (x == ("__debug__" : Str)) = false := by decide) (hcd : (x == ("__classdict__" : Str)) = false := by decide) :
    PB X W (.Compare e [.NotIn] [.Name x p] pos) (bF (fDIn true i fk)) :=
  ⟨fun f0 h0 => (pt_cmp (pc_dnotin hu (hk.run f0 h0) (pe_var hN hv hd hcd)) hm).imp fun σ H Q h => tTestF (f := fDIn true i fk) (fun Q h => pf_dnin_core (g := gh X W f0 h0) h) h⟩
theorem dic_at {g : GW} {Hf H : Hp} {σ : St} {Γ : Ev} {fr : List (V × Va)} {i : Nat} {rs : List (D × D)} (st : StOk g.h Hf H σ Γ fr) (h : dic (Γ[i]?) = some rs) {k : D} {y : Key} {w : V} (hy : dKey k = some y) (z : Fz g.h.K Hf w k) : ∃ a o, σ[i]? = some (some (.ref a)) ∧ IsD H a ∧ DGet H a w o ∧ ((o = none ∧ dLook rs y = none) ∨ ∃ v d, o = some v ∧ dLook rs y = some d ∧ Fz g.h.K Hf v d) := by
  obtain ⟨a, kvs, ds, e1, e2, f1, rfl⟩ := st.getDic h
  obtain ⟨rfl, rfl⟩ := key_val z hy
  exact ⟨a, valV kvs y, e1, .inl ⟨kvs, .inl e2⟩, DGet.k e2, rows_look f1⟩
theorem pf_dat (i : Nat) (hu : X.A.units + 1 < cLine) (hk : PF X W e fk) (hs : NoSl e)
    (hN : X.N[i]? = some x := by rfl) (hv : Vis X.env.scope x := by first | exact Or.inl rfl | exact Or.inr (Or.inl rfl) | exact Or.inr (Or.inr rfl)) (hd : (x == ("__debug__" : Str)) = false := by decide) (hcd : (x == ("__classdict__" : Str)) = false := by decide) :
    PF X W (.Subscript (.Name x p) e pos) (fDAt i fk) :=
  ⟨fun f0 h0 => (pe_dget hu (pe_var hN hv hd hcd) (hk.run f0 h0) hs).imp fun σ H Q ⟨Hf, Γ, fr, st, p⟩ => by
    unfold fDAt dicS at p
    cases hr : dic (Γ[i]?) with
    | none => rw [hr] at p; exact p.elim
    | some rs0 =>
      rw [hr] at p
      obtain ⟨a, kvs, ds, e1, _⟩ := st.getDic hr
      refine ⟨.ref a, e1, Hf, Γ, fr, st, Post.bind p fun k Γ1 _ w H1 Hf1 s1 ⟨st1, z1⟩ q => ?_⟩
      obtain ⟨c, e, q'⟩ := Post.of q
      clear q
      cases hr1 : dic (Γ1[i]?) with
      | none => rw [hr1] at e; cases e
      | some rs =>
        rw [hr1, Option.bind_some] at e
        cases hy : dKey k with
        | none => rw [hy] at e; cases e
        | some y =>
          rw [hy, Option.bind_some] at e
          obtain ⟨a', o, e3, d, g, hh⟩ := dic_at (g := gh X W f0 h0) st1 hr1 hy z1
          rw [e1] at e3
          cases e3
          rcases hh with ⟨_, h2⟩ | ⟨v, d', rfl, h2, h3⟩
          · rw [h2] at e; cases e
          · rw [h2] at e
            cases e
            exact ⟨a, v, rfl, g, q' _ H1 Hf1 (Same.refl _) ⟨st1, h3⟩⟩⟩
theorem pf_dg1 (i : Nat) (hu : X.A.units + 1 < cLine) (hk : PF X W e fk) (m : M1 X (.Name x p) "get" apos e cpos)
    (hN : X.N[i]? = some x := by rfl) (hv : Vis X.env.scope x := by first | exact Or.inl rfl | exact Or.inr (Or.inl rfl) | exact Or.inr (Or.inr rfl)) (hd : (x == ("__debug__" : Str)) = false := by decide) (hcd : (x == ("__classdict__" : Str)) = false := by decide) :
    PF X W (.Call (.Attribute (.Name x p) "get" apos) [e] [] cpos) (fDG1 i fk) :=
  ⟨fun f0 h0 => (pe_dget1 hu (pe_var hN hv hd hcd) (hk.run f0 h0) m).imp fun σ H Q ⟨Hf, Γ, fr, st, p⟩ => by
    unfold fDG1 dicS at p
    cases hr : dic (Γ[i]?) with
    | none => rw [hr] at p; exact p.elim
    | some rs0 =>
      rw [hr] at p
      obtain ⟨a, kvs, ds, e1, e2, _⟩ := st.getDic hr
      refine ⟨.ref a, e1, a, rfl, .inl ⟨kvs, .inl e2⟩, Hf, Γ, fr, st, Post.bind p fun k Γ1 _ w H1 Hf1 s1 ⟨st1, z1⟩ q => ?_⟩
      obtain ⟨c, e, q'⟩ := Post.of q
      clear q
      cases hr1 : dic (Γ1[i]?) with
      | none => rw [hr1] at e; cases e
      | some rs =>
        rw [hr1, Option.bind_some] at e
        cases hy : dKey k with
        | none => rw [hy] at e; cases e
        | some y =>
          rw [hy, Option.map_some] at e
          cases e
          obtain ⟨a', o, e3, d, g, hh⟩ := dic_at (g := gh X W f0 h0) st1 hr1 hy z1
          rw [e1] at e3
          cases e3
          rcases hh with ⟨rfl, h2⟩ | ⟨v, d', rfl, h2, h3⟩
          · try dsimp only at q'
            rw [h2] at q'
            exact ⟨none, g, q' _ H1 Hf1 (Same.refl _) ⟨st1, .non⟩⟩
          · try dsimp only at q'
            rw [h2] at q'
            exact ⟨some v, g, q' _ H1 Hf1 (Same.refl _) ⟨st1, h3⟩⟩⟩
theorem pf_dg2 (i : Nat) (hu : X.A.units + 1 < cLine) (hk : PF X W e fk) (hx : PF X W f fx) (m : M2 X (.Name x p) "get" apos e f cpos)
    (hN : X.N[i]? = some x := by rfl) (hv : Vis X.env.scope x := by first | exact Or.inl rfl | exact Or.inr (Or.inl rfl) | exact Or.inr (Or.inr rfl)) (hd : (x == ("__debug__" : Str)) = false := by decide) (hcd : (x == ("__classdict__" : Str)) = false := by decide) :
    PF X W (.Call (.Attribute (.Name x p) "get" apos) [e, f] [] cpos) (fDG2 i fk fx) :=
  ⟨fun f0 h0 => (pe_dget2 hu (pe_var hN hv hd hcd) (hk.run f0 h0) (hx.run f0 h0) m).imp fun σ H Q ⟨Hf, Γ, fr, st, p⟩ => by
    unfold fDG2 dicS at p
    cases hr : dic (Γ[i]?) with
    | none => rw [hr] at p; exact p.elim
    | some rs0 =>
      rw [hr] at p
      obtain ⟨a, kvs, ds, e1, e2, _⟩ := st.getDic hr
      refine ⟨.ref a, e1, a, rfl, .inl ⟨kvs, .inl e2⟩, Hf, Γ, fr, st, Post.bind p fun k Γ1 _ w H1 Hf1 s1 ⟨st1, z1⟩ q => ⟨Hf1, Γ1, fr, st1, Post.bind q fun xd Γ2 _ u H2 Hf2 s2 ⟨st2, z2⟩ q2 => ?_⟩⟩
      obtain ⟨c, e, q'⟩ := Post.of q2
      clear q2 q
      cases hr1 : dic (Γ2[i]?) with
      | none => rw [hr1] at e; cases e
      | some rs =>
        rw [hr1, Option.bind_some] at e
        cases hy : dKey k with
        | none => rw [hy] at e; cases e
        | some y =>
          rw [hy, Option.map_some] at e
          cases e
          obtain ⟨a', o, e3, d, g, hh⟩ := dic_at (g := gh X W f0 h0) st2 hr1 hy (z1.mono s2)
          rw [e1] at e3
          cases e3
          rcases hh with ⟨rfl, h2⟩ | ⟨v, d', rfl, h2, h3⟩
          · try dsimp only at q'
            rw [h2] at q'
            exact ⟨none, g, q' _ H2 Hf2 (Same.refl _) ⟨st2, z2⟩⟩
          · try dsimp only at q'
            rw [h2] at q'
            exact ⟨some v, g, q' _ H2 Hf2 (Same.refl _) ⟨st2, h3⟩⟩⟩
theorem ps_dputI (i : Nat) (hu : X.A.units + 1 < cLine) (hv : PF X W value fv) (hk : PF X W ix fk)
    (hN : X.N[i]? = some x := by rfl) (hvis : Vis X.env.scope x := by first | exact Or.inl rfl | exact Or.inr (Or.inl rfl) | exact Or.inr (Or.inr rfl)) (hd : (x == ("__debug__" : Str)) = false := by decide) (hcd : (x == ("__classdict__" : Str)) = false := by decide)
    (hs : swapsWith value (some (.Subscript (.Name x p) ix tpos)) pos.line X.env = pure false := by rfl) :
    PSt X W (.Assign [.Subscript (.Name x p) ix tpos] value pos) (sDPutI i fv fk) :=
  ⟨fun f0 h0 => (ps_dput hu (pe_var hN hvis hd hcd) (hk.run f0 h0) (hv.run f0 h0) hs).imp fun D σ H ⟨Hf, Γ, fr, st, p⟩ => by
    refine ⟨Hf, Γ, fr, st, PostS.bind p fun d Γ1 _ v H1 Hf1 s1 ⟨st1, z1⟩ q => ?_⟩
    unfold dputS at q
    split at q
    · rename_i rs0 hΓ
      obtain ⟨a, kvs, ds, e1, e2, f1, _⟩ := st1.getOd hΓ
      refine ⟨.ref a, e1, Hf1, Γ1, fr, st1, PostS.bind q fun k Γ2 _ y H2 Hf2 s2 ⟨st2, z2⟩ q2 => ?_⟩
      unfold dputE at q2
      split at q2
      · rename_i rs hΓ2
        cases hy : dKey k with
        | none => rw [hy] at q2; exact q2.elim
        | some y' =>
          rw [hy] at q2
          dsimp only at q2
          split at q2
          · rename_i hlen
            obtain ⟨a', kvs2, ds2, e3, e4, f4, rfl⟩ := st2.getOd hΓ2
            rw [e1] at e3
            cases e3
            obtain ⟨rfl, rfl⟩ := key_val z2 hy
            obtain ⟨ds', e5, f5⟩ := rows_put (k := y') (z1.mono s2) f4
            rw [e5] at q2
            rw [rows_len f4] at hlen
            exact ⟨a, _, rfl, DPut.k e4 (by rw [sizeLine_eq]; exact hlen), q2 _ _ Hf2 (Same.refl _) (st2.mutD hΓ2 e1 f5)⟩
          · exact q2.elim
      · exact q2.elim
    · exact q.elim⟩
end
end PV
namespace PV
open PySem PySem.Spec PyProof.Rows L2
/-! ### {k: v} -/
def vDct1 (fk fv : Ev → Out D) : Ev → Out Va := fun Γ => (fk Γ).bind fun k Γ1 => (fv Γ1).bind fun d Γ2 => .of ((dKey k).map fun _ => ((.d .z, PyData.dict [(k, d)]) : Va)) Γ2
section
variable {g : GW} {σ : St} {fr : List (V × Va)} {q : V × Va}
theorem PEx.push {Hf : Hp} {e : Exc} {Γ : Ev} (h : PEx g Hf σ fr e Γ) : PEx g Hf σ (q :: fr) e Γ := fun cls dx H' Hf' s xo st => h cls dx H' Hf' s xo st.pop
end
section
variable {X : Cx} {W : WX} {pos : Pos}
theorem pv_dct1 {ek ev : Expr} {fk fv : Ev → Out D} (hk : PF X W ek fk) (hv : PF X W ev fv) : PV X W (.Dict [some ek] [ev] pos) (vDct1 fk fv) :=
  ⟨fun f0 h0 => (pe_disp (pps_cons (hk.run f0 h0) (hv.run f0 h0) pps_nil) rfl rfl (fun h => nomatch h) (show (1 : Nat) ≤ 15 by decide)).imp fun σ H Q ⟨Hf, Γ, fr, st, p⟩ a n => by
    have st1 := st.pushN (NewV.od (K := X.K) (kvs := []) (ds := []) st.sub n .nil)
    unfold vDct1 at p
    refine ⟨Hf, Γ, (.ref a, (.d .z, .dict (rows [] []))) :: fr, st1, ?_⟩
    cases h1 : fk Γ with
    | st => rw [h1] at p; exact p.elim
    | ex e Γ1 => rw [h1] at p; exact PEx.push (show PEx _ Hf σ fr e Γ1 from p)
    | ok k Γ1 =>
      rw [h1] at p
      intro x H1 Hf1 s1 ⟨st2, z2⟩
      refine ⟨Hf1, Γ1, _, st2, ?_⟩
      have p := Post.mono p s1
      cases h2 : fv Γ1 with
      | st => dsimp only [Out.bind] at p; rw [h2] at p; exact p.elim
      | ex e Γ2 => dsimp only [Out.bind] at p; rw [h2] at p; exact PEx.push (show PEx _ Hf1 σ fr e Γ2 from p)
      | ok d Γ2 =>
        dsimp only [Out.bind] at p
        rw [h2] at p
        intro y H2 Hf2 s2 ⟨st3, z3⟩
        have p := Post.mono p s2
        dsimp only at p
        obtain ⟨c, e, p⟩ := Post.of p
        cases hy : dKey k with
        | none => rw [hy] at e; cases e
        | some kk =>
          rw [hy] at e
          cases e
          obtain ⟨rfl, rfl⟩ := key_val z2 hy
          obtain ⟨ω, w⟩ := id st3
          obtain ⟨⟨A, ⟨a', kvs, ds, B, e1, e2, e3, r, e4⟩, nd, hA⟩, hr⟩ := w.fr
          cases e1
          have hk0 : kvs = [] := by
            cases kvs with
            | nil => rfl
            | cons kv kvs =>
              cases r with
              | cons _ _ => cases e2
          subst hk0
          have hf : FzAll X.K Hf2 (([(kk, y)] : List (Key × V)).map (·.2)) [d] := .cons z3 .nil
          exact ⟨e3, [(kk, y)], rfl, (show (1 : Nat) ≤ 15 by decide), p _ _ Hf2 (Same.refl _) (st3.mutTopH (fun _ o => own_d_mem o) (own_d_z hf))⟩⟩
end
/-! ### comprehensions with two clauses -/
def compL2 (is : List Nat) (t : D → Ev → Option Ev) (c : Ev → Out Bool) (f1 : Ev → Out (List D)) (is1 : List Nat) (t1 : D → Ev → Option Ev) (c1 : Ev → Out Bool) (fe : Ev → Out D) : List D → Ev → Option (List D × Ev)
  | [], Γ => some ([], Γ)
  | d :: ds, Γ => match t d Γ with
    | none => none
    | some Γ1 => match c Γ1 with
      | .ok true Γ2 => (match f1 Γ2 with
        | .ok ds1 Γ3 => (match compL is1 t1 c1 fe ds1 (wipeG Γ3 is1) with
          | some (es, Γ4) => (compL2 is t c f1 is1 t1 c1 fe ds (wipeG Γ4 is)).map fun p => (es ++ p.1, p.2)
          | none => none)
        | _ => none)
      | .ok false Γ2 => compL2 is t c f1 is1 t1 c1 fe ds (wipeG Γ2 is)
      | _ => none
def vComp2 (is : List Nat) (f : Ev → Out (List D)) (t : D → Ev → Option Ev) (c : Ev → Out Bool) (f1 : Ev → Out (List D)) (is1 : List Nat) (t1 : D → Ev → Option Ev) (c1 : Ev → Out Bool) (fe : Ev → Out D) : Ev → Out Va := fun Γ => (f Γ).bind fun ds Γ1 =>
    (match compL2 is t c f1 is1 t1 c1 fe ds (wipeG Γ1 is) with | some (es, Γ2) => if es.length ≤ 16777216 then .ok (.l .z, .list es) (restG Γ1 Γ2 is) else .st | none => .st)
/-- the names of a block wiped twice -/
theorem wipe_twice {σ : St} {is : List Nat} : ∀ js : List Nat, (∀ j ∈ js, j ∈ is) → wipe (wipe σ is) js = wipe σ is
  | [], _ => rfl
  | j :: js, hj => by
    show (wipe (wipe σ is) js).set j none = wipe σ is
    rw [wipe_twice js fun k hk => hj k (List.mem_cons_of_mem _ hk)]
    have hj' := hj j List.mem_cons_self
    apply List.ext_getElem?
    intro k
    by_cases e : j = k
    · subst e
      rw [List.getElem?_set]
      have : ∀ {l : List Nat}, j ∈ l → ∀ {τ : St}, (wipe τ l)[j]? = if j < τ.length then some none else none := fun {l} hl {τ} => by
        induction l with
        | nil => cases hl
        | cons b l ih2 =>
          show ((wipe τ l).set b none)[j]? = _
          by_cases e2 : b = j
          · subst e2
            rw [List.getElem?_set]
            simp [wipe_length]
          · rw [List.getElem?_set_ne e2]
            exact ih2 ((List.mem_cons.mp hl).resolve_left (fun z => e2 z.symm))
      rw [this hj' (τ := σ)]
      simp [wipe_length]
    · rw [List.getElem?_set_ne e]
/-- the loop of the second clause -/
theorem comp_in {g : GW} {is1 : List Nat} {t1 : D → Ev → Option Ev} {c1 : Ev → Out Bool} {fe : Ev → Out D} {σ2 : St} {H4 Hf4 : Hp} {J1 : It} {ds1 es : List D} {Γ3 Γ4 : Ev} {fr : List (V × Va)} {a : Addr} {acc0 : List D} {Nx : Hp → Prop}
    (it : ItOk g.h.K Hf4 J1 ds1) (st : StOk g.h Hf4 H4 (wipe σ2 is1) Γ3 ((.ref a, (.l .z, .list acc0)) :: fr)) (hn : ∀ j ∈ is1, ∀ x, Γ3[j]? ≠ some (some x)) (hcl : compL is1 t1 c1 fe ds1 Γ3 = some (es, Γ4)) (hlen : acc0.length + es.length ≤ 16777216)
    (q : ∀ H' Hf', Same Hf4 Hf' → StOk g.h Hf' H' (wipe σ2 is1) Γ4 ((.ref a, (.l .z, .list (acc0 ++ es))) :: fr) → Nx H') :
    ∃ W1 : Nat → Nat → Hp → Prop, (∃ m, W1 0 m H4) ∧ ∀ j k H, W1 j k H →
      (J1.stop j H ∧ Nx H) ∨ (J1.go j H ∧ ∃ Nx1 : Hp → Prop, (∀ H', Nx1 H' → ∃ k', k' < k ∧ W1 (j + 1) k' H') ∧ ∀ x H', J1.yld j H x H' → tG g is1 t1 x (wipe σ2 is1) H' fun σ3 H5 => wipe σ3 is1 = wipe σ2 is1 ∧ tT ⟨g.h, g.mg, W0⟩ c1 σ3 H5 fun b H6 =>
        if b = true then tF ⟨g.h, g.mg, W0⟩ fe σ3 H6 fun y H7 => ∃ acc, H7 a = some (.lst acc) ∧ acc.length < sizeLine ∧ Nx1 (upd H7 a (.lst (acc ++ [y]))) else Nx1 H6) := by
  refine ⟨fun i m H => m = ds1.length - i ∧ i ≤ ds1.length ∧ ∃ Hf2 Γ5 acc es', Same Hf4 Hf2 ∧ StOk g.h Hf2 H (wipe σ2 is1) Γ5 ((.ref a, (.l .z, .list acc)) :: fr) ∧ (∀ j ∈ is1, ∀ x, Γ5[j]? ≠ some (some x)) ∧
    compL is1 t1 c1 fe (ds1.drop i) Γ5 = some (es', Γ4) ∧ acc ++ es' = acc0 ++ es, ⟨_, rfl, Nat.zero_le _, Hf4, Γ3, acc0, es, Same.refl _, st, hn, hcl, rfl⟩, ?_⟩
  rintro i m H2 ⟨rfl, hi, Hf2, Γ5, acc, es', s2, st2, hn2, hcl2, hes⟩
  obtain ⟨g1, g2⟩ := it i Hf2 H2 s2 st2.sub
  cases h : ds1[i]? with
  | none =>
    rw [List.drop_eq_nil_of_le (List.getElem?_eq_none_iff.mp h)] at hcl2
    have hcl' : ([], Γ5) = (es', Γ4) := Option.some.inj hcl2
    cases hcl'
    rw [List.append_nil] at hes
    subst hes
    exact .inl ⟨g2 h, q H2 Hf2 s2 st2⟩
  | some d =>
    obtain ⟨go, yl⟩ := g1 d h
    have hlt := (List.getElem?_eq_some_iff.mp h).1
    have ed : ds1.drop i = d :: ds1.drop (i + 1) := by
      rw [List.drop_eq_getElem_cons hlt]
      rw [List.getElem?_eq_getElem hlt] at h
      rw [Option.some.inj h]
    rw [ed] at hcl2
    refine .inr ⟨go, fun H' => (i + 1 ≤ ds1.length ∧ ∃ Hf2 Γ5 acc' es'', Same Hf4 Hf2 ∧ StOk g.h Hf2 H' (wipe σ2 is1) Γ5 ((.ref a, (.l .z, .list acc')) :: fr) ∧ (∀ j ∈ is1, ∀ x, Γ5[j]? ≠ some (some x)) ∧
      compL is1 t1 c1 fe (ds1.drop (i + 1)) Γ5 = some (es'', Γ4) ∧ acc' ++ es'' = acc0 ++ es), fun H' n => ⟨ds1.length - (i + 1), by omega, rfl, n⟩, fun x H' y => ?_⟩
    obtain ⟨Hf3, a1, a2, a3, a4, z⟩ := yl x H' y
    have st3 := st2.freeze a1 a2 a3 a4
    unfold compL at hcl2
    cases ht : t1 d Γ5 with
    | none => rw [ht] at hcl2; cases hcl2
    | some Γ6 =>
      rw [ht] at hcl2
      dsimp only at hcl2
      refine ⟨Hf3, Γ5, _, d, st3, z, Γ6, ht, fun σ5 H5 Hf5 s5 st5 w5 => ?_⟩
      have w5' : wipe σ5 is1 = wipe σ2 is1 := by rw [w5]; exact wipe_twice is1 fun j hj => hj
      refine ⟨w5', Hf5, Γ6, _, st5, ?_⟩
      have sA : Same Hf4 Hf5 := (s2.trans a2).trans s5
      cases hcc : c1 Γ6 with
      | ex e Γ7 => rw [hcc] at hcl2; cases hcl2
      | st => rw [hcc] at hcl2; cases hcl2
      | ok k Γ7 =>
        rw [hcc] at hcl2
        intro k' H6 Hf6 s6 ⟨st6, ek⟩
        subst ek
        cases k' with
        | false =>
          dsimp only at hcl2
          rw [if_neg Bool.false_ne_true]
          exact ⟨hlt, Hf6, _, acc, es', sA.trans s6, st6.back w5', wipeG_none, hcl2, hes⟩
        | true =>
          dsimp only at hcl2
          rw [if_pos rfl]
          refine ⟨Hf6, Γ7, _, st6, ?_⟩
          cases he : fe Γ7 with
          | ex e Γ8 => rw [he] at hcl2; cases hcl2
          | st => rw [he] at hcl2; cases hcl2
          | ok e Γ8 =>
            rw [he] at hcl2
            dsimp only at hcl2
            intro v H7 Hf7 s7 ⟨st7, z7⟩
            obtain ⟨vs, e8, f8⟩ := st7.topL
            cases hr : compL is1 t1 c1 fe (ds1.drop (i + 1)) (wipeG Γ8 is1) with
            | none => rw [hr] at hcl2; cases hcl2
            | some r =>
              obtain ⟨es2, Γ9⟩ := r
              rw [hr] at hcl2
              cases hcl2
              have hl : acc.length + (es2.length + 1) = acc0.length + es.length := by
                have := congrArg List.length hes
                rw [List.length_append, List.length_append, List.length_cons] at this
                exact this
              refine ⟨vs, e8, ?_, hlt, Hf7, _, acc ++ [e], es2, (sA.trans s6).trans s7, (st7.mutTop (f8.append (.cons z7 .nil))).back w5', wipeG_none, hr, ?_⟩
              · rw [f8.length, sizeLine_eq]; omega
              · rw [List.append_assoc]; exact hes
theorem wipe_get {l : List Nat} {τ : St} {j : Nat} : (wipe τ l)[j]? = if j ∈ l then (if j < τ.length then some none else none) else τ[j]? := by
  by_cases h : j ∈ l
  · rw [if_pos h]
    induction l with
    | nil => cases h
    | cons b l ih =>
      show ((wipe τ l).set b none)[j]? = _
      by_cases e : b = j
      · subst e
        rw [List.getElem?_set]
        simp [wipe_length]
      · rw [List.getElem?_set_ne e]
        exact ih ((List.mem_cons.mp h).resolve_left (fun z => e z.symm))
  · rw [if_neg h]
    exact wipe_out h
theorem wipe_in {σ : St} {is1 is : List Nat} (hv : ∀ i ∈ is1, i ∈ is) : wipe (wipe σ is1) is = wipe σ is := by
  apply List.ext_getElem?
  intro j
  have e1 : (wipe (wipe σ is1) is)[j]? = if j ∈ is then (if j < (wipe σ is1).length then some none else none) else (wipe σ is1)[j]? := wipe_get
  have e2 : (wipe σ is)[j]? = if j ∈ is then (if j < σ.length then some none else none) else σ[j]? := wipe_get
  have e3 : (wipe σ is1)[j]? = if j ∈ is1 then (if j < σ.length then some none else none) else σ[j]? := wipe_get
  rw [e1, e2, wipe_length]
  by_cases h : j ∈ is
  · rw [if_pos h, if_pos h]
  · rw [if_neg h, if_neg h, e3, if_neg fun z => h (hv j z)]
section
variable {X : Cx} {W : WX}
theorem comp2_core {g : GW} {is is1 : List Nat} {f f1 : Ev → Out (List D)} {t t1 : D → Ev → Option Ev} {c c1 : Ev → Out Bool} {fe : Ev → Out D} {σ : St} {H : Hp} {Q : VK} (hv : ∀ i ∈ is1, i ∈ is) (h : tV g (vComp2 is f t c f1 is1 t1 c1 fe) σ H Q) :
    tLc2 (tI g f) (tG g is t) (tT ⟨g.h, g.mg, W0⟩ c) (tI ⟨g.h, g.mg, W0⟩ f1) (tG g is1 t1) (tT ⟨g.h, g.mg, W0⟩ c1) (tF ⟨g.h, g.mg, W0⟩ fe) is is1 σ H Q := by
  obtain ⟨Hf, Γ, fr, st, p⟩ := h
  refine ⟨Hf, Γ, fr, st, Post.bind p fun ds Γ1 _ J H1 Hf1 s1 ⟨st1, it⟩ q => ?_⟩
  cases hc : compL2 is t c f1 is1 t1 c1 fe ds (wipeG Γ1 is) with
  | none => rw [hc] at q; exact q.elim
  | some r =>
    obtain ⟨es, Γ2⟩ := r
    rw [hc] at q
    dsimp only at q
    split at q
    · rename_i lenOk
      intro a na
      have stD : StOk g.h Hf1 (upd H1 a (.lst [])) (wipe σ is) (wipeG Γ1 is) ((.ref a, (.l .z, .list [])) :: fr) := ((st1.pushN (NewV.lst st1.sub na .nil)).wipe is)
      refine ⟨fun i m H => m = ds.length - i ∧ i ≤ ds.length ∧ ∃ Hf2 Γ3 acc es', Same Hf1 Hf2 ∧ StOk g.h Hf2 H (wipe σ is) Γ3 ((.ref a, (.l .z, .list acc)) :: fr) ∧ (∀ j ∈ is, ∀ x, Γ3[j]? ≠ some (some x)) ∧
        compL2 is t c f1 is1 t1 c1 fe (ds.drop i) Γ3 = some (es', Γ2) ∧ acc ++ es' = es, ⟨_, rfl, Nat.zero_le _, Hf1, _, [], es, Same.refl _, stD, wipeG_none, hc, rfl⟩, ?_⟩
      rintro i m H2 ⟨rfl, hi, Hf2, Γ3, acc, es', s2, st2, hn, hcl, hes⟩
      obtain ⟨g1, g2⟩ := it i Hf2 H2 s2 st2.sub
      cases h : ds[i]? with
      | none =>
        rw [List.drop_eq_nil_of_le (List.getElem?_eq_none_iff.mp h)] at hcl
        have hcl' : ([], Γ3) = (es', Γ2) := Option.some.inj hcl
        cases hcl'
        rw [List.append_nil] at hes
        subst hes
        exact .inl ⟨g2 h, q _ H2 Hf2 s2 (StOk.rest st1 s2 st2 hn is)⟩
      | some d =>
        obtain ⟨go, yl⟩ := g1 d h
        have hlt := (List.getElem?_eq_some_iff.mp h).1
        have ed : ds.drop i = d :: ds.drop (i + 1) := by
          rw [List.drop_eq_getElem_cons hlt]
          rw [List.getElem?_eq_getElem hlt] at h
          rw [Option.some.inj h]
        rw [ed] at hcl
        refine .inr ⟨go, fun H' => (i + 1 ≤ ds.length ∧ ∃ Hf2 Γ3 acc' es'', Same Hf1 Hf2 ∧ StOk g.h Hf2 H' (wipe σ is) Γ3 ((.ref a, (.l .z, .list acc')) :: fr) ∧ (∀ j ∈ is, ∀ x, Γ3[j]? ≠ some (some x)) ∧
          compL2 is t c f1 is1 t1 c1 fe (ds.drop (i + 1)) Γ3 = some (es'', Γ2) ∧ acc' ++ es'' = es), fun H' n => ⟨ds.length - (i + 1), by omega, rfl, n⟩, fun x H' y => ?_⟩
        obtain ⟨Hf3, a1, a2, a3, a4, z⟩ := yl x H' y
        have st3 := st2.freeze a1 a2 a3 a4
        unfold compL2 at hcl
        cases ht : t d Γ3 with
        | none => rw [ht] at hcl; cases hcl
        | some Γ4 =>
          rw [ht] at hcl
          dsimp only at hcl
          refine ⟨Hf3, Γ3, _, d, st3, z, Γ4, ht, fun σ5 H5 Hf5 s5 st5 w5 => ?_⟩
          have w5' : wipe σ5 is = wipe σ is := by rw [w5]; exact wipe_twice is fun j hj => hj
          refine ⟨w5', Hf5, Γ4, _, st5, ?_⟩
          have sA : Same Hf1 Hf5 := (s2.trans a2).trans s5
          cases hcc : c Γ4 with
          | ex e Γ5 => rw [hcc] at hcl; cases hcl
          | st => rw [hcc] at hcl; cases hcl
          | ok k Γ5 =>
            rw [hcc] at hcl
            intro k' H6 Hf6 s6 ⟨st6, ek⟩
            subst ek
            cases k' with
            | false =>
              dsimp only at hcl
              rw [if_neg Bool.false_ne_true]
              exact ⟨hlt, Hf6, _, acc, es', sA.trans s6, st6.back w5', wipeG_none, hcl, hes⟩
            | true =>
              dsimp only at hcl
              rw [if_pos rfl]
              refine ⟨Hf6, Γ5, _, st6, ?_⟩
              cases he : f1 Γ5 with
              | ex e Γ6 => rw [he] at hcl; cases hcl
              | st => rw [he] at hcl; cases hcl
              | ok ds1 Γ6 =>
                rw [he] at hcl
                dsimp only at hcl
                intro J1 H7 Hf7 s7 ⟨st7, it7⟩
                cases hr1 : compL is1 t1 c1 fe ds1 (wipeG Γ6 is1) with
                | none => rw [hr1] at hcl; cases hcl
                | some r1 =>
                  obtain ⟨es1, Γ7⟩ := r1
                  rw [hr1] at hcl
                  dsimp only at hcl
                  cases hr : compL2 is t c f1 is1 t1 c1 fe (ds.drop (i + 1)) (wipeG Γ7 is) with
                  | none => rw [hr] at hcl; cases hcl
                  | some r =>
                    obtain ⟨es2, Γ8⟩ := r
                    rw [hr] at hcl
                    cases hcl
                    have hl : acc.length + (es1.length + es2.length) = es.length := by
                      have := congrArg List.length hes
                      rw [List.length_append, List.length_append] at this
                      exact this
                    refine comp_in (g := g) it7 (st7.wipe is1) wipeG_none hr1 (by omega) fun H8 Hf8 s8 st8 => ?_
                    refine ⟨hlt, Hf8, wipeG Γ7 is, acc ++ es1, es2, ((sA.trans s6).trans s7).trans s8, ?_, wipeG_none, hr, by rw [List.append_assoc]; exact hes⟩
                    exact st8.back (by rw [wipe_in hv]; exact w5')
    · exact q.elim
theorem pv_lc2 {elt tg iter tg1 iter1 : Expr} {ifs ifs1 : List Expr} {scope : Scope} {own : List (Str × Nat)} {is1 : List Nat} {pos : Pos} {f f1 : Ev → Out (List D)} {t t1 : D → Ev → Option Ev} {c c1 : Ev → Out Bool} {fe : Ev → Out D} (hc : X.calm = true) (hN : X.N.Nodup) (ok : BlkOk X.N X.env.scope scope own) (hi : PIt X W tg iter f) (hv : ∀ i ∈ is1, i ∈ own.map (·.2))
    (hg : ∀ (s : Shared) (H : L2.Hp) (C : Addr) (cl : List (Str × Addr)) (fp : List Addr), PGt (X.blk s H scope (compEnvC scope cl C X.env) fp) tg (own.map (·.2)) t)
    (ht : ∀ (s : Shared) (H : L2.Hp) (C : Addr) (cl : List (Str × Addr)) (fp : List Addr), PBs (X.blk s H scope (compEnvC scope cl C X.env) fp) W0 ifs c)
    (hi1 : ∀ (s : Shared) (H : L2.Hp) (C : Addr) (cl : List (Str × Addr)) (fp : List Addr), PIt (X.blk s H scope (compEnvC scope cl C X.env) fp) W0 tg1 iter1 f1)
    (hg1 : ∀ (s : Shared) (H : L2.Hp) (C : Addr) (cl : List (Str × Addr)) (fp : List Addr), PGt (X.blk s H scope (compEnvC scope cl C X.env) fp) tg1 is1 t1)
    (ht1 : ∀ (s : Shared) (H : L2.Hp) (C : Addr) (cl : List (Str × Addr)) (fp : List Addr), PBs (X.blk s H scope (compEnvC scope cl C X.env) fp) W0 ifs1 c1)
    (he : ∀ (s : Shared) (H : L2.Hp) (C : Addr) (cl : List (Str × Addr)) (fp : List Addr), PF (X.blk s H scope (compEnvC scope cl C X.env) fp) W0 elt fe) (hs : ∀ x, foldedSetIterable iter X.env x = pure x := by intro _; rfl) (hs1 : ∀ env x, foldedSetIterable iter1 env x = pure x := by intro _ _; rfl) :
    PV X W (.ListComp elt [⟨tg, iter, ifs, 0⟩, ⟨tg1, iter1, ifs1, 0⟩] scope pos) (vComp2 (own.map (·.2)) f t c f1 is1 t1 c1 fe) :=
  ⟨fun f0 h0 => (pe_lc2 hc hN (hi.run f0 h0) ok hv (fun s H C cl fp => (hg s H C cl fp).run (gh X W f0 h0) rfl) (fun s H C cl fp => (ht s H C cl fp).run f0 h0) (fun s H C cl fp => (hi1 s H C cl fp).run f0 h0) (fun s H C cl fp => (hg1 s H C cl fp).run (gh X W f0 h0) rfl) (fun s H C cl fp => (ht1 s H C cl fp).run f0 h0) (fun s H C cl fp => (he s H C cl fp).run f0 h0) hs hs1).imp fun σ H Q h => comp2_core (g := gh X W f0 h0) hv h⟩
theorem ps_lc2 (i : Nat) {y : Str} {py : Pos} {elt tg iter tg1 iter1 : Expr} {ifs ifs1 : List Expr} {scope : Scope} {own : List (Str × Nat)} {is1 : List Nat} {pos spos : Pos} {f f1 : Ev → Out (List D)} {t t1 : D → Ev → Option Ev} {c c1 : Ev → Out Bool} {fe : Ev → Out D} (hc : X.calm = true) (hN : X.N.Nodup) (ok : BlkOk X.N X.env.scope scope own)
    (hy : X.N[i]? = some y) (hyl : X.env.scope.names.lookup y = some .local) (hsw : swapsWith (.ListComp elt [⟨tg, iter, ifs, 0⟩, ⟨tg1, iter1, ifs1, 0⟩] scope pos) (some (.Name y py)) spos.line X.env = pure true) (hi : PIt X W tg iter f) (hv : ∀ i ∈ is1, i ∈ own.map (·.2))
    (hg : ∀ (s : Shared) (H : L2.Hp) (C : Addr) (cl : List (Str × Addr)) (fp : List Addr), PGt (X.blk s H scope (compEnvC scope cl C X.env) fp) tg (own.map (·.2)) t)
    (ht : ∀ (s : Shared) (H : L2.Hp) (C : Addr) (cl : List (Str × Addr)) (fp : List Addr), PBs (X.blk s H scope (compEnvC scope cl C X.env) fp) W0 ifs c)
    (hi1 : ∀ (s : Shared) (H : L2.Hp) (C : Addr) (cl : List (Str × Addr)) (fp : List Addr), PIt (X.blk s H scope (compEnvC scope cl C X.env) fp) W0 tg1 iter1 f1)
    (hg1 : ∀ (s : Shared) (H : L2.Hp) (C : Addr) (cl : List (Str × Addr)) (fp : List Addr), PGt (X.blk s H scope (compEnvC scope cl C X.env) fp) tg1 is1 t1)
    (ht1 : ∀ (s : Shared) (H : L2.Hp) (C : Addr) (cl : List (Str × Addr)) (fp : List Addr), PBs (X.blk s H scope (compEnvC scope cl C X.env) fp) W0 ifs1 c1)
    (he : ∀ (s : Shared) (H : L2.Hp) (C : Addr) (cl : List (Str × Addr)) (fp : List Addr), PF (X.blk s H scope (compEnvC scope cl C X.env) fp) W0 elt fe) (hs : ∀ x, foldedSetIterable iter X.env x = pure x := by intro _; rfl) (hs1 : ∀ env x, foldedSetIterable iter1 env x = pure x := by intro _ _; rfl) :
    PSt X W (.Assign [.Name y py] (.ListComp elt [⟨tg, iter, ifs, 0⟩, ⟨tg1, iter1, ifs1, 0⟩] scope pos) spos) (sAsg i (vComp2 (own.map (·.2)) f t c f1 is1 t1 c1 fe)) :=
  ⟨fun f0 h0 => (ps_setLc2 hc hN hy hyl hsw (hi.run f0 h0) ok hv (fun s H C cl fp => (hg s H C cl fp).run (gh X W f0 h0) rfl) (fun s H C cl fp => (ht s H C cl fp).run f0 h0) (fun s H C cl fp => (hi1 s H C cl fp).run f0 h0) (fun s H C cl fp => (hg1 s H C cl fp).run (gh X W f0 h0) rfl) (fun s H C cl fp => (ht1 s H C cl fp).run f0 h0) (fun s H C cl fp => (he s H C cl fp).run f0 h0) hs hs1).imp fun D σ H ⟨Hf, Γ, fr, st, p⟩ =>
    comp2_core (g := gh X W f0 h0) hv ⟨Hf, Γ, fr, st, PostS.bind p fun x Γ1 _ v H1 Hf1 s1 st1 q => q _ H1 Hf1 (Same.refl _) (st1.store i)⟩⟩
end
/-! ### try .. except C as e -/
theorem raw_inv {K : PySem.W.Frag} {H : Hp} {v : V} {a : Addr} (h : Fz K H v (.dict [(.none, .int ((a : Nat) : Int))])) : v = .ref a := by
  generalize hd : PyData.dict [(PyData.none, PyData.int ((a : Nat) : Int))] = d at h
  cases h with
  | raw a' =>
    unfold rawD at hd
    have e := PyData.dict.inj hd
    have e2 := congrArg (fun l : List (D × D) => match l with | [(_, .int n)] => n | _ => 0) e
    have e3 : ((a : Nat) : Int) = ((a' : Nat) : Int) := e2
    exact congrArg V.ref (Int.ofNat.inj e3).symm
  | scr ns h =>
    have e := PyData.dict.inj hd
    have e2 := congrArg (fun l : List (D × D) => match l with | [(_, .int _)] => true | _ => false) e
    cases e2
  | @dK a0 kvs ds h r =>
    have e := PyData.dict.inj hd
    exfalso
    cases kvs with
    | nil => cases e
    | cons kv kvs =>
      cases r with
      | cons _ _ =>
        have e2 := congrArg (fun l : List (D × D) => match l with | (.none, _) :: _ => true | _ => false) e
        obtain ⟨k, w⟩ := kv
        cases k <;> cases e2
  | _ => cases hd
def sClr (i : Nat) (r : SO) : SO := match r with
  | .nx Γ => .nx (Γ.set i none)
  | .rt x Γ => .rt x (Γ.set i none)
  | .bk Γ => .bk (Γ.set i none)
  | .ct Γ => .ct (Γ.set i none)
  | .ex _ _ => .st
  | .st => .st
def tryA (m : Str → Option Bool) (i : Nat) (fs : Addr → Exc → Ev → SO) (r : SO) : SO := match r with
  | .ex e Γ1 => (match m e.c with
    | some true => if e.fs.isEmpty = true then sClr i (fs 0 e (Γ1.set i (some (.z, rawD 0)))) else .st
    | some false => .ex e Γ1
    | none => .st)
  | r => r
def sTryA (m : Str → Option Bool) (i : Nat) (fb : Ev → SO) (fs : Addr → Exc → Ev → SO) : Ev → SO := fun Γ => tryA m i fs (fb Γ)
def rawS (a : Addr) (o : Option (Option Va)) (r : Out D) : Out D := match o with
  | some (some (.z, .dict [(.none, .int n)])) => if n = (a : Nat) then r else .st
  | _ => .st
/-- isinstance(e, C), e the caught exception -/
def fIsX (i : Nat) (isx : Str → Option Bool) (a : Addr) (e : Exc) : Ev → Out D := fun Γ => rawS a (Γ[i]?) (match isx e.c with | some b => .ok (.bool b) Γ | none => .st)
section
variable {g : GW} {D : Ends} {fr : List (V × Va)} {Hf H : Hp} {σ : St} {Γ : Ev}
theorem StOk.clr (h : StOk g.h Hf H σ Γ fr) (i : Nat) : StOk g.h Hf H (σ.set i none) (Γ.set i none) fr := by
  have hl : Γ.length = σ.length := by
    obtain ⟨ω, h⟩ := h
    exact h.len
  refine h.weak (by rw [List.length_set, List.length_set, hl]) fun j x e => ?_
  have hj : i ≠ j := fun z => by
    subst z
    rw [List.getElem?_set] at e
    simp at e
  rw [List.getElem?_set_ne hj] at e
  exact ⟨e, List.getElem?_set_ne hj⟩
theorem PostS.clr {mg' : Str → Option Value} {W' : WX} {i : Nat} {r : SO} (p : PostS g D fr Hf (sClr i r)) : PostS ⟨g.h, mg', W'⟩ { nx := fun σ' H' => D.nx (σ'.set i none) H', rt := D.rt, bk := fun σ' H' => D.bk (σ'.set i none) H', ct := fun σ' H' => D.ct (σ'.set i none) H' } fr Hf r := by
  cases r with
  | nx Γ => exact fun σ' H' Hf' s st => p _ H' Hf' s (st.clr i)
  | rt x Γ => exact fun v σ' H' Hf' s st => p v _ H' Hf' s (st.clr i)
  | bk Γ => exact fun σ' H' Hf' s st => p _ H' Hf' s (st.clr i)
  | ct Γ => exact fun σ' H' Hf' s st => p _ H' Hf' s (st.clr i)
  | ex e Γ => exact p.elim
  | st => exact p.elim
end
section
variable {X : Cx} {W : WX} {pos : Pos}
theorem pf_isx {x y n : Str} {p p1 p2 : Pos} {i : Nat} {a Dd : Addr} {oe : Obj} {pn : List (Addr × Obj)} {isx : Str → Option Bool} {e : Exc} {Cc : Addr} (hz : Zc (.ref Dd) none oe) (hf : ∃ vs, oe.data = .fields vs) (hD : X.mg e.c = some (.ref Dd))
    (hk : ∀ c b D0, isx c = some b → X.mg c = some (.ref D0) → ExcC X.K D0 ∧ PySem.W.kitOne X.K (.ref D0) (.ref Cc) = some b)
    (hg : Gl (X.suite a ((a, oe) :: pn)) x) (hm : X.mg x = none) (hv : bootBuiltins x = some (.builtin "isinstance"))
    (hN : X.N[i]? = some n) (hvis : Vis X.env.scope n) (hd : (n == ("__debug__" : Str)) = false) (hcd : (n == ("__classdict__" : Str)) = false)
    (hg2 : Gl (X.suite a ((a, oe) :: pn)) y) (hm2 : X.mg y = some (.ref Cc))
    (hn : x ≠ "__name__" := by decide) (hdb : (x == ("__debug__" : Str)) = false := by decide) (hdb2 : (y == ("__debug__" : Str)) = false := by decide)
    (he : starEach [.Name n p1, .Name y p2] X.env = (false, eval (.Name n p1) X.env) :: starEach [.Name y p2] X.env := by rfl) (hpl : (backTo pos (starEach [.Name y p2] X.env)).any (·.1) = false := by rfl)
    (he2 : starEach [.Name y p2] X.env = (false, eval (.Name y p2) X.env) :: starEach [] X.env := by rfl) :
    PF (X.suite a ((a, oe) :: pn)) W (.Call (.Name x p) [.Name n p1, .Name y p2] [] pos) (fIsX i isx a e) :=
  ⟨fun f0 h0 => by
    cases hb : isx e.c with
    | none =>
      refine ⟨fun pins s σ H Q I h => ?_⟩
      obtain ⟨Hf, Γ, fr, st, q⟩ := h
      exfalso
      unfold fIsX rawS at q
      rw [hb] at q
      split at q
      · split at q <;> exact q.elim
      · exact q.elim
    | some b =>
      obtain ⟨hC, hkit⟩ := hk e.c b Dd hb hD
      refine (pe_callB (call_isE hC hz hf) hg hm hv (pa_cons (pe_var (X := X.suite a ((a, oe) :: pn)) hN hvis hd hcd) (pa_cons (pe_glob hg2 hm2 (v := .ref Cc) rfl hdb2) pa_nil he2) he) hn hdb he hpl).imp fun σ H Q ⟨Hf, Γ, fr, st, q⟩ => ?_
      unfold fIsX rawS at q
      rw [hb] at q
      split at q
      · rename_i k hg
        split at q
        · rename_i hka
          subst hka
          obtain ⟨v, e1, z⟩ := st.getZ hg
          have ev : v = .ref a := raw_inv z
          subst ev
          exact ⟨.ref a, e1, .ref Cc, .ref Cc, b, rfl, fun u r => r, hkit, q _ H Hf (Same.refl _) ⟨st, .bl _⟩⟩
        · exact q.elim
      · exact q.elim⟩
theorem ps_tryA {x n : Str} {i : Nat} {c : Value} {body suite : List Stmt} {b₀ : Stmt} {np pos' : Pos} {m : Str → Option Bool} {fb : Ev → SO} {fs : Addr → Exc → Ev → SO} (hs : X.stack = X.env :: X.outer) (hf : X.env.frame = some X.env.locals) (hN : X.N.Nodup) (hi : X.N[i]? = some n) (hln : X.env.kindOf n = some .local) (hc : Names X x c) (tk : Takes X W)
    (hm : ∀ n b cls, m n = some b → X.mg n = some cls → PySem.W.exmOne X.K cls c = some b) (hcr : ∀ n cls, m n = some true → X.mg n = some cls → ∃ D0, cls = .ref D0)
    (hp : ∀ (a : Addr) (e : Exc) (Γ : Ev), sClr i (fs a e (Γ.set i (some (.z, rawD a)))) = sClr i (fs 0 e (Γ.set i (some (.z, rawD 0)))))
    (hb : ∀ (W' : WX) (pn : List (Addr × Obj)) (xe : Value → Shared → Prop), Takes (X.tr pn xe) W' → PassesOwn (model X.prog X.w) X.A X.env xe → PSts (X.tr pn xe) W' body fb)
    (hsu : ∀ (a : Addr) (oe : Obj) (Dd : Addr) (e : Exc) (pn : List (Addr × Obj)), Zc (.ref Dd) none oe → (∃ vs, oe.data = .fields vs) → X.mg e.c = some (.ref Dd) → PSts (X.suite a ((a, oe) :: pn)) W0 (b₀ :: suite) (fs a e)) :
    PSt X W (.Try body [.ExceptHandler (some (.Name x np)) (some n) (b₀ :: suite) pos'] [] [] pos) (sTryA m i fb fs) :=
  ⟨fun f0 h0 => (L2.ps_try_as (tb := fun W' => tS ⟨⟨X.K, f0, h0⟩, X.mg, W'⟩ fb) (ts := fun a cls d D σ H => ∃ e Dd, X.mg e.c = some (.ref Dd) ∧ cls = .ref Dd ∧ d = none ∧ tS ⟨⟨X.K, f0, h0⟩, X.mg, W0⟩ (fs a e) D σ H) hs hf hN hi hln hc tk (fun W' pn xe tk' pw => (hb W' pn xe tk' pw).run f0 h0)
    (fun a oe cls d pn hz hfl => ⟨fun pins s σ H D I h => by
      obtain ⟨e, Dd, h1, rfl, rfl, h2⟩ := h
      exact ((hsu a oe Dd e pn hz hfl h1).run f0 h0).run pins s σ H D I h2⟩)).imp fun D σ H ⟨Hf, Γ, fr, st, p⟩ => by
    refine ⟨Hf, Γ, fr, st, ?_⟩
    unfold sTryA at p
    cases h : fb Γ with
    | nx Γ1 => rw [h] at p; exact p
    | rt x Γ1 => rw [h] at p; exact p
    | bk Γ1 => rw [h] at p; exact p
    | ct Γ1 => rw [h] at p; exact p
    | st => rw [h] at p; exact p
    | ex e Γ1 =>
      rw [h] at p
      unfold tryA at p
      dsimp only at p
      intro σ' cls dx H' Hf' s' xo st'
      cases hmm : m e.c with
      | none => rw [hmm] at p; exact p.elim
      | some b =>
        rw [hmm] at p
        refine ⟨b, hm e.c b cls hmm xo.1, fun eb a na => ?_, fun eb => ?_⟩
        · subst eb
          dsimp only at p
          split at p
          · rename_i hfs
            obtain ⟨Dd, rfl⟩ := hcr _ _ hmm xo.1
            have hdx : dx = none := by
              rcases xo.2 with ⟨_, z⟩ | ⟨a1, fv, z1, z2, z3, z4, z5⟩
              · exact z
              · exact absurd (List.isEmpty_iff.mp hfs) z5
            refine ⟨e, Dd, xo.1, rfl, hdx, Hf', Γ1.set i (some (.z, rawD a)), fr, (st'.push (.raw a)).store i, ?_⟩
            rw [← hp a] at p
            exact PostS.mono (PostS.clr (g := gh X W f0 h0) p) s'
          · exact p.elim
        · subst eb
          exact p σ' cls dx H' Hf' s' xo st'⟩
end
end PV
namespace PV
open PySem PySem.Spec PyProof.Rows L2
/-! ### classes of exceptions, one against another -/
section
variable {K : PySem.W.Frag} {R C : Addr} {b : Bool}
theorem kitCls_of (h2 : PySem.W.isClsIn K C = true) (h3 : PySem.W.typeIn K (.ref C) = some (.type "type")) (h4 : PySem.W.subIn K (.ref R) (.ref C) = some b) : PySem.W.kitCls K (.ref R) (.ref C) = some b := by
  have a2 : ((PySem.W.clsIn K C).isSome && PySem.W.typeIn K (.ref C) == some (.type "type")) = true := by
    have z : (PySem.W.clsIn K C).isSome = true := h2
    rw [z, h3]
    rfl
  unfold PySem.W.kitCls
  simp only [a2, if_true]
  exact h4
theorem exm_of2 (h1 : PySem.W.subIn K (.ref C) (.type "BaseException") = some true) (h2 : PySem.W.isClsIn K C = true) (h3 : PySem.W.typeIn K (.ref C) = some (.type "type")) (h4 : PySem.W.subIn K (.ref R) (.ref C) = some b) :
    PySem.W.exmOne K (.ref R) (.ref C) = some b := by
  have a1 : (PySem.W.subIn K (.ref C) (.type "BaseException") == some true) = true := by rw [h1]; rfl
  unfold PySem.W.exmOne
  simp only [a1, if_true]
  exact kitCls_of h2 h3 h4
theorem kit_of2 (h0 : PySem.W.subIn K (.ref R) (.ref R) = some true) (h2 : PySem.W.isClsIn K C = true) (h3 : PySem.W.typeIn K (.ref C) = some (.type "type")) (h4 : PySem.W.subIn K (.ref R) (.ref C) = some b) :
    PySem.W.kitOne K (.ref R) (.ref C) = some b := by
  unfold PySem.W.kitOne
  by_cases e : ((Value.ref R == Value.ref C) = true)
  · rw [if_pos e]
    have e' : R = C := Value.ref.inj (beq_iff_eq.mp e)
    subst e'
    rw [h0] at h4
    exact h4
  · rw [if_neg e]
    exact kitCls_of h2 h3 h4
end
end PV
namespace K09
open PySem PySem.Spec PyProof.Rows L2 PV

/-! ### the text -/
def topS (i : Nat) : Stmt := PySem.Challenge.pw_pinsalone_k09_hidden_flaws.main.body.getD i (.Pass ⟨0, 0, 0, 0⟩)
abbrev s_cell_value : Stmt := topS 7
abbrev N_cell_value : List Str := ["kind", "values", "value"]
theorem sc_cell_value : FnScope N_cell_value ["kind", "values"] (defScope s_cell_value) := ⟨rfl, rfl, rfl, by decide +kernel, rfl, by decide +kernel, by decide +kernel⟩
abbrev s_latch_cells : Stmt := topS 9
abbrev N_latch_cells : List Str := ["circuit", "cell"]
theorem sc_latch_cells : FnScope N_latch_cells ["circuit"] (defScope s_latch_cells) := ⟨rfl, rfl, rfl, by decide +kernel, rfl, by decide +kernel, by decide +kernel⟩
abbrev s_settled_values : Stmt := topS 10
abbrev N_settled_values : List Str := ["circuit", "inputs", "states", "stuck", "values", "left", "kind", "sources", "output", "value", "net", "bit"]
theorem sc_settled_values : FnScope N_settled_values ["circuit", "inputs", "states", "stuck"] (defScope s_settled_values) := ⟨rfl, rfl, rfl, by decide +kernel, rfl, by decide +kernel, by decide +kernel⟩
abbrev s_bit_count : Stmt := topS 12
abbrev N_bit_count : List Str := ["circuit"]
theorem sc_bit_count : FnScope N_bit_count ["circuit"] (defScope s_bit_count) := ⟨rfl, rfl, rfl, by decide +kernel, rfl, by decide +kernel, by decide +kernel⟩
abbrev s_case_count : Stmt := topS 13
abbrev N_case_count : List Str := ["circuit"]
theorem sc_case_count : FnScope N_case_count ["circuit"] (defScope s_case_count) := ⟨rfl, rfl, rfl, by decide +kernel, rfl, by decide +kernel, by decide +kernel⟩
abbrev s_case_bits : Stmt := topS 14
abbrev N_case_bits : List Str := ["circuit", "case", "bits", "k"]
theorem sc_case_bits : FnScope N_case_bits ["circuit", "case"] (defScope s_case_bits) := ⟨rfl, rfl, rfl, by decide +kernel, rfl, by decide +kernel, by decide +kernel⟩
abbrev s_check_flaw : Stmt := topS 15
abbrev N_check_flaw : List Str := ["circuit", "flaw"]
theorem sc_check_flaw : FnScope N_check_flaw ["circuit", "flaw"] (defScope s_check_flaw) := ⟨rfl, rfl, rfl, by decide +kernel, rfl, by decide +kernel, by decide +kernel⟩
abbrev s_answers : Stmt := topS 16
abbrev N_answers : List Str := ["circuit", "case", "stuck", "inputs", "states", "values", "ends", "net", "cell"]
theorem sc_answers : FnScope N_answers ["circuit", "case", "stuck"] (defScope s_answers) := ⟨rfl, rfl, rfl, by decide +kernel, rfl, by decide +kernel, by decide +kernel⟩
abbrev s_shows : Stmt := topS 17
abbrev N_shows : List Str := ["circuit", "flaw", "case"]
theorem sc_shows : FnScope N_shows ["circuit", "flaw", "case"] (defScope s_shows) := ⟨rfl, rfl, rfl, by decide +kernel, rfl, by decide +kernel, by decide +kernel⟩
abbrev s_check_size : Stmt := topS 20
abbrev N_check_size : List Str := ["circuit"]
theorem sc_check_size : FnScope N_check_size ["circuit"] (defScope s_check_size) := ⟨rfl, rfl, rfl, by decide +kernel, rfl, by decide +kernel, by decide +kernel⟩
abbrev s_all_flaws : Stmt := topS 21
abbrev N_all_flaws : List Str := ["circuit", "net", "value"]
theorem sc_all_flaws : FnScope N_all_flaws ["circuit"] (defScope s_all_flaws) := ⟨rfl, rfl, rfl, by decide +kernel, rfl, by decide +kernel, by decide +kernel⟩
abbrev s_first_case : Stmt := topS 22
abbrev N_first_case : List Str := ["circuit", "flaw", "case"]
theorem sc_first_case : FnScope N_first_case ["circuit", "flaw"] (defScope s_first_case) := ⟨rfl, rfl, rfl, by decide +kernel, rfl, by decide +kernel, by decide +kernel⟩
abbrev s_hidden_flaws : Stmt := topS 23
abbrev N_hidden_flaws : List Str := ["circuit", "flaw"]
theorem sc_hidden_flaws : FnScope N_hidden_flaws ["circuit"] (defScope s_hidden_flaws) := ⟨rfl, rfl, rfl, by decide +kernel, rfl, by decide +kernel, by decide +kernel⟩
abbrev s_law_cell : Stmt := topS 25
abbrev N_law_cell : List Str := ["script", "k"]
theorem sc_law_cell : FnScope N_law_cell ["script", "k"] (defScope s_law_cell) := ⟨rfl, rfl, rfl, by decide +kernel, rfl, by decide +kernel, by decide +kernel⟩
abbrev s_law_parts : Stmt := topS 26
abbrev N_law_parts : List Str := ["cell", "sizes", "parts", "rest", "k", "mixed"]
theorem sc_law_parts : FnScope N_law_parts ["cell", "sizes"] (defScope s_law_parts) := ⟨rfl, rfl, rfl, by decide +kernel, rfl, by decide +kernel, by decide +kernel⟩
abbrev s_law_is_integer : Stmt := topS 27
abbrev N_law_is_integer : List Str := ["actual"]
theorem sc_law_is_integer : FnScope N_law_is_integer ["actual"] (defScope s_law_is_integer) := ⟨rfl, rfl, rfl, by decide +kernel, rfl, by decide +kernel, by decide +kernel⟩
abbrev s_law_kind : Stmt := topS 28
abbrev N_law_kind : List Str := ["parts", "nets", "latches", "kinds", "kind"]
theorem sc_law_kind : FnScope N_law_kind ["parts", "nets", "latches"] (defScope s_law_kind) := ⟨rfl, rfl, rfl, by decide +kernel, rfl, by decide +kernel, by decide +kernel⟩
abbrev s_law_drawn : Stmt := topS 29
abbrev N_law_drawn : List Str := ["parts", "count", "nets", "left", "drawn", "k"]
theorem sc_law_drawn : FnScope N_law_drawn ["parts", "count", "nets"] (defScope s_law_drawn) := ⟨rfl, rfl, rfl, by decide +kernel, rfl, by decide +kernel, by decide +kernel⟩
abbrev s_law_circuit : Stmt := topS 30
abbrev N_law_circuit : List Str := ["script", "most", "head", "cells", "latches", "total", "net", "parts", "kind", "outputs", "k"]
theorem sc_law_circuit : FnScope N_law_circuit ["script", "most"] (defScope s_law_circuit) := ⟨rfl, rfl, rfl, by decide +kernel, rfl, by decide +kernel, by decide +kernel⟩
abbrev s_law_value : Stmt := topS 31
abbrev N_law_value : List Str := ["kind", "bits"]
theorem sc_law_value : FnScope N_law_value ["kind", "bits"] (defScope s_law_value) := ⟨rfl, rfl, rfl, by decide +kernel, rfl, by decide +kernel, by decide +kernel⟩
abbrev s_law_answers : Stmt := topS 32
abbrev N_law_answers : List Str := ["circuit", "case", "net", "value", "nets", "count", "k", "cell", "ends", "end", "source"]
theorem sc_law_answers : FnScope N_law_answers ["circuit", "case", "net", "value"] (defScope s_law_answers) := ⟨rfl, rfl, rfl, by decide +kernel, rfl, by decide +kernel, by decide +kernel⟩
abbrev s_law_cases : Stmt := topS 33
abbrev N_law_cases : List Str := ["circuit", "count", "k", "cell"]
theorem sc_law_cases : FnScope N_law_cases ["circuit"] (defScope s_law_cases) := ⟨rfl, rfl, rfl, by decide +kernel, rfl, by decide +kernel, by decide +kernel⟩
abbrev s_law_refuses : Stmt := topS 34
abbrev N_law_refuses : List Str := ["circuit", "flaw", "e"]
theorem sc_law_refuses : FnScope N_law_refuses ["circuit", "flaw"] (defScope s_law_refuses) := ⟨rfl, rfl, rfl, by decide +kernel, rfl, by decide +kernel, by decide +kernel⟩
abbrev s_law_bare : Stmt := topS 35
abbrev N_law_bare : List Str := ["script", "circuit", "net"]
theorem sc_law_bare : FnScope N_law_bare ["script", "circuit"] (defScope s_law_bare) := ⟨rfl, rfl, rfl, by decide +kernel, rfl, by decide +kernel, by decide +kernel⟩
abbrev s_law : Stmt := topS 36
abbrev N_law : List Str := ["script", "circuit", "parts", "plain", "hidden", "net", "value", "due", "case", "actual", "flaw"]
theorem sc_law : FnScope N_law ["script"] (defScope s_law) := ⟨rfl, rfl, rfl, by decide +kernel, rfl, by decide +kernel, by decide +kernel⟩
/-! ### what each def computes -/
def m_GatesError : Str → Option Bool := fun n => if n = S "NoSuchThing" then some true else if n = S "TooLarge" then some true else none
def is_NoSuchThing : Str → Option Bool := fun n => if n = S "NoSuchThing" then some true else if n = S "TooLarge" then some false else none
def tab_CONSTANTS : List (Str × Option D) := [(S "tie0", some (.int 0)), (S "tie1", some (.int 1)), (S "not", none), (S "nand2", none), (S "nand3", none), (S "nor2", none), (S "nor3", none)]
def kd_MOST_CASES : D := (.int 64)
def kd_NANDS : D := (.tuple [(.str (S "not")), (.str (S "nand2")), (.str (S "nand3"))])
def ce_cell_value_1 : Ev → Out D := (fV (o2 dEq (oF (fN 2)) (oF (fC (.int 1)))))
def ce_cell_value_2 : Ev → Out D := (fV (o2 dEq (oF (fN 2)) (oF (fC (.int 1)))))
def fb_cell_value : Ev → SO := (sSeq (sIf (bF (fIn false tab_CONSTANTS (oF (fN 0))))
  (sRet (vF (fGet tab_CONSTANTS (oF (fN 0)))))
  sNx)
  (sSeq (sIf (bV (o2 dIn (oF (fN 0)) (oF (fC kd_NANDS))))
  (sRet (fB dIntV (osC (oF (fNot (fV (fB dAll (osC (oF (fV (vComp [2] (iLT (fN 1)) (gN 2) bYes ce_cell_value_1))) osN))))) osN)))
  sNx)
  (sRet (fB dIntV (osC (oF (fNot (fV (fB dAny (osC (oF (fV (vComp [2] (iLT (fN 1)) (gN 2) bYes ce_cell_value_2))) osN))))) osN)))))
def F_cell_value : List D → Res := runD 3 2 fb_cell_value
def ce_latch_cells_1 : Ev → Out D := (fN 1)
def cc_latch_cells_1 : Ev → Out Bool := (bV (o2 dEq (oF (fV (o2 dAt (oF (fN 1)) (oF (fC (.int 0)))))) (oF (fC (.str (S "latch"))))))
def fb_latch_cells : Ev → SO := (sRet (vComp [1] (iLT (fV (o2 dAt (oF (fN 0)) (oF (fC (.int 1)))))) (gN 1) cc_latch_cells_1 ce_latch_cells_1))
def F_latch_cells : List D → Res := runD 2 1 fb_latch_cells
def ce_settled_values_1 : Ev → Out D := (fGet2 (fN 3) (fN 10) (fN 11))
def ce_settled_values_2 : Ev → Out D := (fV (o2 dAt (oB 4) (oF (fN 10))))
def lb_settled_values_1 : Ev → SO := (sSeq (sIf (bV (o2 dEq (oF (fN 6)) (oF (fC (.str (S "latch"))))))
  (sAsg 9 (vF (fMt 5 mPop (fsC (fC (.int 0)) fsN))))
  (sAsg 9 (vF (fV (fCall 2 F_cell_value (fsC (fN 6) (fsC (fV (vComp [10] (iLT (fN 7)) (gN 10) bYes ce_settled_values_2)) fsN)))))))
  (sExp (fMt 4 mAppend (fsC (fGet2 (fN 3) (fN 8) (fN 9)) fsN))))
def fb_settled_values : Ev → SO := (sSeq (sAsg 4 (vComp [10, 11] (iEn (fsC (fN 1) fsN)) (gT (gsC (gN 10) (gsC (gN 11) gsN))) bYes ce_settled_values_1))
  (sSeq (sAsg 5 (fB dListOf (osC (oF (fN 2)) osN)))
  (sSeq (sFor (iLT (fV (o2 dAt (oF (fN 0)) (oF (fC (.int 1)))))) (gT (gsC (gN 6) (gsC (gN 7) (gsC (gN 8) gsN))))
  lb_settled_values_1)
  (sRet (vMv 4)))))
def F_settled_values : List D → Res := runD 12 4 fb_settled_values
def fb_bit_count : Ev → SO := (sRet (o2 dAdd (oF (fV (o2 dAt (oF (fN 0)) (oF (fC (.int 0)))))) (oF (fV (fB dLen (osC (oF (fV (fCall 1 F_latch_cells (fsC (fN 0) fsN)))) osN))))))
def F_bit_count : List D → Res := runD 1 1 fb_bit_count
def fb_case_count : Ev → SO := (sRet (o2 dShl (oF (fC (.int 1))) (oF (fV (fCall 1 F_bit_count (fsC (fN 0) fsN))))))
def F_case_count : List D → Res := runD 1 1 fb_case_count
def ce_case_bits_1 : Ev → Out D := (fV (o2 dAnd (oF (fV (o2 dShr (oF (fN 1)) (oF (fN 3))))) (oF (fC (.int 1)))))
def fb_case_bits : Ev → SO := (sSeq (sIf (bNot (bF (vCh dLe dLt (oF (fC (.int 0))) (oF (fN 1)) (oF (fV (fCall 1 F_case_count (fsC (fN 0) fsN)))))))
  (sRaise ⟨(S "NoSuchThing"), []⟩)
  sNx)
  (sSeq (sFz 2 (sAsg 2 (vComp [3] (iR1 (fsC (fV (fCall 1 F_bit_count (fsC (fN 0) fsN))) fsN)) (gN 3) bYes ce_case_bits_1)))
  (sRet (vF (fTup (fsC (fV (vCut (oF (fN 2)) fPN (fPS (fV (o2 dAt (oF (fN 0)) (oF (fC (.int 0)))))))) (fsC (fV (vCut (oF (fN 2)) (fPS (fV (o2 dAt (oF (fN 0)) (oF (fC (.int 0)))))) fPN)) fsN)))))))
def F_case_bits : List D → Res := runD 4 2 fb_case_bits
def fb_check_flaw : Ev → SO := (sIf (bOr (bNot (bF (vCh dLe dLt (oF (fC (.int 0))) (oF (fV (o2 dAt (oF (fN 1)) (oF (fC (.int 0)))))) (oF (fV (o2 dAdd (oF (fV (o2 dAt (oF (fN 0)) (oF (fC (.int 0)))))) (oF (fV (fB dLen (osC (oF (fV (o2 dAt (oF (fN 0)) (oF (fC (.int 1)))))) osN)))))))))) (bV (o2 dNin (oF (fV (o2 dAt (oF (fN 1)) (oF (fC (.int 1)))))) (oF (fTup (fsC (fC (.int 0)) (fsC (fC (.int 1)) fsN)))))))
  (sRaise ⟨(S "NoSuchThing"), []⟩)
  sNx)
def F_check_flaw : List D → Res := runD 2 2 fb_check_flaw
def ce_answers_1 : Ev → Out D := (fV (o2 dAt (oF (fV (o2 dAt (oF (fN 8)) (oF (fC (.int 1)))))) (oF (fC (.int 0)))))
def ce_answers_2 : Ev → Out D := (fV (o2 dAt (oF (fN 5)) (oF (fN 7))))
def fb_answers : Ev → SO := (sSeq (sTgt (gT (gsC (gN 3) (gsC (gN 4) gsN))) (fV (fCall 2 F_case_bits (fsC (fN 0) (fsC (fN 1) fsN)))))
  (sSeq (sAsg 5 (vF (fV (fCall 4 F_settled_values (fsC (fN 0) (fsC (fN 3) (fsC (fN 4) (fsC (fN 2) fsN))))))))
  (sSeq (sAsg 6 (vF (fV (o2 dAdd (oF (fV (fB dListOf (osC (oF (fV (o2 dAt (oF (fN 0)) (oF (fC (.int 2)))))) osN)))) (oF (fV (vComp [8] (iLT (fV (fCall 1 F_latch_cells (fsC (fN 0) fsN)))) (gN 8) bYes ce_answers_1)))))))
  (sRet (vComp [7] (iLT (fN 6)) (gN 7) bYes ce_answers_2)))))
def F_answers : List D → Res := runD 9 3 fb_answers
def fb_shows : Ev → SO := (sSeq (sExp (fV (fCall 2 F_check_flaw (fsC (fN 0) (fsC (fN 1) fsN)))))
  (sRet (o2 dNe (oF (fV (fCall 3 F_answers (fsC (fN 0) (fsC (fN 2) (fsC (fV (vDct1 (fV (o2 dAt (oF (fN 1)) (oF (fC (.int 0))))) (fV (o2 dAt (oF (fN 1)) (oF (fC (.int 1))))))) fsN)))))) (oF (fV (fCall 3 F_answers (fsC (fN 0) (fsC (fN 2) (fsC fDct0 fsN)))))))))
def F_shows : List D → Res := runD 3 3 fb_shows
def fb_check_size : Ev → SO := (sIf (bV (o2 dGt (oF (fV (fCall 1 F_case_count (fsC (fN 0) fsN)))) (oF (fC kd_MOST_CASES))))
  (sRaise ⟨(S "TooLarge"), []⟩)
  sNx)
def F_check_size : List D → Res := runD 1 1 fb_check_size
def ce_all_flaws_1 : Ev → Out D := (fTup (fsC (fN 1) (fsC (fN 2) fsN)))
def ci_all_flaws_1 : Ev → Out (List D) := (iLT (fTup (fsC (fC (.int 0)) (fsC (fC (.int 1)) fsN))))
def fb_all_flaws : Ev → SO := (sRet (vComp2 [1, 2] (iR1 (fsC (fV (o2 dAdd (oF (fV (o2 dAt (oF (fN 0)) (oF (fC (.int 0)))))) (oF (fV (fB dLen (osC (oF (fV (o2 dAt (oF (fN 0)) (oF (fC (.int 1)))))) osN)))))) fsN)) (gN 1) bYes ci_all_flaws_1 [2] (gN 2) bYes ce_all_flaws_1))
def F_all_flaws : List D → Res := runD 3 1 fb_all_flaws
def lb_first_case_1 : Ev → SO := (sIf (bO (oF (fV (fCall 3 F_shows (fsC (fN 0) (fsC (fN 1) (fsC (fN 2) fsN)))))))
  (sRet (vF (fN 2)))
  sNx)
def fb_first_case : Ev → SO := (sSeq (sExp (fV (fCall 1 F_check_size (fsC (fN 0) fsN))))
  (sSeq (sExp (fV (fCall 2 F_check_flaw (fsC (fN 0) (fsC (fN 1) fsN)))))
  (sSeq (sFor (iR1 (fsC (fV (fCall 1 F_case_count (fsC (fN 0) fsN))) fsN)) (gN 2)
  lb_first_case_1)
  (sRet (vF (fC .none))))))
def F_first_case : List D → Res := runD 3 2 fb_first_case
def ce_hidden_flaws_1 : Ev → Out D := (fN 1)
def cc_hidden_flaws_1 : Ev → Out Bool := (bV (o2 dIs (oF (fV (fCall 2 F_first_case (fsC (fN 0) (fsC (fN 1) fsN))))) (oF (fC .none))))
def fb_hidden_flaws : Ev → SO := (sSeq (sExp (fV (fCall 1 F_check_size (fsC (fN 0) fsN))))
  (sRet (vComp [1] (iLT (fV (fCall 1 F_all_flaws (fsC (fN 0) fsN)))) (gN 1) cc_hidden_flaws_1 ce_hidden_flaws_1)))
def F_hidden_flaws : List D → Res := runD 2 1 fb_hidden_flaws
def fb_law_cell : Ev → SO := (sSeq (sIf (bV (o2 dLt (oF (fN 1)) (oF (fV (fB dLen (osC (oF (fN 0)) osN))))))
  (sRet (o2 dAt (oF (fN 0)) (oF (fN 1))))
  sNx)
  (sRet (vF (fC (.int 0)))))
def F_law_cell : List D → Res := runD 2 2 fb_law_cell
def lb_law_parts_1 : Ev → SO := (sIf (bV (o2 dGe (oF (fN 3)) (oF (fC (.int 0)))))
  (sSeq (sExp (fMt 2 mAppend (fsC (fV (o2 dMod (oF (fV (fB dIntV (osC (oF (fN 3)) osN)))) (oF (fV (o2 dAt (oF (fN 1)) (oF (fN 4))))))) fsN)))
  (sAsg 3 (vF (fV (o2 dDiv (oF (fN 3)) (oF (fV (o2 dAt (oF (fN 1)) (oF (fN 4))))))))))
  (sSeq (sAsg 5 (vF (fV (o2 dMod (oF (fV (fB dIntV (osC (oF (fV (o2 dAdd (oF (fV (o2 dAdd (oF (fV (o2 dMul (oF (fN 0)) (oF (fC (.int 48271)))))) (oF (fV (o2 dMul (oF (fN 4)) (oF (fC (.int 69621))))))))) (oF (fC (.int 11)))))) osN)))) (oF (fC (.int 2147483647)))))))
  (sSeq (sAsg 5 (vF (fV (o2 dMod (oF (fV (fB dIntV (osC (oF (fV (o2 dAdd (oF (fV (o2 dAdd (oF (fV (o2 dMul (oF (fN 5)) (oF (fN 5))))) (oF (fV (o2 dMul (oF (fC (.int 16807))) (oF (fN 4)))))))) (oF (fC (.int 5)))))) osN)))) (oF (fC (.int 998244353)))))))
  (sExp (fMt 2 mAppend (fsC (fV (o2 dMod (oF (fV (fB dIntV (osC (oF (fN 5)) osN)))) (oF (fV (o2 dAt (oF (fN 1)) (oF (fN 4))))))) fsN))))))
def fb_law_parts : Ev → SO := (sSeq (sAsg 2 (fLst fsN))
  (sSeq (sAsg 3 (vF (fV (o2 dSub (oF (fN 0)) (oF (fV (o2 dPow (oF (fC (.int 10))) (oF (fC (.int 18))))))))))
  (sSeq (sFor (iR1 (fsC (fV (fB dLen (osC (oF (fN 1)) osN))) fsN)) (gN 4)
  lb_law_parts_1)
  (sRet (vMv 2)))))
def F_law_parts : List D → Res := runD 6 2 fb_law_parts
def fb_law_is_integer : Ev → SO := (sRet (vAnd (fIsi "int" (oF (fN 0))) (vF (fNot (fIsi "bool" (oF (fN 0)))))))
def F_law_is_integer : List D → Res := runD 1 1 fb_law_is_integer
def fb_law_kind : Ev → SO := (sSeq (sAsg 3 (vF (fV (fLst (fsC (fC (.str (S "not"))) (fsC (fC (.str (S "not"))) (fsC (fC (.str (S "nand2"))) (fsC (fC (.str (S "nand2"))) (fsC (fC (.str (S "nand2"))) (fsC (fC (.str (S "nand3"))) (fsC (fC (.str (S "nand3"))) (fsC (fC (.str (S "nor2"))) (fsC (fC (.str (S "nor2"))) (fsC (fC (.str (S "nor2"))) (fsC (fC (.str (S "nor3"))) (fsC (fC (.str (S "nor3"))) fsN))))))))))))))))
  (sSeq (sAsg 4 (vF (fV (o2 dAt (oF (fV (o2 dAdd (oF (fN 3)) (oF (fV (fLst (fsC (fC (.str (S "latch"))) (fsC (fC (.str (S "latch"))) (fsC (fC (.str (S "tie0"))) (fsC (fC (.str (S "tie1"))) fsN)))))))))) (oF (fV (o2 dAt (oF (fN 0)) (oF (fC (.int 0))))))))))
  (sSeq (sIf (bAnd (bV (o2 dEq (oF (fN 4)) (oF (fC (.str (S "latch")))))) (bV (o2 dEq (oF (fN 2)) (oF (fC (.int 2))))))
  (sAsg 4 (vF (fC (.str (S "not")))))
  sNx)
  (sSeq (sIf (bAnd (bV (o2 dEq (oF (fN 1)) (oF (fC (.int 0))))) (bV (o2 dNe (oF (fN 4)) (oF (fC (.str (S "latch")))))))
  (sRet (o2 dAt (oF (fV (fLst (fsC (fC (.str (S "tie0"))) (fsC (fC (.str (S "tie1"))) fsN))))) (oF (fV (o2 dMod (oF (fV (fB dIntV (osC (oF (fV (o2 dAt (oF (fN 0)) (oF (fC (.int 1)))))) osN)))) (oF (fC (.int 2))))))))
  sNx)
  (sSeq (sIf (bAnd (bV (o2 dIn (oF (fN 4)) (oF (fV (fLst (fsC (fC (.str (S "nand2"))) (fsC (fC (.str (S "nor2"))) (fsC (fC (.str (S "nand3"))) (fsC (fC (.str (S "nor3"))) fsN))))))))) (bV (o2 dLt (oF (fN 1)) (oF (fV (fB dIntV (osC (oF (fV (o2 dAt (oF (fN 4)) (oF (fNeg (fC (.int 1))))))) osN)))))))
  (sRet (o2 dAt (oF (fV (fLst (fsC (fC (.str (S "not"))) (fsC (fC (.str (S "nand2"))) fsN))))) (oF (fV (o2 dSub (oF (fN 1)) (oF (fC (.int 1))))))))
  sNx)
  (sRet (vF (fN 4))))))))
def F_law_kind : List D → Res := runD 5 3 fb_law_kind
def lb_law_drawn_1 : Ev → SO := (sExp (fMt 4 mAppend (fsC (fMt 3 mPop (fsC (fV (o2 dMod (oF (fV (fB dIntV (osC (oF (fV (o2 dAt (oF (fN 0)) (oF (fV (o2 dAdd (oF (fC (.int 1))) (oF (fN 5)))))))) osN)))) (oF (fV (fB dLen (osC (oB 3) osN)))))) fsN)) fsN)))
def fb_law_drawn : Ev → SO := (sSeq (sAsg 3 (vLR1 (fN 2)))
  (sSeq (sAsg 4 (fLst fsN))
  (sSeq (sFor (iR1 (fsC (fN 1) fsN)) (gN 5)
  lb_law_drawn_1)
  (sRet (fB dTupOf (osC (oB 4) osN))))))
def F_law_drawn : List D → Res := runD 6 3 fb_law_drawn
def lb_law_circuit_1 : Ev → SO := (sSeq (sAsg 7 (vF (fV (fCall 2 F_law_parts (fsC (fV (fCall 2 F_law_cell (fsC (fN 0) (fsC (fV (o2 dSub (oF (fV (o2 dAdd (oF (fC (.int 3))) (oF (fN 6))))) (oF (fV (o2 dAt (oF (fN 2)) (oF (fC (.int 0)))))))) fsN)))) (fsC (fV (fLst (fsC (fC (.int 16)) (fsC (fC (.int 100)) (fsC (fC (.int 100)) (fsC (fC (.int 100)) fsN)))))) fsN))))))
  (sSeq (sAsg 8 (vF (fV (fCall 3 F_law_kind (fsC (fN 7) (fsC (fN 6) (fsC (fN 4) fsN)))))))
  (sIf (bV (o2 dEq (oF (fN 8)) (oF (fC (.str (S "latch"))))))
  (sSeq (sAsg 4 (vF (fV (o2 dAdd (oF (fN 4)) (oF (fC (.int 1)))))))
  (sExp (fMt 3 mAppend (fsC (fTup (fsC (fN 8) (fsC (fV (fCall 3 F_law_drawn (fsC (fN 7) (fsC (fC (.int 1)) (fsC (fN 5) fsN))))) (fsC (fN 6) fsN)))) fsN))))
  (sIf (bV (o2 dIn (oF (fN 8)) (oF (fV (fLst (fsC (fC (.str (S "tie0"))) (fsC (fC (.str (S "tie1"))) fsN)))))))
  (sExp (fMt 3 mAppend (fsC (fTup (fsC (fN 8) (fsC (fTup fsN) (fsC (fN 6) fsN)))) fsN)))
  (sIf (bV (o2 dEq (oF (fN 8)) (oF (fC (.str (S "not"))))))
  (sExp (fMt 3 mAppend (fsC (fTup (fsC (fN 8) (fsC (fV (fCall 3 F_law_drawn (fsC (fN 7) (fsC (fC (.int 1)) (fsC (fN 6) fsN))))) (fsC (fN 6) fsN)))) fsN)))
  (sExp (fMt 3 mAppend (fsC (fTup (fsC (fN 8) (fsC (fV (fCall 3 F_law_drawn (fsC (fN 7) (fsC (fV (fB dIntV (osC (oF (fV (o2 dAt (oF (fN 8)) (oF (fNeg (fC (.int 1))))))) osN))) (fsC (fN 6) fsN))))) (fsC (fN 6) fsN)))) fsN))))))))
def ce_law_circuit_1 : Ev → Out D := (fV (o2 dMod (oF (fV (fB dIntV (osC (oF (fV (o2 dAdd (oF (fV (o2 dAt (oF (fN 2)) (oF (fC (.int 2)))))) (oF (fV (o2 dMul (oF (fN 10)) (oF (fV (o2 dAt (oF (fN 2)) (oF (fC (.int 3)))))))))))) osN)))) (oF (fN 5))))
def ce_law_circuit_2 : Ev → Out D := (fV (o2 dMod (oF (fV (fB dIntV (osC (oF (fV (o2 dAdd (oF (fV (o2 dAt (oF (fN 2)) (oF (fC (.int 2)))))) (oF (fN 10))))) osN)))) (oF (fC (.int 4)))))
def fb_law_circuit : Ev → SO := (sSeq (sAsg 2 (vF (fV (fCall 2 F_law_parts (fsC (fV (fCall 2 F_law_cell (fsC (fN 0) (fsC (fC (.int 0)) fsN)))) (fsC (fV (fLst (fsC (fC (.int 4)) (fsC (fC (.int 6)) (fsC (fC (.int 100)) (fsC (fC (.int 100)) fsN)))))) fsN))))))
  (sSeq (sAsg 3 (fLst fsN))
  (sSeq (sAsg 4 (vF (fC (.int 0))))
  (sSeq (sAsg 5 (vF (fV (o2 dAdd (oF (fV (o2 dAt (oF (fN 2)) (oF (fC (.int 0)))))) (oF (fV (fB dMin (osC (oF (fN 1)) (osC (oF (fV (fB dMax (osC (oF (fC (.int 1))) (osC (oF (fV (o2 dSub (oF (fV (fB dLen (osC (oF (fN 0)) osN)))) (oF (fC (.int 3)))))) osN))))) osN)))))))))
  (sSeq (sFor (iR2 (fsC (fV (o2 dAt (oF (fN 2)) (oF (fC (.int 0))))) (fsC (fN 5) fsN))) (gN 6)
  lb_law_circuit_1)
  (sSeq (sAsg 9 (vF (fV (fB dTupOf (osC (oF (fV (vComp [10] (iR1 (fsC (fV (o2 dAdd (oF (fC (.int 1))) (oF (fV (o2 dAt (oF (fN 2)) (oF (fC (.int 1)))))))) fsN)) (gN 10) bYes ce_law_circuit_1))) osN)))))
  (sRet (vF (fTup (fsC (fV (o2 dAt (oF (fN 2)) (oF (fC (.int 0))))) (fsC (fV (fB dTupOf (osC (oB 3) osN))) (fsC (fN 9) (fsC (fV (fB dTupOf (osC (oF (fV (vComp [10] (iR1 (fsC (fN 4) fsN)) (gN 10) bYes ce_law_circuit_2))) osN))) fsN)))))))))))))
def F_law_circuit : List D → Res := runD 11 2 fb_law_circuit
def fb_law_value : Ev → SO := (sSeq (sIf (bV (o2 dEq (oF (fV (vCut (oF (fN 0)) fPN (fPS (fC (.int 3)))))) (oF (fC (.str (S "tie"))))))
  (sRet (fB dIntV (osC (oF (fV (o2 dAt (oF (fN 0)) (oF (fC (.int 3)))))) osN)))
  sNx)
  (sSeq (sIf (bV (o2 dEq (oF (fV (vCut (oF (fN 0)) fPN (fPS (fC (.int 3)))))) (oF (fC (.str (S "nor"))))))
  (sRet (fB dIntV (osC (oF (fV (o2 dEq (oF (fV (fB dSum (osC (oF (fN 1)) osN)))) (oF (fC (.int 0)))))) osN)))
  sNx)
  (sRet (fB dIntV (osC (oF (fV (o2 dLt (oF (fV (fB dSum (osC (oF (fN 1)) osN)))) (oF (fV (fB dLen (osC (oF (fN 1)) osN))))))) osN)))))
def F_law_value : List D → Res := runD 2 2 fb_law_value
def lb_law_answers_1 : Ev → SO := (sExp (fMt 4 mAppend (fsC (fV (o2 dSub (oF (fV (o2 dDiv (oF (fN 1)) (oF (fV (o2 dAt (oF (fV (fLst (fsC (fC (.int 1)) (fsC (fC (.int 2)) (fsC (fC (.int 4)) (fsC (fC (.int 8)) (fsC (fC (.int 16)) (fsC (fC (.int 32)) (fsC (fC (.int 64)) fsN)))))))))) (oF (fN 6)))))))) (oF (fV (o2 dMul (oF (fV (o2 dDiv (oF (fN 1)) (oF (fV (o2 dAt (oF (fV (fLst (fsC (fC (.int 2)) (fsC (fC (.int 4)) (fsC (fC (.int 8)) (fsC (fC (.int 16)) (fsC (fC (.int 32)) (fsC (fC (.int 64)) (fsC (fC (.int 128)) fsN)))))))))) (oF (fN 6)))))))) (oF (fC (.int 2)))))))) fsN)))
def ce_law_answers_1 : Ev → Out D := (fV (o2 dAt (oB 4) (oF (fN 10))))
def lb_law_answers_2 : Ev → SO := (sSeq (sIf (bV (o2 dEq (oF (fV (o2 dAt (oF (fN 7)) (oF (fC (.int 0)))))) (oF (fC (.str (S "latch"))))))
  (sSeq (sExp (fMt 4 mAppend (fsC (fV (o2 dSub (oF (fV (o2 dDiv (oF (fN 1)) (oF (fV (o2 dAt (oF (fV (fLst (fsC (fC (.int 1)) (fsC (fC (.int 2)) (fsC (fC (.int 4)) (fsC (fC (.int 8)) (fsC (fC (.int 16)) (fsC (fC (.int 32)) (fsC (fC (.int 64)) fsN)))))))))) (oF (fN 5)))))))) (oF (fV (o2 dMul (oF (fV (o2 dDiv (oF (fN 1)) (oF (fV (o2 dAt (oF (fV (fLst (fsC (fC (.int 2)) (fsC (fC (.int 4)) (fsC (fC (.int 8)) (fsC (fC (.int 16)) (fsC (fC (.int 32)) (fsC (fC (.int 64)) (fsC (fC (.int 128)) fsN)))))))))) (oF (fN 5)))))))) (oF (fC (.int 2)))))))) fsN)))
  (sAsg 5 (vF (fV (o2 dAdd (oF (fN 5)) (oF (fC (.int 1))))))))
  (sExp (fMt 4 mAppend (fsC (fV (fCall 2 F_law_value (fsC (fV (o2 dAt (oF (fN 7)) (oF (fC (.int 0))))) (fsC (fV (vComp [10] (iLT (fV (o2 dAt (oF (fN 7)) (oF (fC (.int 1)))))) (gN 10) bYes ce_law_answers_1)) fsN)))) fsN))))
  (sIf (bV (o2 dEq (oF (fV (o2 dAt (oF (fN 7)) (oF (fC (.int 2)))))) (oF (fN 2))))
  (sSet 4 (fN 3) (fN 2))
  sNx))
def ce_law_answers_2 : Ev → Out D := (fV (o2 dAt (oF (fV (o2 dAt (oF (fN 7)) (oF (fC (.int 1)))))) (oF (fC (.int 0)))))
def cc_law_answers_1 : Ev → Out Bool := (bV (o2 dEq (oF (fV (o2 dAt (oF (fN 7)) (oF (fC (.int 0)))))) (oF (fC (.str (S "latch"))))))
def ce_law_answers_3 : Ev → Out D := (fV (o2 dAt (oB 4) (oF (fN 9))))
def fb_law_answers : Ev → SO := (sSeq (sAsg 4 (fLst fsN))
  (sSeq (sAsg 5 (vF (fV (o2 dAt (oF (fN 0)) (oF (fC (.int 0)))))))
  (sSeq (sFor (iR1 (fsC (fN 5) fsN)) (gN 6)
  lb_law_answers_1)
  (sSeq (sIf (bAnd (bV (o2 dGe (oF (fN 2)) (oF (fC (.int 0))))) (bV (o2 dLt (oF (fN 2)) (oF (fN 5)))))
  (sSet 4 (fN 3) (fN 2))
  sNx)
  (sSeq (sFor (iLT (fV (o2 dAt (oF (fN 0)) (oF (fC (.int 1)))))) (gN 7)
  lb_law_answers_2)
  (sSeq (sAsg 8 (vF (fV (o2 dAdd (oF (fV (fB dListOf (osC (oF (fV (o2 dAt (oF (fN 0)) (oF (fC (.int 2)))))) osN)))) (oF (fV (vComp [7] (iLT (fV (o2 dAt (oF (fN 0)) (oF (fC (.int 1)))))) (gN 7) cc_law_answers_1 ce_law_answers_2)))))))
  (sRet (vComp [9] (iLT (fN 8)) (gN 9) bYes ce_law_answers_3))))))))
def F_law_answers : List D → Res := runD 11 4 fb_law_answers
def ce_law_cases_1 : Ev → Out D := (fC (.int 1))
def cc_law_cases_1 : Ev → Out Bool := (bV (o2 dEq (oF (fV (o2 dAt (oF (fN 3)) (oF (fC (.int 0)))))) (oF (fC (.str (S "latch"))))))
def lb_law_cases_1 : Ev → SO := (sAsg 1 (vF (fV (o2 dMul (oF (fN 1)) (oF (fC (.int 2)))))))
def fb_law_cases : Ev → SO := (sSeq (sAsg 1 (vF (fC (.int 1))))
  (sSeq (sFor (iR1 (fsC (fV (o2 dAdd (oF (fV (o2 dAt (oF (fN 0)) (oF (fC (.int 0)))))) (oF (fV (fB dLen (osC (oF (fV (vComp [3] (iLT (fV (o2 dAt (oF (fN 0)) (oF (fC (.int 1)))))) (gN 3) cc_law_cases_1 ce_law_cases_1))) osN)))))) fsN)) (gN 2)
  lb_law_cases_1)
  (sRet (vF (fN 1)))))
def F_law_cases : List D → Res := runD 4 1 fb_law_cases
def hs_law_refuses_1 : Addr → Exc → Ev → SO := fun ea ex => (sRet (vF (fIsX 2 is_NoSuchThing ea ex)))
theorem hp_hs_law_refuses_1 : ∀ (a : Addr) (e : Exc) (Γ : Ev), sClr 2 (hs_law_refuses_1 a e (Γ.set 2 (some (.z, rawD a)))) = sClr 2 (hs_law_refuses_1 0 e (Γ.set 2 (some (.z, rawD 0)))) := by
  intro a e Γ
  unfold hs_law_refuses_1
  cases h_NoSuchThing : is_NoSuchThing e.c <;> by_cases h : 2 < Γ.length <;> simp [fIsX, rawS, rawD, sRet, sAsg, sSeq, sIf, sExp, vF, fV, vAnd, vOr, fNot, o2, oF, fB, osC, osN, sB, Out.bind, Out.of, sClr, List.set_set, h, h_NoSuchThing]
def fb_law_refuses : Ev → SO := (sSeq (sTryA m_GatesError 2
  (sExp (fV (fCall 2 F_first_case (fsC (fN 0) (fsC (fN 1) fsN)))))
  hs_law_refuses_1)
  (sRet (vF (fC (.bool false)))))
def F_law_refuses : List D → Res := runD 3 2 fb_law_refuses
def ce_law_bare_1 : Ev → Out D := (fV (o2 dMod (oF (fV (fB dIntV (osC (oF (fN 2)) osN)))) (oF (fV (o2 dAt (oF (fN 1)) (oF (fC (.int 0))))))))
def fb_law_bare : Ev → SO := (sSeq (sIf (bOr (bV (o2 dEq (oF (fV (o2 dAt (oF (fN 1)) (oF (fC (.int 0)))))) (oF (fC (.int 0))))) (bV (o2 dNe (oF (fV (o2 dMod (oF (fV (fB dIntV (osC (oF (fV (fCall 2 F_law_cell (fsC (fN 0) (fsC (fC (.int 2)) fsN))))) osN)))) (oF (fC (.int 8)))))) (oF (fC (.int 5))))))
  (sRet (vF (fN 1)))
  sNx)
  (sRet (vF (fTup (fsC (fV (o2 dAt (oF (fN 1)) (oF (fC (.int 0))))) (fsC (fTup fsN) (fsC (fV (fB dTupOf (osC (oF (fV (vComp [2] (iLT (fV (o2 dAt (oF (fN 1)) (oF (fC (.int 2)))))) (gN 2) bYes ce_law_bare_1))) osN))) (fsC (fTup fsN) fsN))))))))
def F_law_bare : List D → Res := runD 3 2 fb_law_bare
def ce_law_1 : Ev → Out D := (fV (fCall 4 F_law_answers (fsC (fN 1) (fsC (fN 8) (fsC (fNeg (fC (.int 1))) (fsC (fC (.int 0)) fsN))))))
def lb_law_1 : Ev → SO := (sIf (bAnd (bV (o2 dIs (oF (fN 7)) (oF (fC .none)))) (bV (o2 dNe (oF (fV (fCall 4 F_law_answers (fsC (fN 1) (fsC (fN 8) (fsC (fN 5) (fsC (fN 6) fsN))))))) (oF (fV (o2 dAt (oF (fN 3)) (oF (fN 8))))))))
  (sAsg 7 (vF (fN 8)))
  sNx)
def lb_law_2 : Ev → SO := (sSeq (sAsg 7 (vF (fC .none)))
  (sSeq (sFor (iR1 (fsC (fV (fB dLen (osC (oF (fN 3)) osN))) fsN)) (gN 8)
  lb_law_1)
  (sSeq (sAsg 9 (vF (fV (fCall 2 F_first_case (fsC (fN 1) (fsC (fTup (fsC (fN 5) (fsC (fN 6) fsN))) fsN))))))
  (sIf (bV (o2 dIs (oF (fN 7)) (oF (fC .none))))
  (sSeq (sExp (fMt 4 mAppend (fsC (fTup (fsC (fN 5) (fsC (fN 6) fsN))) fsN)))
  (sIf (bV (o2 dIsnt (oF (fN 9)) (oF (fC .none))))
  (sRet (vF (fC (.bool false))))
  sNx))
  (sIf (bOr (bNot (bO (oF (fV (fCall 1 F_law_is_integer (fsC (fN 9) fsN)))))) (bV (o2 dNe (oF (fN 9)) (oF (fN 7)))))
  (sRet (vF (fC (.bool false))))
  sNx)))))
def lb_law_3 : Ev → SO := (sFor (iR1 (fsC (fC (.int 2)) fsN)) (gN 6)
  lb_law_2)
def lb_law_4 : Ev → SO := (sIf (bOr (bNot (bO (oF (fIsi "tuple" (oF (fN 10)))))) (bOr (bNot (bO (oF (fV (fCall 1 F_law_is_integer (fsC (fV (o2 dAt (oF (fN 10)) (oF (fC (.int 0))))) fsN)))))) (bNot (bO (oF (fV (fCall 1 F_law_is_integer (fsC (fV (o2 dAt (oF (fN 10)) (oF (fC (.int 1))))) fsN))))))))
  (sRet (vF (fC (.bool false))))
  sNx)
def fb_law : Ev → SO := (sSeq (sAsg 1 (vF (fV (fCall 2 F_law_bare (fsC (fN 0) (fsC (fV (fCall 2 F_law_circuit (fsC (fN 0) (fsC (fC (.int 8)) fsN)))) fsN))))))
  (sSeq (sAsg 2 (vF (fV (fCall 2 F_law_parts (fsC (fV (fCall 2 F_law_cell (fsC (fN 0) (fsC (fC (.int 1)) fsN)))) (fsC (fV (fLst (fsC (fC (.int 2)) (fsC (fC (.int 50)) fsN)))) fsN))))))
  (sSeq (sFz 3 (sAsg 3 (vComp [8] (iR1 (fsC (fV (fCall 1 F_law_cases (fsC (fN 1) fsN))) fsN)) (gN 8) bYes ce_law_1)))
  (sSeq (sAsg 4 (fLst fsN))
  (sSeq (sFor (iR1 (fsC (fV (o2 dAdd (oF (fV (o2 dAt (oF (fN 1)) (oF (fC (.int 0)))))) (oF (fV (fB dLen (osC (oF (fV (o2 dAt (oF (fN 1)) (oF (fC (.int 1)))))) osN)))))) fsN)) (gN 5)
  lb_law_3)
  (sSeq (sAsg 9 (vF (fV (fCall 1 F_hidden_flaws (fsC (fN 1) fsN)))))
  (sSeq (sIf (bOr (bNot (bO (oF (fIsi "list" (oF (fN 9)))))) (bV (o2 dNe (oF (fN 9)) (oB 4))))
  (sRet (vF (fC (.bool false))))
  sNx)
  (sSeq (sFor (iLT (fN 9)) (gN 10)
  lb_law_4)
  (sSeq (sIf (bV (o2 dEq (oF (fV (o2 dAt (oF (fN 2)) (oF (fC (.int 0)))))) (oF (fC (.int 0)))))
  (sRet (fCall 2 F_law_refuses (fsC (fN 1) (fsC (fTup (fsC (fV (o2 dAdd (oF (fV (o2 dAdd (oF (fV (o2 dAt (oF (fN 1)) (oF (fC (.int 0)))))) (oF (fV (fB dLen (osC (oF (fV (o2 dAt (oF (fN 1)) (oF (fC (.int 1)))))) osN))))))) (oF (fV (o2 dAt (oF (fN 2)) (oF (fC (.int 1)))))))) (fsC (fC (.int 0)) fsN))) fsN))))
  sNx)
  (sSeq (sIf (bNot (bO (oF (fV (fCall 2 F_law_refuses (fsC (fN 1) (fsC (fTup (fsC (fC (.int 0)) (fsC (fV (o2 dSub (oF (fNeg (fC (.int 1)))) (oF (fV (o2 dAt (oF (fN 2)) (oF (fC (.int 1)))))))) fsN))) fsN)))))))
  (sRet (vF (fC (.bool false))))
  sNx)
  (sRet (vAnd (fV (fCall 2 F_law_refuses (fsC (fN 1) (fsC (fTup (fsC (fC (.int 0)) (fsC (fV (o2 dAdd (oF (fC (.int 2))) (oF (fV (o2 dAt (oF (fN 2)) (oF (fC (.int 1)))))))) fsN))) fsN)))) (fCall 2 F_law_refuses (fsC (fN 1) (fsC (fTup (fsC (fV (o2 dSub (oF (fNeg (fC (.int 1)))) (oF (fV (o2 dAt (oF (fN 2)) (oF (fC (.int 1)))))))) (fsC (fC (.int 1)) fsN))) fsN)))))))))))))))
def F_law : List D → Res := runD 11 1 fb_law
/-! ### what the top has left -/
structure Tx (K : PySem.W.Frag) (mg : Str → Option Value) (w : World) where
  f_cell_value : Addr
  fd_cell_value : FuncData
  f_latch_cells : Addr
  fd_latch_cells : FuncData
  f_settled_values : Addr
  fd_settled_values : FuncData
  f_bit_count : Addr
  fd_bit_count : FuncData
  f_case_count : Addr
  fd_case_count : FuncData
  f_case_bits : Addr
  fd_case_bits : FuncData
  f_check_flaw : Addr
  fd_check_flaw : FuncData
  f_answers : Addr
  fd_answers : FuncData
  f_shows : Addr
  fd_shows : FuncData
  f_check_size : Addr
  fd_check_size : FuncData
  f_all_flaws : Addr
  fd_all_flaws : FuncData
  f_first_case : Addr
  fd_first_case : FuncData
  f_hidden_flaws : Addr
  fd_hidden_flaws : FuncData
  f_law_cell : Addr
  fd_law_cell : FuncData
  f_law_parts : Addr
  fd_law_parts : FuncData
  f_law_is_integer : Addr
  fd_law_is_integer : FuncData
  f_law_kind : Addr
  fd_law_kind : FuncData
  f_law_drawn : Addr
  fd_law_drawn : FuncData
  f_law_circuit : Addr
  fd_law_circuit : FuncData
  f_law_value : Addr
  fd_law_value : FuncData
  f_law_answers : Addr
  fd_law_answers : FuncData
  f_law_cases : Addr
  fd_law_cases : FuncData
  f_law_refuses : Addr
  fd_law_refuses : FuncData
  f_law_bare : Addr
  fd_law_bare : FuncData
  f_law : Addr
  fd_law : FuncData
  c_GatesError : Addr
  c_NoSuchThing : Addr
  c_TooLarge : Addr
  a_CONSTANTS : Addr
  a_MOST_CASES : V
  u_MOST_CASES : Value
  a_NANDS : V
  u_NANDS : Value
  F_cell_value : Fun K "cell_value" "cell_value" s_cell_value f_cell_value fd_cell_value
  g_cell_value : mg "cell_value" = some (.ref f_cell_value)
  kp_cell_value : PySem.W.keepIn K (.ref f_cell_value) = true
  b_cell_value : Binds K fd_cell_value ["kind", "values"] []
  F_latch_cells : Fun K "latch_cells" "latch_cells" s_latch_cells f_latch_cells fd_latch_cells
  g_latch_cells : mg "latch_cells" = some (.ref f_latch_cells)
  kp_latch_cells : PySem.W.keepIn K (.ref f_latch_cells) = true
  b_latch_cells : Binds K fd_latch_cells ["circuit"] []
  F_settled_values : Fun K "settled_values" "settled_values" s_settled_values f_settled_values fd_settled_values
  g_settled_values : mg "settled_values" = some (.ref f_settled_values)
  kp_settled_values : PySem.W.keepIn K (.ref f_settled_values) = true
  b_settled_values : Binds K fd_settled_values ["circuit", "inputs", "states", "stuck"] []
  F_bit_count : Fun K "bit_count" "bit_count" s_bit_count f_bit_count fd_bit_count
  g_bit_count : mg "bit_count" = some (.ref f_bit_count)
  kp_bit_count : PySem.W.keepIn K (.ref f_bit_count) = true
  b_bit_count : Binds K fd_bit_count ["circuit"] []
  F_case_count : Fun K "case_count" "case_count" s_case_count f_case_count fd_case_count
  g_case_count : mg "case_count" = some (.ref f_case_count)
  kp_case_count : PySem.W.keepIn K (.ref f_case_count) = true
  b_case_count : Binds K fd_case_count ["circuit"] []
  F_case_bits : Fun K "case_bits" "case_bits" s_case_bits f_case_bits fd_case_bits
  g_case_bits : mg "case_bits" = some (.ref f_case_bits)
  kp_case_bits : PySem.W.keepIn K (.ref f_case_bits) = true
  b_case_bits : Binds K fd_case_bits ["circuit", "case"] []
  F_check_flaw : Fun K "check_flaw" "check_flaw" s_check_flaw f_check_flaw fd_check_flaw
  g_check_flaw : mg "check_flaw" = some (.ref f_check_flaw)
  kp_check_flaw : PySem.W.keepIn K (.ref f_check_flaw) = true
  b_check_flaw : Binds K fd_check_flaw ["circuit", "flaw"] []
  F_answers : Fun K "answers" "answers" s_answers f_answers fd_answers
  g_answers : mg "answers" = some (.ref f_answers)
  kp_answers : PySem.W.keepIn K (.ref f_answers) = true
  b_answers : Binds K fd_answers ["circuit", "case", "stuck"] []
  F_shows : Fun K "shows" "shows" s_shows f_shows fd_shows
  g_shows : mg "shows" = some (.ref f_shows)
  kp_shows : PySem.W.keepIn K (.ref f_shows) = true
  b_shows : Binds K fd_shows ["circuit", "flaw", "case"] []
  F_check_size : Fun K "check_size" "check_size" s_check_size f_check_size fd_check_size
  g_check_size : mg "check_size" = some (.ref f_check_size)
  kp_check_size : PySem.W.keepIn K (.ref f_check_size) = true
  b_check_size : Binds K fd_check_size ["circuit"] []
  F_all_flaws : Fun K "all_flaws" "all_flaws" s_all_flaws f_all_flaws fd_all_flaws
  g_all_flaws : mg "all_flaws" = some (.ref f_all_flaws)
  kp_all_flaws : PySem.W.keepIn K (.ref f_all_flaws) = true
  b_all_flaws : Binds K fd_all_flaws ["circuit"] []
  F_first_case : Fun K "first_case" "first_case" s_first_case f_first_case fd_first_case
  g_first_case : mg "first_case" = some (.ref f_first_case)
  kp_first_case : PySem.W.keepIn K (.ref f_first_case) = true
  b_first_case : Binds K fd_first_case ["circuit", "flaw"] []
  F_hidden_flaws : Fun K "hidden_flaws" "hidden_flaws" s_hidden_flaws f_hidden_flaws fd_hidden_flaws
  g_hidden_flaws : mg "hidden_flaws" = some (.ref f_hidden_flaws)
  kp_hidden_flaws : PySem.W.keepIn K (.ref f_hidden_flaws) = true
  b_hidden_flaws : Binds K fd_hidden_flaws ["circuit"] []
  F_law_cell : Fun K "_law_cell" "_law_cell" s_law_cell f_law_cell fd_law_cell
  g_law_cell : mg "_law_cell" = some (.ref f_law_cell)
  kp_law_cell : PySem.W.keepIn K (.ref f_law_cell) = true
  b_law_cell : Binds K fd_law_cell ["script", "k"] []
  F_law_parts : Fun K "_law_parts" "_law_parts" s_law_parts f_law_parts fd_law_parts
  g_law_parts : mg "_law_parts" = some (.ref f_law_parts)
  kp_law_parts : PySem.W.keepIn K (.ref f_law_parts) = true
  b_law_parts : Binds K fd_law_parts ["cell", "sizes"] []
  F_law_is_integer : Fun K "_law_is_integer" "_law_is_integer" s_law_is_integer f_law_is_integer fd_law_is_integer
  g_law_is_integer : mg "_law_is_integer" = some (.ref f_law_is_integer)
  kp_law_is_integer : PySem.W.keepIn K (.ref f_law_is_integer) = true
  b_law_is_integer : Binds K fd_law_is_integer ["actual"] []
  F_law_kind : Fun K "_law_kind" "_law_kind" s_law_kind f_law_kind fd_law_kind
  g_law_kind : mg "_law_kind" = some (.ref f_law_kind)
  kp_law_kind : PySem.W.keepIn K (.ref f_law_kind) = true
  b_law_kind : Binds K fd_law_kind ["parts", "nets", "latches"] []
  F_law_drawn : Fun K "_law_drawn" "_law_drawn" s_law_drawn f_law_drawn fd_law_drawn
  g_law_drawn : mg "_law_drawn" = some (.ref f_law_drawn)
  kp_law_drawn : PySem.W.keepIn K (.ref f_law_drawn) = true
  b_law_drawn : Binds K fd_law_drawn ["parts", "count", "nets"] []
  F_law_circuit : Fun K "_law_circuit" "_law_circuit" s_law_circuit f_law_circuit fd_law_circuit
  g_law_circuit : mg "_law_circuit" = some (.ref f_law_circuit)
  kp_law_circuit : PySem.W.keepIn K (.ref f_law_circuit) = true
  b_law_circuit : Binds K fd_law_circuit ["script", "most"] []
  F_law_value : Fun K "_law_value" "_law_value" s_law_value f_law_value fd_law_value
  g_law_value : mg "_law_value" = some (.ref f_law_value)
  kp_law_value : PySem.W.keepIn K (.ref f_law_value) = true
  b_law_value : Binds K fd_law_value ["kind", "bits"] []
  F_law_answers : Fun K "_law_answers" "_law_answers" s_law_answers f_law_answers fd_law_answers
  g_law_answers : mg "_law_answers" = some (.ref f_law_answers)
  kp_law_answers : PySem.W.keepIn K (.ref f_law_answers) = true
  b_law_answers : Binds K fd_law_answers ["circuit", "case", "net", "value"] []
  F_law_cases : Fun K "_law_cases" "_law_cases" s_law_cases f_law_cases fd_law_cases
  g_law_cases : mg "_law_cases" = some (.ref f_law_cases)
  kp_law_cases : PySem.W.keepIn K (.ref f_law_cases) = true
  b_law_cases : Binds K fd_law_cases ["circuit"] []
  F_law_refuses : Fun K "_law_refuses" "_law_refuses" s_law_refuses f_law_refuses fd_law_refuses
  g_law_refuses : mg "_law_refuses" = some (.ref f_law_refuses)
  kp_law_refuses : PySem.W.keepIn K (.ref f_law_refuses) = true
  b_law_refuses : Binds K fd_law_refuses ["circuit", "flaw"] []
  F_law_bare : Fun K "_law_bare" "_law_bare" s_law_bare f_law_bare fd_law_bare
  g_law_bare : mg "_law_bare" = some (.ref f_law_bare)
  kp_law_bare : PySem.W.keepIn K (.ref f_law_bare) = true
  b_law_bare : Binds K fd_law_bare ["script", "circuit"] []
  F_law : Fun K "law" "law" s_law f_law fd_law
  g_law : mg "law" = some (.ref f_law)
  kp_law : PySem.W.keepIn K (.ref f_law) = true
  b_law : Binds K fd_law ["script"] []
  m_all : mg "all" = none
  m_any : mg "any" = none
  m_bool : mg "bool" = none
  m_enumerate : mg "enumerate" = none
  m_int : mg "int" = none
  m_isinstance : mg "isinstance" = none
  m_len : mg "len" = none
  m_list : mg "list" = none
  m_max : mg "max" = none
  m_min : mg "min" = none
  m_range : mg "range" = none
  m_sum : mg "sum" = none
  m_tuple : mg "tuple" = none
  g_GatesError : mg "GatesError" = some (.ref c_GatesError)
  kp_GatesError : PySem.W.keepIn K (.ref c_GatesError) = true
  sb_GatesError : PySem.W.subIn K (.ref c_GatesError) (.type "BaseException") = some true
  ty_GatesError : PySem.W.typeIn K (.ref c_GatesError) = some (.type "type")
  g_NoSuchThing : mg "NoSuchThing" = some (.ref c_NoSuchThing)
  x_NoSuchThing : PySem.W.excIn K c_NoSuchThing [.type "ValueError", .type "Exception", .type "BaseException", .type "object"] "ValueError.__new__" = true
  kp_NoSuchThing : PySem.W.keepIn K (.ref c_NoSuchThing) = true
  sb_NoSuchThing : PySem.W.subIn K (.ref c_NoSuchThing) (.type "BaseException") = some true
  ty_NoSuchThing : PySem.W.typeIn K (.ref c_NoSuchThing) = some (.type "type")
  g_TooLarge : mg "TooLarge" = some (.ref c_TooLarge)
  x_TooLarge : PySem.W.excIn K c_TooLarge [.type "ValueError", .type "Exception", .type "BaseException", .type "object"] "ValueError.__new__" = true
  kp_TooLarge : PySem.W.keepIn K (.ref c_TooLarge) = true
  sb_TooLarge : PySem.W.subIn K (.ref c_TooLarge) (.type "BaseException") = some true
  ty_TooLarge : PySem.W.typeIn K (.ref c_TooLarge) = some (.type "type")
  em_GatesError_NoSuchThing : PySem.W.exmOne K (.ref c_NoSuchThing) (.ref c_GatesError) = some true
  em_GatesError_TooLarge : PySem.W.exmOne K (.ref c_TooLarge) (.ref c_GatesError) = some true
  ki_NoSuchThing_NoSuchThing : PySem.W.kitOne K (.ref c_NoSuchThing) (.ref c_NoSuchThing) = some true
  ki_NoSuchThing_TooLarge : PySem.W.kitOne K (.ref c_TooLarge) (.ref c_NoSuchThing) = some false
  xc_NoSuchThing : ExcC K c_NoSuchThing
  xc_TooLarge : ExcC K c_TooLarge
  g_CONSTANTS : mg "CONSTANTS" = some (.ref a_CONSTANTS)
  t_CONSTANTS : KTab K w a_CONSTANTS tab_CONSTANTS
  g_MOST_CASES : mg "MOST_CASES" = some u_MOST_CASES
  r_MOST_CASES : RelV a_MOST_CASES u_MOST_CASES
  k_MOST_CASES : KD K a_MOST_CASES kd_MOST_CASES
  g_NANDS : mg "NANDS" = some u_NANDS
  r_NANDS : RelV a_NANDS u_NANDS
  k_NANDS : KD K a_NANDS kd_NANDS
section
variable {P : Program} {w : World} {K : PySem.W.Frag} {mg : Str → Option Value} {base : Heap}
theorem Tx.ex_GatesError (T : Tx K mg w) : ∀ n b cls, m_GatesError n = some b → mg n = some cls → PySem.W.exmOne K cls (.ref T.c_GatesError) = some b := fun n b cls h h2 => by
  unfold m_GatesError at h
  split at h
  · rename_i e
    cases h
    subst e
    rw [show mg (S "NoSuchThing") = some (.ref T.c_NoSuchThing) from T.g_NoSuchThing] at h2
    cases h2
    exact T.em_GatesError_NoSuchThing
  ·
    split at h
    · rename_i e
      cases h
      subst e
      rw [show mg (S "TooLarge") = some (.ref T.c_TooLarge) from T.g_TooLarge] at h2
      cases h2
      exact T.em_GatesError_TooLarge
    ·
      cases h
theorem Tx.cr_GatesError (T : Tx K mg w) : ∀ n cls, m_GatesError n = some true → mg n = some cls → ∃ D0, cls = .ref D0 := fun n cls h h2 => by
  unfold m_GatesError at h
  split at h
  · rename_i e
    subst e
    rw [show mg (S "NoSuchThing") = some (.ref T.c_NoSuchThing) from T.g_NoSuchThing] at h2
    cases h2
    exact ⟨_, rfl⟩
  ·
    split at h
    · rename_i e
      subst e
      rw [show mg (S "TooLarge") = some (.ref T.c_TooLarge) from T.g_TooLarge] at h2
      cases h2
      exact ⟨_, rfl⟩
    ·
      cases h
theorem Tx.isx_NoSuchThing (T : Tx K mg w) : ∀ c b D0, is_NoSuchThing c = some b → mg c = some (.ref D0) → ExcC K D0 ∧ PySem.W.kitOne K (.ref D0) (.ref T.c_NoSuchThing) = some b := fun n b D0 h h2 => by
  unfold is_NoSuchThing at h
  split at h
  · rename_i e
    cases h
    subst e
    rw [show mg (S "NoSuchThing") = some (.ref T.c_NoSuchThing) from T.g_NoSuchThing] at h2
    cases h2
    exact ⟨T.xc_NoSuchThing, T.ki_NoSuchThing_NoSuchThing⟩
  ·
    split at h
    · rename_i e
      cases h
      subst e
      rw [show mg (S "TooLarge") = some (.ref T.c_TooLarge) from T.g_TooLarge] at h2
      cases h2
      exact ⟨T.xc_TooLarge, T.ki_NoSuchThing_TooLarge⟩
    ·
      cases h
theorem ok_cell_value (T : Tx K mg w) : FnOk P w K mg base (L2.CX P w) 1 T.f_cell_value T.fd_cell_value ["kind", "values"] (spV K mg 2 F_cell_value) := fn_ok T.F_cell_value sc_cell_value fun cdv A outer s H E W hr tk pw =>
  (pss_c (ps_i (pb_kin T.t_CONSTANTS (pz_f (pf_n 0)) (by rfl) T.g_CONSTANTS)
  (pss_1 (ps_r (pv_f (pf_kget T.t_CONSTANTS (pz_f (pf_n 0)) (fun _ _ => rfl) (by rfl) T.g_CONSTANTS))))
  pss_n)
  (pss_c (ps_i (pb_cmp op_inV ops_in (pz_f (pf_n 0)) (pz_f (pf_gl (by rfl) T.g_NANDS T.r_NANDS T.k_NANDS)) (by rfl))
  (pss_1 (ps_r (pv_callTy call_intV cs_intV (by rfl) T.m_int (by decide +kernel) (pzs_c (pz_f (pf_not (pf_v (pv_callB (cr_all rfl) cs_all (by rfl) T.m_all (by decide +kernel) (pzs_c (pz_f (pf_v (pv_lc (own := [("value", 2)]) rfl sc_cell_value.nd (blkOk_by (own := [("value", 2)]) (N := N_cell_value) (sc := defScope s_cell_value) (by decide +kernel)) (pi_lt (pf_n 1)) (fun _ _ _ _ _ => (pg_n 2 (by decide) sc_cell_value.nd rfl (by first | exact .inl rfl | exact .inr rfl) (by first | exact .inl rfl | exact .inr rfl))) (fun _ _ _ _ _ => pbs_n) (fun _ _ _ _ _ => (pf_v (pv_cmp (op_eqV (hU hr)) ops_eq (pz_f (pf_n 2)) (pz_f pf_int) (nomark _))))))) pzs_n))))) pzs_n))))
  pss_n)
  (pss_1 (ps_r (pv_callTy call_intV cs_intV (by rfl) T.m_int (by decide +kernel) (pzs_c (pz_f (pf_not (pf_v (pv_callB (cr_any rfl) cs_any (by rfl) T.m_any (by decide +kernel) (pzs_c (pz_f (pf_v (pv_lc (own := [("value", 2)]) rfl sc_cell_value.nd (blkOk_by (own := [("value", 2)]) (N := N_cell_value) (sc := defScope s_cell_value) (by decide +kernel)) (pi_lt (pf_n 1)) (fun _ _ _ _ _ => (pg_n 2 (by decide) sc_cell_value.nd rfl (by first | exact .inl rfl | exact .inr rfl) (by first | exact .inl rfl | exact .inr rfl))) (fun _ _ _ _ _ => pbs_n) (fun _ _ _ _ _ => (pf_v (pv_cmp (op_eqV (hU hr)) ops_eq (pz_f (pf_n 2)) (pz_f pf_int) (nomark _))))))) pzs_n))))) pzs_n))))))
theorem ok_latch_cells (T : Tx K mg w) : FnOk P w K mg base (L2.CX P w) 1 T.f_latch_cells T.fd_latch_cells ["circuit"] (spV K mg 1 F_latch_cells) := fn_ok T.F_latch_cells sc_latch_cells fun cdv A outer s H E W hr tk pw =>
  (pss_1 (ps_r (pv_lc (own := [("cell", 1)]) rfl sc_latch_cells.nd (blkOk_by (own := [("cell", 1)]) (N := N_latch_cells) (sc := defScope s_latch_cells) (by decide +kernel)) (pi_lt (pf_v (pv_ix ix_seq ops_at (pz_f (pf_n 0)) (pz_f pf_int) (fun _ _ => rfl)))) (fun _ _ _ _ _ => (pg_n 1 (by decide) sc_latch_cells.nd rfl (by first | exact .inl rfl | exact .inr rfl) (by first | exact .inl rfl | exact .inr rfl))) (fun _ _ _ _ _ => (pbs_1 (pb_cmp (op_eqV (hU hr)) ops_eq (pz_f (pf_v (pv_ix ix_seq ops_at (pz_f (pf_n 1)) (pz_f pf_int) (fun _ _ => rfl)))) (pz_f pf_str) (nomark _)))) (fun _ _ _ _ _ => (pf_n 1)))))
theorem ok_settled_values (T : Tx K mg w) : FnOk P w K mg base (L2.CX P w) 2 T.f_settled_values T.fd_settled_values ["circuit", "inputs", "states", "stuck"] (spV K mg 4 F_settled_values) := fn_ok T.F_settled_values sc_settled_values fun cdv A outer s H E W hr tk pw =>
  (pss_c (ps_a 4 sc_settled_values.nd rfl (by first | exact .inl rfl | exact .inr rfl) (pv_lc (own := [("net", 10), ("bit", 11)]) rfl sc_settled_values.nd (blkOk_by (own := [("net", 10), ("bit", 11)]) (N := N_settled_values) (sc := defScope s_settled_values) (by decide +kernel)) (pi_en (by rfl) T.m_enumerate (pfs_c (pf_n 1) pfs_n)) (fun _ _ _ _ _ => (pg_t rfl (pgs_c (pg_n 10 (by decide) sc_settled_values.nd rfl (by first | exact .inl rfl | exact .inr rfl) (by first | exact .inl rfl | exact .inr rfl)) (pgs_c (pg_n 11 (by decide) sc_settled_values.nd rfl (by first | exact .inl rfl | exact .inr rfl) (by first | exact .inl rfl | exact .inr rfl)) pgs_n)))) (fun _ _ _ _ _ => pbs_n) (fun _ _ _ _ _ => (pf_get2 (hU1 hr) (pf_n 3) (pf_n 10) (pf_n 11) ⟨rfl, rfl, rfl, rfl⟩))))
  (pss_c (ps_a 5 sc_settled_values.nd rfl (by first | exact .inl rfl | exact .inr rfl) (pv_callTy call_list_of cs_list (by rfl) T.m_list (by decide +kernel) (pzs_c (pz_f (pf_n 2)) pzs_n)))
  (pss_c (ps_f (is := [6, 7, 8]) pw rfl (pi_lt (pf_v (pv_ix ix_seq ops_at (pz_f (pf_n 0)) (pz_f pf_int) (fun _ _ => rfl)))) (pg_t rfl (pgs_c (pg_n 6 (by decide) sc_settled_values.nd rfl (by first | exact .inl rfl | exact .inr rfl) (by first | exact .inl rfl | exact .inr rfl)) (pgs_c (pg_n 7 (by decide) sc_settled_values.nd rfl (by first | exact .inl rfl | exact .inr rfl) (by first | exact .inl rfl | exact .inr rfl)) (pgs_c (pg_n 8 (by decide) sc_settled_values.nd rfl (by first | exact .inl rfl | exact .inr rfl) (by first | exact .inl rfl | exact .inr rfl)) pgs_n))))
  (pss_c (ps_i (pb_cmp (op_eqV (hU hr)) ops_eq (pz_f (pf_n 6)) (pz_f pf_str) (nomark _))
  (pss_1 (ps_a 9 sc_settled_values.nd rfl (by first | exact .inl rfl | exact .inr rfl) (pv_f (pf_mt 5 PySem.F.plainAttrs_list PySem.F.slot_list_pop PySem.F.type_list_pop mt_popAt ms_pop (pfs_c pf_int pfs_n)))))
  (pss_1 (ps_a 9 sc_settled_values.nd rfl (by first | exact .inl rfl | exact .inr rfl) (pv_f (pf_v (pv_call (ok_cell_value T) (hr.mono (by decide)) (by rfl) T.g_cell_value T.kp_cell_value T.b_cell_value tk (pfs_c (pf_n 6) (pfs_c (pf_v (pv_lc (own := [("net", 10)]) rfl sc_settled_values.nd (blkOk_by (own := [("net", 10)]) (N := N_settled_values) (sc := defScope s_settled_values) (by decide +kernel)) (pi_lt (pf_n 7)) (fun _ _ _ _ _ => (pg_n 10 (by decide) sc_settled_values.nd rfl (by first | exact .inl rfl | exact .inr rfl) (by first | exact .inl rfl | exact .inr rfl))) (fun _ _ _ _ _ => pbs_n) (fun _ _ _ _ _ => (pf_v (pv_ix ix_seq ops_at (pz_b 4) (pz_f (pf_n 10)) (fun _ _ => rfl)))))) pfs_n))))))))
  (pss_1 (ps_x (pf_mt 4 PySem.F.plainAttrs_list PySem.F.slot_list_append PySem.F.type_list_append mt_append ms_append (pfs_c (pf_get2 (hU1 hr) (pf_n 3) (pf_n 8) (pf_n 9) ⟨rfl, rfl, rfl, rfl⟩) pfs_n))))))
  (pss_1 (ps_r (pv_mv 4))))))
theorem ok_bit_count (T : Tx K mg w) : FnOk P w K mg base (L2.CX P w) 2 T.f_bit_count T.fd_bit_count ["circuit"] (spV K mg 1 F_bit_count) := fn_ok T.F_bit_count sc_bit_count fun cdv A outer s H E W hr tk pw =>
  (pss_1 (ps_r (pv_bin op_addV ops_add (pz_f (pf_v (pv_ix ix_seq ops_at (pz_f (pf_n 0)) (pz_f pf_int) (fun _ _ => rfl)))) (pz_f (pf_v (pv_callB call_lenV cs_len (by rfl) T.m_len (by decide +kernel) (pzs_c (pz_f (pf_v (pv_call (ok_latch_cells T) (hr.mono (by decide)) (by rfl) T.g_latch_cells T.kp_latch_cells T.b_latch_cells tk (pfs_c (pf_n 0) pfs_n)))) pzs_n)))))))
theorem ok_case_count (T : Tx K mg w) : FnOk P w K mg base (L2.CX P w) 3 T.f_case_count T.fd_case_count ["circuit"] (spV K mg 1 F_case_count) := fn_ok T.F_case_count sc_case_count fun cdv A outer s H E W hr tk pw =>
  (pss_1 (ps_r (pv_bin op_shl ops_shl (pz_f pf_int) (pz_f (pf_v (pv_call (ok_bit_count T) (hr.mono (by decide)) (by rfl) T.g_bit_count T.kp_bit_count T.b_bit_count tk (pfs_c (pf_n 0) pfs_n)))))))
theorem ok_case_bits (T : Tx K mg w) : FnOk P w K mg base (L2.CX P w) 4 T.f_case_bits T.fd_case_bits ["circuit", "case"] (spV K mg 2 F_case_bits) := fn_ok T.F_case_bits sc_case_bits fun cdv A outer s H E W hr tk pw =>
  (pss_c (ps_i (pb_not (pb_ch op_le ops_le op_ltV ops_lt (pz_f pf_int) (pz_f (pf_n 1)) (pz_f (pf_v (pv_call (ok_case_count T) (hr.mono (by decide)) (by rfl) T.g_case_count T.kp_case_count T.b_case_count tk (pfs_c (pf_n 0) pfs_n))))))
  (pss_1 (ps_rs rfl tk PySem.F.excBase_ValueError T.x_NoSuchThing T.g_NoSuchThing T.kp_NoSuchThing (raises_own T.sb_NoSuchThing T.ty_NoSuchThing) (by rfl)))
  pss_n)
  (pss_c (ps_fz 2 (ps_lc 2 (own := [("k", 3)]) rfl sc_case_bits.nd (blkOk_by (own := [("k", 3)]) (N := N_case_bits) (sc := defScope s_case_bits) (by decide +kernel)) rfl rfl (sw_true rfl rfl rfl (by decide +kernel)) (pi_r1 (by rfl) T.m_range (pfs_c (pf_v (pv_call (ok_bit_count T) (hr.mono (by decide)) (by rfl) T.g_bit_count T.kp_bit_count T.b_bit_count tk (pfs_c (pf_n 0) pfs_n))) pfs_n)) (fun _ _ _ _ _ => (pg_n 3 (by decide) sc_case_bits.nd rfl (by first | exact .inl rfl | exact .inr rfl) (by first | exact .inl rfl | exact .inr rfl))) (fun _ _ _ _ _ => pbs_n) (fun _ _ _ _ _ => (pf_v (pv_bin op_and ops_and (pz_f (pf_v (pv_bin op_shr ops_shr (pz_f (pf_n 1)) (pz_f (pf_n 3))))) (pz_f pf_int))))))
  (pss_1 (ps_r (pv_f (pf_tup (pfs_c (pf_v (pv_cut (pz_f (pf_n 2)) pp_n (pp_s (pf_v (pv_ix ix_seq ops_at (pz_f (pf_n 0)) (pz_f pf_int) (fun _ _ => rfl)))))) (pfs_c (pf_v (pv_cut (pz_f (pf_n 2)) (pp_s (pf_v (pv_ix ix_seq ops_at (pz_f (pf_n 0)) (pz_f pf_int) (fun _ _ => rfl)))) pp_n)) pfs_n))))))))
theorem ok_check_flaw (T : Tx K mg w) : FnOk P w K mg base (L2.CX P w) 1 T.f_check_flaw T.fd_check_flaw ["circuit", "flaw"] (spV K mg 2 F_check_flaw) := fn_ok T.F_check_flaw sc_check_flaw fun cdv A outer s H E W hr tk pw =>
  (pss_1 (ps_i (pb_w (pw_o (pb_not (pb_ch op_le ops_le op_ltV ops_lt (pz_f pf_int) (pz_f (pf_v (pv_ix ix_seq ops_at (pz_f (pf_n 1)) (pz_f pf_int) (fun _ _ => rfl)))) (pz_f (pf_v (pv_bin op_addV ops_add (pz_f (pf_v (pv_ix ix_seq ops_at (pz_f (pf_n 0)) (pz_f pf_int) (fun _ _ => rfl)))) (pz_f (pf_v (pv_callB call_lenV cs_len (by rfl) T.m_len (by decide +kernel) (pzs_c (pz_f (pf_v (pv_ix ix_seq ops_at (pz_f (pf_n 0)) (pz_f pf_int) (fun _ _ => rfl)))) pzs_n))))))))) (pw_o1 (pb_cmp op_ninV ops_nin (pz_f (pf_v (pv_ix ix_seq ops_at (pz_f (pf_n 1)) (pz_f pf_int) (fun _ _ => rfl)))) (pz_f (pf_tup (pfs_c pf_int (pfs_c pf_int pfs_n)))) (by rfl)))))
  (pss_1 (ps_rs rfl tk PySem.F.excBase_ValueError T.x_NoSuchThing T.g_NoSuchThing T.kp_NoSuchThing (raises_own T.sb_NoSuchThing T.ty_NoSuchThing) (by rfl)))
  pss_n))
theorem ok_answers (T : Tx K mg w) : FnOk P w K mg base (L2.CX P w) 5 T.f_answers T.fd_answers ["circuit", "case", "stuck"] (spV K mg 3 F_answers) := fn_ok T.F_answers sc_answers fun cdv A outer s H E W hr tk pw =>
  (pss_c (ps_t (is := [3, 4]) (pf_v (pv_call (ok_case_bits T) (hr.mono (by decide)) (by rfl) T.g_case_bits T.kp_case_bits T.b_case_bits tk (pfs_c (pf_n 0) (pfs_c (pf_n 1) pfs_n)))) (pg_t rfl (pgs_c (pg_n 3 (by decide) sc_answers.nd rfl (by first | exact .inl rfl | exact .inr rfl) (by first | exact .inl rfl | exact .inr rfl)) (pgs_c (pg_n 4 (by decide) sc_answers.nd rfl (by first | exact .inl rfl | exact .inr rfl) (by first | exact .inl rfl | exact .inr rfl)) pgs_n))))
  (pss_c (ps_a 5 sc_answers.nd rfl (by first | exact .inl rfl | exact .inr rfl) (pv_f (pf_v (pv_call (ok_settled_values T) (hr.mono (by decide)) (by rfl) T.g_settled_values T.kp_settled_values T.b_settled_values tk (pfs_c (pf_n 0) (pfs_c (pf_n 3) (pfs_c (pf_n 4) (pfs_c (pf_n 2) pfs_n))))))))
  (pss_c (ps_a 6 sc_answers.nd rfl (by first | exact .inl rfl | exact .inr rfl) (pv_f (pf_v (pv_bin op_addV ops_add (pz_f (pf_v (pv_callTy call_list_of cs_list (by rfl) T.m_list (by decide +kernel) (pzs_c (pz_f (pf_v (pv_ix ix_seq ops_at (pz_f (pf_n 0)) (pz_f pf_int) (fun _ _ => rfl)))) pzs_n)))) (pz_f (pf_v (pv_lc (own := [("cell", 8)]) rfl sc_answers.nd (blkOk_by (own := [("cell", 8)]) (N := N_answers) (sc := defScope s_answers) (by decide +kernel)) (pi_lt (pf_v (pv_call (ok_latch_cells T) (hr.mono (by decide)) (by rfl) T.g_latch_cells T.kp_latch_cells T.b_latch_cells tk (pfs_c (pf_n 0) pfs_n)))) (fun _ _ _ _ _ => (pg_n 8 (by decide) sc_answers.nd rfl (by first | exact .inl rfl | exact .inr rfl) (by first | exact .inl rfl | exact .inr rfl))) (fun _ _ _ _ _ => pbs_n) (fun _ _ _ _ _ => (pf_v (pv_ix ix_seq ops_at (pz_f (pf_v (pv_ix ix_seq ops_at (pz_f (pf_n 8)) (pz_f pf_int) (fun _ _ => rfl)))) (pz_f pf_int) (fun _ _ => rfl)))))))))))
  (pss_1 (ps_r (pv_lc (own := [("net", 7)]) rfl sc_answers.nd (blkOk_by (own := [("net", 7)]) (N := N_answers) (sc := defScope s_answers) (by decide +kernel)) (pi_lt (pf_n 6)) (fun _ _ _ _ _ => (pg_n 7 (by decide) sc_answers.nd rfl (by first | exact .inl rfl | exact .inr rfl) (by first | exact .inl rfl | exact .inr rfl))) (fun _ _ _ _ _ => pbs_n) (fun _ _ _ _ _ => (pf_v (pv_ix ix_seq ops_at (pz_f (pf_n 5)) (pz_f (pf_n 7)) (fun _ _ => rfl))))))))))
theorem ok_shows (T : Tx K mg w) : FnOk P w K mg base (L2.CX P w) 6 T.f_shows T.fd_shows ["circuit", "flaw", "case"] (spV K mg 3 F_shows) := fn_ok T.F_shows sc_shows fun cdv A outer s H E W hr tk pw =>
  (pss_c (ps_x (pf_v (pv_call (ok_check_flaw T) (hr.mono (by decide)) (by rfl) T.g_check_flaw T.kp_check_flaw T.b_check_flaw tk (pfs_c (pf_n 0) (pfs_c (pf_n 1) pfs_n)))))
  (pss_1 (ps_r (pv_cmp (op_neV (hU hr)) ops_ne (pz_f (pf_v (pv_call (ok_answers T) (hr.mono (by decide)) (by rfl) T.g_answers T.kp_answers T.b_answers tk (pfs_c (pf_n 0) (pfs_c (pf_n 2) (pfs_c (pf_v (pv_dct1 (pf_v (pv_ix ix_seq ops_at (pz_f (pf_n 1)) (pz_f pf_int) (fun _ _ => rfl))) (pf_v (pv_ix ix_seq ops_at (pz_f (pf_n 1)) (pz_f pf_int) (fun _ _ => rfl))))) pfs_n)))))) (pz_f (pf_v (pv_call (ok_answers T) (hr.mono (by decide)) (by rfl) T.g_answers T.kp_answers T.b_answers tk (pfs_c (pf_n 0) (pfs_c (pf_n 2) (pfs_c pf_dct0 pfs_n)))))) (nomark _)))))
theorem ok_check_size (T : Tx K mg w) : FnOk P w K mg base (L2.CX P w) 4 T.f_check_size T.fd_check_size ["circuit"] (spV K mg 1 F_check_size) := fn_ok T.F_check_size sc_check_size fun cdv A outer s H E W hr tk pw =>
  (pss_1 (ps_i (pb_cmp op_gtV ops_gt (pz_f (pf_v (pv_call (ok_case_count T) (hr.mono (by decide)) (by rfl) T.g_case_count T.kp_case_count T.b_case_count tk (pfs_c (pf_n 0) pfs_n)))) (pz_f (pf_gl (by rfl) T.g_MOST_CASES T.r_MOST_CASES T.k_MOST_CASES)) (nomark _))
  (pss_1 (ps_rs rfl tk PySem.F.excBase_ValueError T.x_TooLarge T.g_TooLarge T.kp_TooLarge (raises_own T.sb_TooLarge T.ty_TooLarge) (by rfl)))
  pss_n))
theorem ok_all_flaws (T : Tx K mg w) : FnOk P w K mg base (L2.CX P w) 1 T.f_all_flaws T.fd_all_flaws ["circuit"] (spV K mg 1 F_all_flaws) := fn_ok T.F_all_flaws sc_all_flaws fun cdv A outer s H E W hr tk pw =>
  (pss_1 (ps_r (pv_lc2 (own := [("net", 1), ("value", 2)]) (is1 := [2]) rfl sc_all_flaws.nd (blkOk_by (own := [("net", 1), ("value", 2)]) (N := N_all_flaws) (sc := defScope s_all_flaws) (by decide +kernel)) (pi_r1 (by rfl) T.m_range (pfs_c (pf_v (pv_bin op_addV ops_add (pz_f (pf_v (pv_ix ix_seq ops_at (pz_f (pf_n 0)) (pz_f pf_int) (fun _ _ => rfl)))) (pz_f (pf_v (pv_callB call_lenV cs_len (by rfl) T.m_len (by decide +kernel) (pzs_c (pz_f (pf_v (pv_ix ix_seq ops_at (pz_f (pf_n 0)) (pz_f pf_int) (fun _ _ => rfl)))) pzs_n)))))) pfs_n)) (by decide) (fun _ _ _ _ _ => (pg_n 1 (by decide) sc_all_flaws.nd rfl (by first | exact .inl rfl | exact .inr rfl) (by first | exact .inl rfl | exact .inr rfl))) (fun _ _ _ _ _ => pbs_n) (fun _ _ _ _ _ => (pi_lt (pf_tup (pfs_c pf_int (pfs_c pf_int pfs_n))))) (fun _ _ _ _ _ => (pg_n 2 (by decide) sc_all_flaws.nd rfl (by first | exact .inl rfl | exact .inr rfl) (by first | exact .inl rfl | exact .inr rfl))) (fun _ _ _ _ _ => pbs_n) (fun _ _ _ _ _ => (pf_tup (pfs_c (pf_n 1) (pfs_c (pf_n 2) pfs_n)))))))
theorem ok_first_case (T : Tx K mg w) : FnOk P w K mg base (L2.CX P w) 7 T.f_first_case T.fd_first_case ["circuit", "flaw"] (spV K mg 2 F_first_case) := fn_ok T.F_first_case sc_first_case fun cdv A outer s H E W hr tk pw =>
  (pss_c (ps_x (pf_v (pv_call (ok_check_size T) (hr.mono (by decide)) (by rfl) T.g_check_size T.kp_check_size T.b_check_size tk (pfs_c (pf_n 0) pfs_n))))
  (pss_c (ps_x (pf_v (pv_call (ok_check_flaw T) (hr.mono (by decide)) (by rfl) T.g_check_flaw T.kp_check_flaw T.b_check_flaw tk (pfs_c (pf_n 0) (pfs_c (pf_n 1) pfs_n)))))
  (pss_c (ps_f (is := [2]) pw rfl (pi_r1 (by rfl) T.m_range (pfs_c (pf_v (pv_call (ok_case_count T) (hr.mono (by decide)) (by rfl) T.g_case_count T.kp_case_count T.b_case_count tk (pfs_c (pf_n 0) pfs_n))) pfs_n)) (pg_n 2 (by decide) sc_first_case.nd rfl (by first | exact .inl rfl | exact .inr rfl) (by first | exact .inl rfl | exact .inr rfl))
  (pss_1 (ps_i (pb_o (pz_f (pf_v (pv_call (ok_shows T) (hr.mono (by decide)) (by rfl) T.g_shows T.kp_shows T.b_shows tk (pfs_c (pf_n 0) (pfs_c (pf_n 1) (pfs_c (pf_n 2) pfs_n)))))))
  (pss_1 (ps_r (pv_f (pf_n 2))))
  pss_n)))
  (pss_1 (ps_r (pv_f pf_non))))))
theorem ok_hidden_flaws (T : Tx K mg w) : FnOk P w K mg base (L2.CX P w) 8 T.f_hidden_flaws T.fd_hidden_flaws ["circuit"] (spV K mg 1 F_hidden_flaws) := fn_ok T.F_hidden_flaws sc_hidden_flaws fun cdv A outer s H E W hr tk pw =>
  (pss_c (ps_x (pf_v (pv_call (ok_check_size T) (hr.mono (by decide)) (by rfl) T.g_check_size T.kp_check_size T.b_check_size tk (pfs_c (pf_n 0) pfs_n))))
  (pss_1 (ps_r (pv_lc (own := [("flaw", 1)]) rfl sc_hidden_flaws.nd (blkOk_by (own := [("flaw", 1)]) (N := N_hidden_flaws) (sc := defScope s_hidden_flaws) (by decide +kernel)) (pi_lt (pf_v (pv_call (ok_all_flaws T) (hr.mono (by decide)) (by rfl) T.g_all_flaws T.kp_all_flaws T.b_all_flaws tk (pfs_c (pf_n 0) pfs_n)))) (fun _ _ _ _ _ => (pg_n 1 (by decide) sc_hidden_flaws.nd rfl (by first | exact .inl rfl | exact .inr rfl) (by first | exact .inl rfl | exact .inr rfl))) (fun _ _ _ _ _ => (pbs_1 (pb_cmp op_isV ops_is (pz_f (pf_v (pv_call (ok_first_case T) (hr.mono (by decide)) (by rfl) T.g_first_case T.kp_first_case T.b_first_case takes0 (pfs_c (pf_n 0) (pfs_c (pf_n 1) pfs_n))))) (pz_f pf_non) (nomark _)))) (fun _ _ _ _ _ => (pf_n 1))))))
theorem ok_law_cell (T : Tx K mg w) : FnOk P w K mg base (L2.CX P w) 1 T.f_law_cell T.fd_law_cell ["script", "k"] (spV K mg 2 F_law_cell) := fn_ok T.F_law_cell sc_law_cell fun cdv A outer s H E W hr tk pw =>
  (pss_c (ps_i (pb_cmp op_ltV ops_lt (pz_f (pf_n 1)) (pz_f (pf_v (pv_callB call_lenV cs_len (by rfl) T.m_len (by decide +kernel) (pzs_c (pz_f (pf_n 0)) pzs_n)))) (nomark _))
  (pss_1 (ps_r (pv_ix ix_seq ops_at (pz_f (pf_n 0)) (pz_f (pf_n 1)) (fun _ _ => rfl))))
  pss_n)
  (pss_1 (ps_r (pv_f pf_int))))
theorem ok_law_parts (T : Tx K mg w) : FnOk P w K mg base (L2.CX P w) 1 T.f_law_parts T.fd_law_parts ["cell", "sizes"] (spV K mg 2 F_law_parts) := fn_ok T.F_law_parts sc_law_parts fun cdv A outer s H E W hr tk pw =>
  (pss_c (ps_a 2 sc_law_parts.nd rfl (by first | exact .inl rfl | exact .inr rfl) (pv_lst pfs_n))
  (pss_c (ps_a 3 sc_law_parts.nd rfl (by first | exact .inl rfl | exact .inr rfl) (pv_f (pf_v (pv_bin op_sub ops_sub (pz_f (pf_n 0)) (pz_f (pf_v (pv_bin op_pow ops_pow (pz_f pf_int) (pz_f pf_int))))))))
  (pss_c (ps_f (is := [4]) pw rfl (pi_r1 (by rfl) T.m_range (pfs_c (pf_v (pv_callB call_lenV cs_len (by rfl) T.m_len (by decide +kernel) (pzs_c (pz_f (pf_n 1)) pzs_n))) pfs_n)) (pg_n 4 (by decide) sc_law_parts.nd rfl (by first | exact .inl rfl | exact .inr rfl) (by first | exact .inl rfl | exact .inr rfl))
  (pss_1 (ps_i (pb_cmp op_ge ops_ge (pz_f (pf_n 3)) (pz_f pf_int) (nomark _))
  (pss_c (ps_x (pf_mt 2 PySem.F.plainAttrs_list PySem.F.slot_list_append PySem.F.type_list_append mt_append ms_append (pfs_c (pf_v (pv_bin op_mod ops_mod (pz_f (pf_v (pv_callTy call_intV cs_intV (by rfl) T.m_int (by decide +kernel) (pzs_c (pz_f (pf_n 3)) pzs_n)))) (pz_f (pf_v (pv_ix ix_seq ops_at (pz_f (pf_n 1)) (pz_f (pf_n 4)) (fun _ _ => rfl)))))) pfs_n)))
  (pss_1 (ps_a 3 sc_law_parts.nd rfl (by first | exact .inl rfl | exact .inr rfl) (pv_f (pf_v (pv_bin op_divV ops_div (pz_f (pf_n 3)) (pz_f (pf_v (pv_ix ix_seq ops_at (pz_f (pf_n 1)) (pz_f (pf_n 4)) (fun _ _ => rfl))))))))))
  (pss_c (ps_a 5 sc_law_parts.nd rfl (by first | exact .inl rfl | exact .inr rfl) (pv_f (pf_v (pv_bin op_mod ops_mod (pz_f (pf_v (pv_callTy call_intV cs_intV (by rfl) T.m_int (by decide +kernel) (pzs_c (pz_f (pf_v (pv_bin op_addV ops_add (pz_f (pf_v (pv_bin op_addV ops_add (pz_f (pf_v (pv_bin op_mulV ops_mul (pz_f (pf_n 0)) (pz_f pf_int)))) (pz_f (pf_v (pv_bin op_mulV ops_mul (pz_f (pf_n 4)) (pz_f pf_int))))))) (pz_f pf_int)))) pzs_n)))) (pz_f pf_int)))))
  (pss_c (ps_a 5 sc_law_parts.nd rfl (by first | exact .inl rfl | exact .inr rfl) (pv_f (pf_v (pv_bin op_mod ops_mod (pz_f (pf_v (pv_callTy call_intV cs_intV (by rfl) T.m_int (by decide +kernel) (pzs_c (pz_f (pf_v (pv_bin op_addV ops_add (pz_f (pf_v (pv_bin op_addV ops_add (pz_f (pf_v (pv_bin op_mulV ops_mul (pz_f (pf_n 5)) (pz_f (pf_n 5))))) (pz_f (pf_v (pv_bin op_mulV ops_mul (pz_f pf_int) (pz_f (pf_n 4)))))))) (pz_f pf_int)))) pzs_n)))) (pz_f pf_int)))))
  (pss_1 (ps_x (pf_mt 2 PySem.F.plainAttrs_list PySem.F.slot_list_append PySem.F.type_list_append mt_append ms_append (pfs_c (pf_v (pv_bin op_mod ops_mod (pz_f (pf_v (pv_callTy call_intV cs_intV (by rfl) T.m_int (by decide +kernel) (pzs_c (pz_f (pf_n 5)) pzs_n)))) (pz_f (pf_v (pv_ix ix_seq ops_at (pz_f (pf_n 1)) (pz_f (pf_n 4)) (fun _ _ => rfl)))))) pfs_n)))))))))
  (pss_1 (ps_r (pv_mv 2))))))
theorem ok_law_is_integer (T : Tx K mg w) : FnOk P w K mg base (L2.CX P w) 1 T.f_law_is_integer T.fd_law_is_integer ["actual"] (spV K mg 1 F_law_is_integer) := fn_ok T.F_law_is_integer sc_law_is_integer fun cdv A outer s H E W hr tk pw =>
  (pss_1 (ps_r (pv_and (pf_isi (by rfl) T.m_isinstance (by decide +kernel) (pz_f (pf_n 0)) (by rfl) T.m_int (by decide +kernel) (fun t h => kit_ty (kit_int t h))) (pv_one (pv_f (pf_not (pf_isi (by rfl) T.m_isinstance (by decide +kernel) (pz_f (pf_n 0)) (by rfl) T.m_bool (by decide +kernel) (fun t h => kit_ty (kit_bool t h)))))))))
theorem ok_law_kind (T : Tx K mg w) : FnOk P w K mg base (L2.CX P w) 1 T.f_law_kind T.fd_law_kind ["parts", "nets", "latches"] (spV K mg 3 F_law_kind) := fn_ok T.F_law_kind sc_law_kind fun cdv A outer s H E W hr tk pw =>
  (pss_c (ps_a 3 sc_law_kind.nd rfl (by first | exact .inl rfl | exact .inr rfl) (pv_f (pf_v (pv_lst (pfs_c pf_str (pfs_c pf_str (pfs_c pf_str (pfs_c pf_str (pfs_c pf_str (pfs_c pf_str (pfs_c pf_str (pfs_c pf_str (pfs_c pf_str (pfs_c pf_str (pfs_c pf_str (pfs_c pf_str pfs_n))))))))))))))))
  (pss_c (ps_a 4 sc_law_kind.nd rfl (by first | exact .inl rfl | exact .inr rfl) (pv_f (pf_v (pv_ix ix_seq ops_at (pz_f (pf_v (pv_bin op_addV ops_add (pz_f (pf_n 3)) (pz_f (pf_v (pv_lst (pfs_c pf_str (pfs_c pf_str (pfs_c pf_str (pfs_c pf_str pfs_n)))))))))) (pz_f (pf_v (pv_ix ix_seq ops_at (pz_f (pf_n 0)) (pz_f pf_int) (fun _ _ => rfl)))) (fun _ _ => rfl)))))
  (pss_c (ps_i (pb_w (pw_a (pb_cmp (op_eqV (hU hr)) ops_eq (pz_f (pf_n 4)) (pz_f pf_str) (nomark _)) (pw_a1 (pb_cmp (op_eqV (hU hr)) ops_eq (pz_f (pf_n 2)) (pz_f pf_int) (nomark _)))))
  (pss_1 (ps_a 4 sc_law_kind.nd rfl (by first | exact .inl rfl | exact .inr rfl) (pv_f pf_str)))
  pss_n)
  (pss_c (ps_i (pb_w (pw_a (pb_cmp (op_eqV (hU hr)) ops_eq (pz_f (pf_n 1)) (pz_f pf_int) (nomark _)) (pw_a1 (pb_cmp (op_neV (hU hr)) ops_ne (pz_f (pf_n 4)) (pz_f pf_str) (nomark _)))))
  (pss_1 (ps_r (pv_ix ix_seq ops_at (pz_f (pf_v (pv_lst (pfs_c pf_str (pfs_c pf_str pfs_n))))) (pz_f (pf_v (pv_bin op_mod ops_mod (pz_f (pf_v (pv_callTy call_intV cs_intV (by rfl) T.m_int (by decide +kernel) (pzs_c (pz_f (pf_v (pv_ix ix_seq ops_at (pz_f (pf_n 0)) (pz_f pf_int) (fun _ _ => rfl)))) pzs_n)))) (pz_f pf_int)))) (fun _ _ => rfl))))
  pss_n)
  (pss_c (ps_i (pb_w (pw_a (pb_cmp op_inV ops_in (pz_f (pf_n 4)) (pz_f (pf_v (pv_lst (pfs_c pf_str (pfs_c pf_str (pfs_c pf_str (pfs_c pf_str pfs_n))))))) (by rfl)) (pw_a1 (pb_cmp op_ltV ops_lt (pz_f (pf_n 1)) (pz_f (pf_v (pv_callTy call_intV cs_intV (by rfl) T.m_int (by decide +kernel) (pzs_c (pz_f (pf_v (pv_ix ix_seq ops_at (pz_f (pf_n 4)) (pz_f (pf_neg pf_int)) (fun _ _ => rfl)))) pzs_n)))) (nomark _)))))
  (pss_1 (ps_r (pv_ix ix_seq ops_at (pz_f (pf_v (pv_lst (pfs_c pf_str (pfs_c pf_str pfs_n))))) (pz_f (pf_v (pv_bin op_sub ops_sub (pz_f (pf_n 1)) (pz_f pf_int)))) (fun _ _ => rfl))))
  pss_n)
  (pss_1 (ps_r (pv_f (pf_n 4)))))))))
theorem ok_law_drawn (T : Tx K mg w) : FnOk P w K mg base (L2.CX P w) 1 T.f_law_drawn T.fd_law_drawn ["parts", "count", "nets"] (spV K mg 3 F_law_drawn) := fn_ok T.F_law_drawn sc_law_drawn fun cdv A outer s H E W hr tk pw =>
  (pss_c (ps_a 3 sc_law_drawn.nd rfl (by first | exact .inl rfl | exact .inr rfl) (pv_lr1 rfl (by rfl) T.m_list (by rfl) T.m_range (pf_n 2)))
  (pss_c (ps_a 4 sc_law_drawn.nd rfl (by first | exact .inl rfl | exact .inr rfl) (pv_lst pfs_n))
  (pss_c (ps_f (is := [5]) pw rfl (pi_r1 (by rfl) T.m_range (pfs_c (pf_n 1) pfs_n)) (pg_n 5 (by decide) sc_law_drawn.nd rfl (by first | exact .inl rfl | exact .inr rfl) (by first | exact .inl rfl | exact .inr rfl))
  (pss_1 (ps_x (pf_mt 4 PySem.F.plainAttrs_list PySem.F.slot_list_append PySem.F.type_list_append mt_append ms_append (pfs_c (pf_mt 3 PySem.F.plainAttrs_list PySem.F.slot_list_pop PySem.F.type_list_pop mt_popAt ms_pop (pfs_c (pf_v (pv_bin op_mod ops_mod (pz_f (pf_v (pv_callTy call_intV cs_intV (by rfl) T.m_int (by decide +kernel) (pzs_c (pz_f (pf_v (pv_ix ix_seq ops_at (pz_f (pf_n 0)) (pz_f (pf_v (pv_bin op_addV ops_add (pz_f pf_int) (pz_f (pf_n 5))))) (fun _ _ => rfl)))) pzs_n)))) (pz_f (pf_v (pv_callB call_lenV cs_len (by rfl) T.m_len (by decide +kernel) (pzs_c (pz_b 3) pzs_n)))))) pfs_n)) pfs_n)))))
  (pss_1 (ps_r (pv_callTy call_tuple_of cs_tuple (by rfl) T.m_tuple (by decide +kernel) (pzs_c (pz_b 4) pzs_n)))))))
theorem ok_law_circuit (T : Tx K mg w) : FnOk P w K mg base (L2.CX P w) 2 T.f_law_circuit T.fd_law_circuit ["script", "most"] (spV K mg 2 F_law_circuit) := fn_ok T.F_law_circuit sc_law_circuit fun cdv A outer s H E W hr tk pw =>
  (pss_c (ps_a 2 sc_law_circuit.nd rfl (by first | exact .inl rfl | exact .inr rfl) (pv_f (pf_v (pv_call (ok_law_parts T) (hr.mono (by decide)) (by rfl) T.g_law_parts T.kp_law_parts T.b_law_parts tk (pfs_c (pf_v (pv_call (ok_law_cell T) (hr.mono (by decide)) (by rfl) T.g_law_cell T.kp_law_cell T.b_law_cell tk (pfs_c (pf_n 0) (pfs_c pf_int pfs_n)))) (pfs_c (pf_v (pv_lst (pfs_c pf_int (pfs_c pf_int (pfs_c pf_int (pfs_c pf_int pfs_n)))))) pfs_n))))))
  (pss_c (ps_a 3 sc_law_circuit.nd rfl (by first | exact .inl rfl | exact .inr rfl) (pv_lst pfs_n))
  (pss_c (ps_a 4 sc_law_circuit.nd rfl (by first | exact .inl rfl | exact .inr rfl) (pv_f pf_int))
  (pss_c (ps_a 5 sc_law_circuit.nd rfl (by first | exact .inl rfl | exact .inr rfl) (pv_f (pf_v (pv_bin op_addV ops_add (pz_f (pf_v (pv_ix ix_seq ops_at (pz_f (pf_n 2)) (pz_f pf_int) (fun _ _ => rfl)))) (pz_f (pf_v (pv_callB (call_minV rfl) cs_min (by rfl) T.m_min (by decide +kernel) (pzs_c (pz_f (pf_n 1)) (pzs_c (pz_f (pf_v (pv_callB (call_maxV rfl) cs_max (by rfl) T.m_max (by decide +kernel) (pzs_c (pz_f pf_int) (pzs_c (pz_f (pf_v (pv_bin op_sub ops_sub (pz_f (pf_v (pv_callB call_lenV cs_len (by rfl) T.m_len (by decide +kernel) (pzs_c (pz_f (pf_n 0)) pzs_n)))) (pz_f pf_int)))) pzs_n))))) pzs_n)))))))))
  (pss_c (ps_f (is := [6]) pw rfl (pi_r2 (by rfl) T.m_range (pfs_c (pf_v (pv_ix ix_seq ops_at (pz_f (pf_n 2)) (pz_f pf_int) (fun _ _ => rfl))) (pfs_c (pf_n 5) pfs_n))) (pg_n 6 (by decide) sc_law_circuit.nd rfl (by first | exact .inl rfl | exact .inr rfl) (by first | exact .inl rfl | exact .inr rfl))
  (pss_c (ps_a 7 sc_law_circuit.nd rfl (by first | exact .inl rfl | exact .inr rfl) (pv_f (pf_v (pv_call (ok_law_parts T) (hr.mono (by decide)) (by rfl) T.g_law_parts T.kp_law_parts T.b_law_parts tk (pfs_c (pf_v (pv_call (ok_law_cell T) (hr.mono (by decide)) (by rfl) T.g_law_cell T.kp_law_cell T.b_law_cell tk (pfs_c (pf_n 0) (pfs_c (pf_v (pv_bin op_sub ops_sub (pz_f (pf_v (pv_bin op_addV ops_add (pz_f pf_int) (pz_f (pf_n 6))))) (pz_f (pf_v (pv_ix ix_seq ops_at (pz_f (pf_n 2)) (pz_f pf_int) (fun _ _ => rfl)))))) pfs_n)))) (pfs_c (pf_v (pv_lst (pfs_c pf_int (pfs_c pf_int (pfs_c pf_int (pfs_c pf_int pfs_n)))))) pfs_n))))))
  (pss_c (ps_a 8 sc_law_circuit.nd rfl (by first | exact .inl rfl | exact .inr rfl) (pv_f (pf_v (pv_call (ok_law_kind T) (hr.mono (by decide)) (by rfl) T.g_law_kind T.kp_law_kind T.b_law_kind tk (pfs_c (pf_n 7) (pfs_c (pf_n 6) (pfs_c (pf_n 4) pfs_n)))))))
  (pss_1 (ps_i (pb_cmp (op_eqV (hU hr)) ops_eq (pz_f (pf_n 8)) (pz_f pf_str) (nomark _))
  (pss_c (ps_a 4 sc_law_circuit.nd rfl (by first | exact .inl rfl | exact .inr rfl) (pv_f (pf_v (pv_bin op_addV ops_add (pz_f (pf_n 4)) (pz_f pf_int)))))
  (pss_1 (ps_x (pf_mt 3 PySem.F.plainAttrs_list PySem.F.slot_list_append PySem.F.type_list_append mt_append ms_append (pfs_c (pf_tup (pfs_c (pf_n 8) (pfs_c (pf_v (pv_call (ok_law_drawn T) (hr.mono (by decide)) (by rfl) T.g_law_drawn T.kp_law_drawn T.b_law_drawn tk (pfs_c (pf_n 7) (pfs_c pf_int (pfs_c (pf_n 5) pfs_n))))) (pfs_c (pf_n 6) pfs_n)))) pfs_n)))))
  (pss_1 (ps_i (pb_cmp op_inV ops_in (pz_f (pf_n 8)) (pz_f (pf_v (pv_lst (pfs_c pf_str (pfs_c pf_str pfs_n))))) (by rfl))
  (pss_1 (ps_x (pf_mt 3 PySem.F.plainAttrs_list PySem.F.slot_list_append PySem.F.type_list_append mt_append ms_append (pfs_c (pf_tup (pfs_c (pf_n 8) (pfs_c (pf_tup pfs_n) (pfs_c (pf_n 6) pfs_n)))) pfs_n))))
  (pss_1 (ps_i (pb_cmp (op_eqV (hU hr)) ops_eq (pz_f (pf_n 8)) (pz_f pf_str) (nomark _))
  (pss_1 (ps_x (pf_mt 3 PySem.F.plainAttrs_list PySem.F.slot_list_append PySem.F.type_list_append mt_append ms_append (pfs_c (pf_tup (pfs_c (pf_n 8) (pfs_c (pf_v (pv_call (ok_law_drawn T) (hr.mono (by decide)) (by rfl) T.g_law_drawn T.kp_law_drawn T.b_law_drawn tk (pfs_c (pf_n 7) (pfs_c pf_int (pfs_c (pf_n 6) pfs_n))))) (pfs_c (pf_n 6) pfs_n)))) pfs_n))))
  (pss_1 (ps_x (pf_mt 3 PySem.F.plainAttrs_list PySem.F.slot_list_append PySem.F.type_list_append mt_append ms_append (pfs_c (pf_tup (pfs_c (pf_n 8) (pfs_c (pf_v (pv_call (ok_law_drawn T) (hr.mono (by decide)) (by rfl) T.g_law_drawn T.kp_law_drawn T.b_law_drawn tk (pfs_c (pf_n 7) (pfs_c (pf_v (pv_callTy call_intV cs_intV (by rfl) T.m_int (by decide +kernel) (pzs_c (pz_f (pf_v (pv_ix ix_seq ops_at (pz_f (pf_n 8)) (pz_f (pf_neg pf_int)) (fun _ _ => rfl)))) pzs_n))) (pfs_c (pf_n 6) pfs_n))))) (pfs_c (pf_n 6) pfs_n)))) pfs_n)))))))))))))
  (pss_c (ps_a 9 sc_law_circuit.nd rfl (by first | exact .inl rfl | exact .inr rfl) (pv_f (pf_v (pv_callTy call_tuple_of cs_tuple (by rfl) T.m_tuple (by decide +kernel) (pzs_c (pz_f (pf_v (pv_lc (own := [("k", 10)]) rfl sc_law_circuit.nd (blkOk_by (own := [("k", 10)]) (N := N_law_circuit) (sc := defScope s_law_circuit) (by decide +kernel)) (pi_r1 (by rfl) T.m_range (pfs_c (pf_v (pv_bin op_addV ops_add (pz_f pf_int) (pz_f (pf_v (pv_ix ix_seq ops_at (pz_f (pf_n 2)) (pz_f pf_int) (fun _ _ => rfl)))))) pfs_n)) (fun _ _ _ _ _ => (pg_n 10 (by decide) sc_law_circuit.nd rfl (by first | exact .inl rfl | exact .inr rfl) (by first | exact .inl rfl | exact .inr rfl))) (fun _ _ _ _ _ => pbs_n) (fun _ _ _ _ _ => (pf_v (pv_bin op_mod ops_mod (pz_f (pf_v (pv_callTy call_intV cs_intV (by rfl) T.m_int (by decide +kernel) (pzs_c (pz_f (pf_v (pv_bin op_addV ops_add (pz_f (pf_v (pv_ix ix_seq ops_at (pz_f (pf_n 2)) (pz_f pf_int) (fun _ _ => rfl)))) (pz_f (pf_v (pv_bin op_mulV ops_mul (pz_f (pf_n 10)) (pz_f (pf_v (pv_ix ix_seq ops_at (pz_f (pf_n 2)) (pz_f pf_int) (fun _ _ => rfl)))))))))) pzs_n)))) (pz_f (pf_n 5)))))))) pzs_n)))))
  (pss_1 (ps_r (pv_f (pf_tup (pfs_c (pf_v (pv_ix ix_seq ops_at (pz_f (pf_n 2)) (pz_f pf_int) (fun _ _ => rfl))) (pfs_c (pf_v (pv_callTy call_tuple_of cs_tuple (by rfl) T.m_tuple (by decide +kernel) (pzs_c (pz_b 3) pzs_n))) (pfs_c (pf_n 9) (pfs_c (pf_v (pv_callTy call_tuple_of cs_tuple (by rfl) T.m_tuple (by decide +kernel) (pzs_c (pz_f (pf_v (pv_lc (own := [("k", 10)]) rfl sc_law_circuit.nd (blkOk_by (own := [("k", 10)]) (N := N_law_circuit) (sc := defScope s_law_circuit) (by decide +kernel)) (pi_r1 (by rfl) T.m_range (pfs_c (pf_n 4) pfs_n)) (fun _ _ _ _ _ => (pg_n 10 (by decide) sc_law_circuit.nd rfl (by first | exact .inl rfl | exact .inr rfl) (by first | exact .inl rfl | exact .inr rfl))) (fun _ _ _ _ _ => pbs_n) (fun _ _ _ _ _ => (pf_v (pv_bin op_mod ops_mod (pz_f (pf_v (pv_callTy call_intV cs_intV (by rfl) T.m_int (by decide +kernel) (pzs_c (pz_f (pf_v (pv_bin op_addV ops_add (pz_f (pf_v (pv_ix ix_seq ops_at (pz_f (pf_n 2)) (pz_f pf_int) (fun _ _ => rfl)))) (pz_f (pf_n 10))))) pzs_n)))) (pz_f pf_int))))))) pzs_n))) pfs_n))))))))))))))
theorem ok_law_value (T : Tx K mg w) : FnOk P w K mg base (L2.CX P w) 1 T.f_law_value T.fd_law_value ["kind", "bits"] (spV K mg 2 F_law_value) := fn_ok T.F_law_value sc_law_value fun cdv A outer s H E W hr tk pw =>
  (pss_c (ps_i (pb_cmp (op_eqV (hU hr)) ops_eq (pz_f (pf_v (pv_cut (pz_f (pf_n 0)) pp_n (pp_s pf_int)))) (pz_f pf_str) (nomark _))
  (pss_1 (ps_r (pv_callTy call_intV cs_intV (by rfl) T.m_int (by decide +kernel) (pzs_c (pz_f (pf_v (pv_ix ix_seq ops_at (pz_f (pf_n 0)) (pz_f pf_int) (fun _ _ => rfl)))) pzs_n))))
  pss_n)
  (pss_c (ps_i (pb_cmp (op_eqV (hU hr)) ops_eq (pz_f (pf_v (pv_cut (pz_f (pf_n 0)) pp_n (pp_s pf_int)))) (pz_f pf_str) (nomark _))
  (pss_1 (ps_r (pv_callTy call_intV cs_intV (by rfl) T.m_int (by decide +kernel) (pzs_c (pz_f (pf_v (pv_cmp (op_eqV (hU hr)) ops_eq (pz_f (pf_v (pv_callB (cr_sum rfl) cs_sum (by rfl) T.m_sum (by decide +kernel) (pzs_c (pz_f (pf_n 1)) pzs_n)))) (pz_f pf_int) (nomark _)))) pzs_n))))
  pss_n)
  (pss_1 (ps_r (pv_callTy call_intV cs_intV (by rfl) T.m_int (by decide +kernel) (pzs_c (pz_f (pf_v (pv_cmp op_ltV ops_lt (pz_f (pf_v (pv_callB (cr_sum rfl) cs_sum (by rfl) T.m_sum (by decide +kernel) (pzs_c (pz_f (pf_n 1)) pzs_n)))) (pz_f (pf_v (pv_callB call_lenV cs_len (by rfl) T.m_len (by decide +kernel) (pzs_c (pz_f (pf_n 1)) pzs_n)))) (nomark _)))) pzs_n))))))
theorem ok_law_answers (T : Tx K mg w) : FnOk P w K mg base (L2.CX P w) 2 T.f_law_answers T.fd_law_answers ["circuit", "case", "net", "value"] (spV K mg 4 F_law_answers) := fn_ok T.F_law_answers sc_law_answers fun cdv A outer s H E W hr tk pw =>
  (pss_c (ps_a 4 sc_law_answers.nd rfl (by first | exact .inl rfl | exact .inr rfl) (pv_lst pfs_n))
  (pss_c (ps_a 5 sc_law_answers.nd rfl (by first | exact .inl rfl | exact .inr rfl) (pv_f (pf_v (pv_ix ix_seq ops_at (pz_f (pf_n 0)) (pz_f pf_int) (fun _ _ => rfl)))))
  (pss_c (ps_f (is := [6]) pw rfl (pi_r1 (by rfl) T.m_range (pfs_c (pf_n 5) pfs_n)) (pg_n 6 (by decide) sc_law_answers.nd rfl (by first | exact .inl rfl | exact .inr rfl) (by first | exact .inl rfl | exact .inr rfl))
  (pss_1 (ps_x (pf_mt 4 PySem.F.plainAttrs_list PySem.F.slot_list_append PySem.F.type_list_append mt_append ms_append (pfs_c (pf_v (pv_bin op_sub ops_sub (pz_f (pf_v (pv_bin op_divV ops_div (pz_f (pf_n 1)) (pz_f (pf_v (pv_ix ix_seq ops_at (pz_f (pf_v (pv_lst (pfs_c pf_int (pfs_c pf_int (pfs_c pf_int (pfs_c pf_int (pfs_c pf_int (pfs_c pf_int (pfs_c pf_int pfs_n)))))))))) (pz_f (pf_n 6)) (fun _ _ => rfl))))))) (pz_f (pf_v (pv_bin op_mulV ops_mul (pz_f (pf_v (pv_bin op_divV ops_div (pz_f (pf_n 1)) (pz_f (pf_v (pv_ix ix_seq ops_at (pz_f (pf_v (pv_lst (pfs_c pf_int (pfs_c pf_int (pfs_c pf_int (pfs_c pf_int (pfs_c pf_int (pfs_c pf_int (pfs_c pf_int pfs_n)))))))))) (pz_f (pf_n 6)) (fun _ _ => rfl))))))) (pz_f pf_int)))))) pfs_n)))))
  (pss_c (ps_i (pb_w (pw_a (pb_cmp op_ge ops_ge (pz_f (pf_n 2)) (pz_f pf_int) (nomark _)) (pw_a1 (pb_cmp op_ltV ops_lt (pz_f (pf_n 2)) (pz_f (pf_n 5)) (nomark _)))))
  (pss_1 (ps_setL 4 (pf_n 3) (pf_n 2)))
  pss_n)
  (pss_c (ps_f (is := [7]) pw rfl (pi_lt (pf_v (pv_ix ix_seq ops_at (pz_f (pf_n 0)) (pz_f pf_int) (fun _ _ => rfl)))) (pg_n 7 (by decide) sc_law_answers.nd rfl (by first | exact .inl rfl | exact .inr rfl) (by first | exact .inl rfl | exact .inr rfl))
  (pss_c (ps_i (pb_cmp (op_eqV (hU hr)) ops_eq (pz_f (pf_v (pv_ix ix_seq ops_at (pz_f (pf_n 7)) (pz_f pf_int) (fun _ _ => rfl)))) (pz_f pf_str) (nomark _))
  (pss_c (ps_x (pf_mt 4 PySem.F.plainAttrs_list PySem.F.slot_list_append PySem.F.type_list_append mt_append ms_append (pfs_c (pf_v (pv_bin op_sub ops_sub (pz_f (pf_v (pv_bin op_divV ops_div (pz_f (pf_n 1)) (pz_f (pf_v (pv_ix ix_seq ops_at (pz_f (pf_v (pv_lst (pfs_c pf_int (pfs_c pf_int (pfs_c pf_int (pfs_c pf_int (pfs_c pf_int (pfs_c pf_int (pfs_c pf_int pfs_n)))))))))) (pz_f (pf_n 5)) (fun _ _ => rfl))))))) (pz_f (pf_v (pv_bin op_mulV ops_mul (pz_f (pf_v (pv_bin op_divV ops_div (pz_f (pf_n 1)) (pz_f (pf_v (pv_ix ix_seq ops_at (pz_f (pf_v (pv_lst (pfs_c pf_int (pfs_c pf_int (pfs_c pf_int (pfs_c pf_int (pfs_c pf_int (pfs_c pf_int (pfs_c pf_int pfs_n)))))))))) (pz_f (pf_n 5)) (fun _ _ => rfl))))))) (pz_f pf_int)))))) pfs_n)))
  (pss_1 (ps_a 5 sc_law_answers.nd rfl (by first | exact .inl rfl | exact .inr rfl) (pv_f (pf_v (pv_bin op_addV ops_add (pz_f (pf_n 5)) (pz_f pf_int)))))))
  (pss_1 (ps_x (pf_mt 4 PySem.F.plainAttrs_list PySem.F.slot_list_append PySem.F.type_list_append mt_append ms_append (pfs_c (pf_v (pv_call (ok_law_value T) (hr.mono (by decide)) (by rfl) T.g_law_value T.kp_law_value T.b_law_value tk (pfs_c (pf_v (pv_ix ix_seq ops_at (pz_f (pf_n 7)) (pz_f pf_int) (fun _ _ => rfl))) (pfs_c (pf_v (pv_lc (own := [("source", 10)]) rfl sc_law_answers.nd (blkOk_by (own := [("source", 10)]) (N := N_law_answers) (sc := defScope s_law_answers) (by decide +kernel)) (pi_lt (pf_v (pv_ix ix_seq ops_at (pz_f (pf_n 7)) (pz_f pf_int) (fun _ _ => rfl)))) (fun _ _ _ _ _ => (pg_n 10 (by decide) sc_law_answers.nd rfl (by first | exact .inl rfl | exact .inr rfl) (by first | exact .inl rfl | exact .inr rfl))) (fun _ _ _ _ _ => pbs_n) (fun _ _ _ _ _ => (pf_v (pv_ix ix_seq ops_at (pz_b 4) (pz_f (pf_n 10)) (fun _ _ => rfl)))))) pfs_n)))) pfs_n)))))
  (pss_1 (ps_i (pb_cmp (op_eqV (hU hr)) ops_eq (pz_f (pf_v (pv_ix ix_seq ops_at (pz_f (pf_n 7)) (pz_f pf_int) (fun _ _ => rfl)))) (pz_f (pf_n 2)) (nomark _))
  (pss_1 (ps_setL 4 (pf_n 3) (pf_n 2)))
  pss_n))))
  (pss_c (ps_a 8 sc_law_answers.nd rfl (by first | exact .inl rfl | exact .inr rfl) (pv_f (pf_v (pv_bin op_addV ops_add (pz_f (pf_v (pv_callTy call_list_of cs_list (by rfl) T.m_list (by decide +kernel) (pzs_c (pz_f (pf_v (pv_ix ix_seq ops_at (pz_f (pf_n 0)) (pz_f pf_int) (fun _ _ => rfl)))) pzs_n)))) (pz_f (pf_v (pv_lc (own := [("cell", 7)]) rfl sc_law_answers.nd (blkOk_by (own := [("cell", 7)]) (N := N_law_answers) (sc := defScope s_law_answers) (by decide +kernel)) (pi_lt (pf_v (pv_ix ix_seq ops_at (pz_f (pf_n 0)) (pz_f pf_int) (fun _ _ => rfl)))) (fun _ _ _ _ _ => (pg_n 7 (by decide) sc_law_answers.nd rfl (by first | exact .inl rfl | exact .inr rfl) (by first | exact .inl rfl | exact .inr rfl))) (fun _ _ _ _ _ => (pbs_1 (pb_cmp (op_eqV (hU hr)) ops_eq (pz_f (pf_v (pv_ix ix_seq ops_at (pz_f (pf_n 7)) (pz_f pf_int) (fun _ _ => rfl)))) (pz_f pf_str) (nomark _)))) (fun _ _ _ _ _ => (pf_v (pv_ix ix_seq ops_at (pz_f (pf_v (pv_ix ix_seq ops_at (pz_f (pf_n 7)) (pz_f pf_int) (fun _ _ => rfl)))) (pz_f pf_int) (fun _ _ => rfl)))))))))))
  (pss_1 (ps_r (pv_lc (own := [("end", 9)]) rfl sc_law_answers.nd (blkOk_by (own := [("end", 9)]) (N := N_law_answers) (sc := defScope s_law_answers) (by decide +kernel)) (pi_lt (pf_n 8)) (fun _ _ _ _ _ => (pg_n 9 (by decide) sc_law_answers.nd rfl (by first | exact .inl rfl | exact .inr rfl) (by first | exact .inl rfl | exact .inr rfl))) (fun _ _ _ _ _ => pbs_n) (fun _ _ _ _ _ => (pf_v (pv_ix ix_seq ops_at (pz_b 4) (pz_f (pf_n 9)) (fun _ _ => rfl)))))))))))))
theorem ok_law_cases (T : Tx K mg w) : FnOk P w K mg base (L2.CX P w) 1 T.f_law_cases T.fd_law_cases ["circuit"] (spV K mg 1 F_law_cases) := fn_ok T.F_law_cases sc_law_cases fun cdv A outer s H E W hr tk pw =>
  (pss_c (ps_a 1 sc_law_cases.nd rfl (by first | exact .inl rfl | exact .inr rfl) (pv_f pf_int))
  (pss_c (ps_f (is := [2]) pw rfl (pi_r1 (by rfl) T.m_range (pfs_c (pf_v (pv_bin op_addV ops_add (pz_f (pf_v (pv_ix ix_seq ops_at (pz_f (pf_n 0)) (pz_f pf_int) (fun _ _ => rfl)))) (pz_f (pf_v (pv_callB call_lenV cs_len (by rfl) T.m_len (by decide +kernel) (pzs_c (pz_f (pf_v (pv_lc (own := [("cell", 3)]) rfl sc_law_cases.nd (blkOk_by (own := [("cell", 3)]) (N := N_law_cases) (sc := defScope s_law_cases) (by decide +kernel)) (pi_lt (pf_v (pv_ix ix_seq ops_at (pz_f (pf_n 0)) (pz_f pf_int) (fun _ _ => rfl)))) (fun _ _ _ _ _ => (pg_n 3 (by decide) sc_law_cases.nd rfl (by first | exact .inl rfl | exact .inr rfl) (by first | exact .inl rfl | exact .inr rfl))) (fun _ _ _ _ _ => (pbs_1 (pb_cmp (op_eqV (hU hr)) ops_eq (pz_f (pf_v (pv_ix ix_seq ops_at (pz_f (pf_n 3)) (pz_f pf_int) (fun _ _ => rfl)))) (pz_f pf_str) (nomark _)))) (fun _ _ _ _ _ => pf_int)))) pzs_n)))))) pfs_n)) (pg_n 2 (by decide) sc_law_cases.nd rfl (by first | exact .inl rfl | exact .inr rfl) (by first | exact .inl rfl | exact .inr rfl))
  (pss_1 (ps_a 1 sc_law_cases.nd rfl (by first | exact .inl rfl | exact .inr rfl) (pv_f (pf_v (pv_bin op_mulV ops_mul (pz_f (pf_n 1)) (pz_f pf_int)))))))
  (pss_1 (ps_r (pv_f (pf_n 1))))))
theorem ok_law_refuses (T : Tx K mg w) : FnOk P w K mg base (L2.CX P w) 8 T.f_law_refuses T.fd_law_refuses ["circuit", "flaw"] (spV K mg 2 F_law_refuses) := fn_ok T.F_law_refuses sc_law_refuses fun cdv A outer s H E W hr tk pw =>
  (pss_c (ps_tryA rfl rfl sc_law_refuses.nd rfl rfl ⟨rfl, by decide, Or.inl T.g_GatesError⟩ tk T.ex_GatesError T.cr_GatesError hp_hs_law_refuses_1 (fun W' pn xe tk' pw' => (pss_1 (ps_x (pf_v (pv_call (ok_first_case T) (hr.mono (by decide)) (by rfl) T.g_first_case T.kp_first_case T.b_first_case tk' (pfs_c (pf_n 0) (pfs_c (pf_n 1) pfs_n)))))))
  (fun ea oe Dd ex pn hz hfl hmg => (pss_1 (ps_r (pv_f (pf_isx hz hfl hmg T.isx_NoSuchThing (by rfl) T.m_isinstance (by decide +kernel) (by rfl) (by first | exact Or.inl rfl | exact Or.inr (Or.inl rfl) | exact Or.inr (Or.inr rfl)) (by decide) (by decide) (by rfl) T.g_NoSuchThing))))))
  (pss_1 (ps_r (pv_f pf_bl))))
theorem ok_law_bare (T : Tx K mg w) : FnOk P w K mg base (L2.CX P w) 2 T.f_law_bare T.fd_law_bare ["script", "circuit"] (spV K mg 2 F_law_bare) := fn_ok T.F_law_bare sc_law_bare fun cdv A outer s H E W hr tk pw =>
  (pss_c (ps_i (pb_w (pw_o (pb_cmp (op_eqV (hU hr)) ops_eq (pz_f (pf_v (pv_ix ix_seq ops_at (pz_f (pf_n 1)) (pz_f pf_int) (fun _ _ => rfl)))) (pz_f pf_int) (nomark _)) (pw_o1 (pb_cmp (op_neV (hU hr)) ops_ne (pz_f (pf_v (pv_bin op_mod ops_mod (pz_f (pf_v (pv_callTy call_intV cs_intV (by rfl) T.m_int (by decide +kernel) (pzs_c (pz_f (pf_v (pv_call (ok_law_cell T) (hr.mono (by decide)) (by rfl) T.g_law_cell T.kp_law_cell T.b_law_cell tk (pfs_c (pf_n 0) (pfs_c pf_int pfs_n))))) pzs_n)))) (pz_f pf_int)))) (pz_f pf_int) (nomark _)))))
  (pss_1 (ps_r (pv_f (pf_n 1))))
  pss_n)
  (pss_1 (ps_r (pv_f (pf_tup (pfs_c (pf_v (pv_ix ix_seq ops_at (pz_f (pf_n 1)) (pz_f pf_int) (fun _ _ => rfl))) (pfs_c (pf_tup pfs_n) (pfs_c (pf_v (pv_callTy call_tuple_of cs_tuple (by rfl) T.m_tuple (by decide +kernel) (pzs_c (pz_f (pf_v (pv_lc (own := [("net", 2)]) rfl sc_law_bare.nd (blkOk_by (own := [("net", 2)]) (N := N_law_bare) (sc := defScope s_law_bare) (by decide +kernel)) (pi_lt (pf_v (pv_ix ix_seq ops_at (pz_f (pf_n 1)) (pz_f pf_int) (fun _ _ => rfl)))) (fun _ _ _ _ _ => (pg_n 2 (by decide) sc_law_bare.nd rfl (by first | exact .inl rfl | exact .inr rfl) (by first | exact .inl rfl | exact .inr rfl))) (fun _ _ _ _ _ => pbs_n) (fun _ _ _ _ _ => (pf_v (pv_bin op_mod ops_mod (pz_f (pf_v (pv_callTy call_intV cs_intV (by rfl) T.m_int (by decide +kernel) (pzs_c (pz_f (pf_n 2)) pzs_n)))) (pz_f (pf_v (pv_ix ix_seq ops_at (pz_f (pf_n 1)) (pz_f pf_int) (fun _ _ => rfl)))))))))) pzs_n))) (pfs_c (pf_tup pfs_n) pfs_n)))))))))
theorem ok_law (T : Tx K mg w) : FnOk P w K mg base (L2.CX P w) 9 T.f_law T.fd_law ["script"] (spV K mg 1 F_law) := fn_ok T.F_law sc_law fun cdv A outer s H E W hr tk pw =>
  (pss_c (ps_a 1 sc_law.nd rfl (by first | exact .inl rfl | exact .inr rfl) (pv_f (pf_v (pv_call (ok_law_bare T) (hr.mono (by decide)) (by rfl) T.g_law_bare T.kp_law_bare T.b_law_bare tk (pfs_c (pf_n 0) (pfs_c (pf_v (pv_call (ok_law_circuit T) (hr.mono (by decide)) (by rfl) T.g_law_circuit T.kp_law_circuit T.b_law_circuit tk (pfs_c (pf_n 0) (pfs_c pf_int pfs_n)))) pfs_n))))))
  (pss_c (ps_a 2 sc_law.nd rfl (by first | exact .inl rfl | exact .inr rfl) (pv_f (pf_v (pv_call (ok_law_parts T) (hr.mono (by decide)) (by rfl) T.g_law_parts T.kp_law_parts T.b_law_parts tk (pfs_c (pf_v (pv_call (ok_law_cell T) (hr.mono (by decide)) (by rfl) T.g_law_cell T.kp_law_cell T.b_law_cell tk (pfs_c (pf_n 0) (pfs_c pf_int pfs_n)))) (pfs_c (pf_v (pv_lst (pfs_c pf_int (pfs_c pf_int pfs_n)))) pfs_n))))))
  (pss_c (ps_fz 3 (ps_lc 3 (own := [("case", 8)]) rfl sc_law.nd (blkOk_by (own := [("case", 8)]) (N := N_law) (sc := defScope s_law) (by decide +kernel)) rfl rfl (sw_true rfl rfl rfl (by decide +kernel)) (pi_r1 (by rfl) T.m_range (pfs_c (pf_v (pv_call (ok_law_cases T) (hr.mono (by decide)) (by rfl) T.g_law_cases T.kp_law_cases T.b_law_cases tk (pfs_c (pf_n 1) pfs_n))) pfs_n)) (fun _ _ _ _ _ => (pg_n 8 (by decide) sc_law.nd rfl (by first | exact .inl rfl | exact .inr rfl) (by first | exact .inl rfl | exact .inr rfl))) (fun _ _ _ _ _ => pbs_n) (fun _ _ _ _ _ => (pf_v (pv_call (ok_law_answers T) (hr.mono (by decide)) (by rfl) T.g_law_answers T.kp_law_answers T.b_law_answers takes0 (pfs_c (pf_n 1) (pfs_c (pf_n 8) (pfs_c (pf_neg pf_int) (pfs_c pf_int pfs_n)))))))))
  (pss_c (ps_a 4 sc_law.nd rfl (by first | exact .inl rfl | exact .inr rfl) (pv_lst pfs_n))
  (pss_c (ps_f (is := [5]) pw rfl (pi_r1 (by rfl) T.m_range (pfs_c (pf_v (pv_bin op_addV ops_add (pz_f (pf_v (pv_ix ix_seq ops_at (pz_f (pf_n 1)) (pz_f pf_int) (fun _ _ => rfl)))) (pz_f (pf_v (pv_callB call_lenV cs_len (by rfl) T.m_len (by decide +kernel) (pzs_c (pz_f (pf_v (pv_ix ix_seq ops_at (pz_f (pf_n 1)) (pz_f pf_int) (fun _ _ => rfl)))) pzs_n)))))) pfs_n)) (pg_n 5 (by decide) sc_law.nd rfl (by first | exact .inl rfl | exact .inr rfl) (by first | exact .inl rfl | exact .inr rfl))
  (pss_1 (ps_f (is := [6]) pw rfl (pi_r1 (by rfl) T.m_range (pfs_c pf_int pfs_n)) (pg_n 6 (by decide) sc_law.nd rfl (by first | exact .inl rfl | exact .inr rfl) (by first | exact .inl rfl | exact .inr rfl))
  (pss_c (ps_a 7 sc_law.nd rfl (by first | exact .inl rfl | exact .inr rfl) (pv_f pf_non))
  (pss_c (ps_f (is := [8]) pw rfl (pi_r1 (by rfl) T.m_range (pfs_c (pf_v (pv_callB call_lenV cs_len (by rfl) T.m_len (by decide +kernel) (pzs_c (pz_f (pf_n 3)) pzs_n))) pfs_n)) (pg_n 8 (by decide) sc_law.nd rfl (by first | exact .inl rfl | exact .inr rfl) (by first | exact .inl rfl | exact .inr rfl))
  (pss_1 (ps_i (pb_w (pw_a (pb_cmp op_isV ops_is (pz_f (pf_n 7)) (pz_f pf_non) (nomark _)) (pw_a1 (pb_cmp (op_neV (hU hr)) ops_ne (pz_f (pf_v (pv_call (ok_law_answers T) (hr.mono (by decide)) (by rfl) T.g_law_answers T.kp_law_answers T.b_law_answers tk (pfs_c (pf_n 1) (pfs_c (pf_n 8) (pfs_c (pf_n 5) (pfs_c (pf_n 6) pfs_n))))))) (pz_f (pf_v (pv_ix ix_seq ops_at (pz_f (pf_n 3)) (pz_f (pf_n 8)) (fun _ _ => rfl)))) (nomark _)))))
  (pss_1 (ps_a 7 sc_law.nd rfl (by first | exact .inl rfl | exact .inr rfl) (pv_f (pf_n 8))))
  pss_n)))
  (pss_c (ps_a 9 sc_law.nd rfl (by first | exact .inl rfl | exact .inr rfl) (pv_f (pf_v (pv_call (ok_first_case T) (hr.mono (by decide)) (by rfl) T.g_first_case T.kp_first_case T.b_first_case tk (pfs_c (pf_n 1) (pfs_c (pf_tup (pfs_c (pf_n 5) (pfs_c (pf_n 6) pfs_n))) pfs_n))))))
  (pss_1 (ps_i (pb_cmp op_isV ops_is (pz_f (pf_n 7)) (pz_f pf_non) (nomark _))
  (pss_c (ps_x (pf_mt 4 PySem.F.plainAttrs_list PySem.F.slot_list_append PySem.F.type_list_append mt_append ms_append (pfs_c (pf_tup (pfs_c (pf_n 5) (pfs_c (pf_n 6) pfs_n))) pfs_n)))
  (pss_1 (ps_i (pb_cmp op_isntV ops_isnt (pz_f (pf_n 9)) (pz_f pf_non) (nomark _))
  (pss_1 (ps_r (pv_f pf_bl)))
  pss_n)))
  (pss_1 (ps_i (pb_w (pw_o (pb_not (pb_o (pz_f (pf_v (pv_call (ok_law_is_integer T) (hr.mono (by decide)) (by rfl) T.g_law_is_integer T.kp_law_is_integer T.b_law_is_integer tk (pfs_c (pf_n 9) pfs_n)))))) (pw_o1 (pb_cmp (op_neV (hU hr)) ops_ne (pz_f (pf_n 9)) (pz_f (pf_n 7)) (nomark _)))))
  (pss_1 (ps_r (pv_f pf_bl)))
  pss_n))))))))))
  (pss_c (ps_a 9 sc_law.nd rfl (by first | exact .inl rfl | exact .inr rfl) (pv_f (pf_v (pv_call (ok_hidden_flaws T) (hr.mono (by decide)) (by rfl) T.g_hidden_flaws T.kp_hidden_flaws T.b_hidden_flaws tk (pfs_c (pf_n 1) pfs_n)))))
  (pss_c (ps_i (pb_w (pw_o (pb_not (pb_o (pz_f (pf_isi (by rfl) T.m_isinstance (by decide +kernel) (pz_f (pf_n 9)) (by rfl) T.m_list (by decide +kernel) (fun t h => kit_ty (kit_list t h)))))) (pw_o1 (pb_cmp (op_neV (hU hr)) ops_ne (pz_f (pf_n 9)) (pz_b 4) (nomark _)))))
  (pss_1 (ps_r (pv_f pf_bl)))
  pss_n)
  (pss_c (ps_f (is := [10]) pw rfl (pi_lt (pf_n 9)) (pg_n 10 (by decide) sc_law.nd rfl (by first | exact .inl rfl | exact .inr rfl) (by first | exact .inl rfl | exact .inr rfl))
  (pss_1 (ps_i (pb_w (pw_o (pb_not (pb_o (pz_f (pf_isi (by rfl) T.m_isinstance (by decide +kernel) (pz_f (pf_n 10)) (by rfl) T.m_tuple (by decide +kernel) (fun t h => kit_ty (kit_tuple t h)))))) (pw_o (pb_not (pb_o (pz_f (pf_v (pv_call (ok_law_is_integer T) (hr.mono (by decide)) (by rfl) T.g_law_is_integer T.kp_law_is_integer T.b_law_is_integer tk (pfs_c (pf_v (pv_ix ix_seq ops_at (pz_f (pf_n 10)) (pz_f pf_int) (fun _ _ => rfl))) pfs_n)))))) (pw_o1 (pb_not (pb_o (pz_f (pf_v (pv_call (ok_law_is_integer T) (hr.mono (by decide)) (by rfl) T.g_law_is_integer T.kp_law_is_integer T.b_law_is_integer tk (pfs_c (pf_v (pv_ix ix_seq ops_at (pz_f (pf_n 10)) (pz_f pf_int) (fun _ _ => rfl))) pfs_n))))))))))
  (pss_1 (ps_r (pv_f pf_bl)))
  pss_n)))
  (pss_c (ps_i (pb_cmp (op_eqV (hU hr)) ops_eq (pz_f (pf_v (pv_ix ix_seq ops_at (pz_f (pf_n 2)) (pz_f pf_int) (fun _ _ => rfl)))) (pz_f pf_int) (nomark _))
  (pss_1 (ps_r (pv_call (ok_law_refuses T) (hr.mono (by decide)) (by rfl) T.g_law_refuses T.kp_law_refuses T.b_law_refuses tk (pfs_c (pf_n 1) (pfs_c (pf_tup (pfs_c (pf_v (pv_bin op_addV ops_add (pz_f (pf_v (pv_bin op_addV ops_add (pz_f (pf_v (pv_ix ix_seq ops_at (pz_f (pf_n 1)) (pz_f pf_int) (fun _ _ => rfl)))) (pz_f (pf_v (pv_callB call_lenV cs_len (by rfl) T.m_len (by decide +kernel) (pzs_c (pz_f (pf_v (pv_ix ix_seq ops_at (pz_f (pf_n 1)) (pz_f pf_int) (fun _ _ => rfl)))) pzs_n))))))) (pz_f (pf_v (pv_ix ix_seq ops_at (pz_f (pf_n 2)) (pz_f pf_int) (fun _ _ => rfl)))))) (pfs_c pf_int pfs_n))) pfs_n)))))
  pss_n)
  (pss_c (ps_i (pb_not (pb_o (pz_f (pf_v (pv_call (ok_law_refuses T) (hr.mono (by decide)) (by rfl) T.g_law_refuses T.kp_law_refuses T.b_law_refuses tk (pfs_c (pf_n 1) (pfs_c (pf_tup (pfs_c pf_int (pfs_c (pf_v (pv_bin op_sub ops_sub (pz_f (pf_neg pf_int)) (pz_f (pf_v (pv_ix ix_seq ops_at (pz_f (pf_n 2)) (pz_f pf_int) (fun _ _ => rfl)))))) pfs_n))) pfs_n)))))))
  (pss_1 (ps_r (pv_f pf_bl)))
  pss_n)
  (pss_1 (ps_r (pv_and (pf_v (pv_call (ok_law_refuses T) (hr.mono (by decide)) (by rfl) T.g_law_refuses T.kp_law_refuses T.b_law_refuses tk (pfs_c (pf_n 1) (pfs_c (pf_tup (pfs_c pf_int (pfs_c (pf_v (pv_bin op_addV ops_add (pz_f pf_int) (pz_f (pf_v (pv_ix ix_seq ops_at (pz_f (pf_n 2)) (pz_f pf_int) (fun _ _ => rfl)))))) pfs_n))) pfs_n)))) (pv_one (pv_call (ok_law_refuses T) (hr.mono (by decide)) (by rfl) T.g_law_refuses T.kp_law_refuses T.b_law_refuses tk (pfs_c (pf_n 1) (pfs_c (pf_tup (pfs_c (pf_v (pv_bin op_sub ops_sub (pz_f (pf_neg pf_int)) (pz_f (pf_v (pv_ix ix_seq ops_at (pz_f (pf_n 2)) (pz_f pf_int) (fun _ _ => rfl)))))) (pfs_c pf_int pfs_n))) pfs_n)))))))))))))))))
end
end K09
namespace PV
open PySem
/-! ### evaluating -/
section
variable {α β : Type}
theorem bind_ok {a : α} {Γ : Ev} {k : α → Ev → Out β} : Out.bind (.ok a Γ) k = k a Γ := id rfl
theorem bind_ex {e : Exc} {Γ : Ev} {k : α → Ev → Out β} : Out.bind (.ex e Γ) k = .ex e Γ := id rfl
theorem of_some {a : α} {Γ : Ev} : Out.of (some a) Γ = .ok a Γ := id rfl
theorem sB_ok {a : α} {Γ : Ev} {k : α → Ev → SO} : sB (.ok a Γ) k = k a Γ := id rfl
theorem sB_ex {e : Exc} {Γ : Ev} {k : α → Ev → SO} : sB (.ex e Γ : Out α) k = .ex e Γ := id rfl
end
def SO.then (r : SO) (b : Ev → SO) : SO := match r with
  | .nx Γ => b Γ
  | r => r
theorem then_nx {Γ : Ev} {b : Ev → SO} : SO.then (.nx Γ) b = b Γ := id rfl
theorem then_rt {x : Va} {Γ : Ev} {b : Ev → SO} : SO.then (.rt x Γ) b = .rt x Γ := id rfl
theorem then_ex {e : Exc} {Γ : Ev} {b : Ev → SO} : SO.then (.ex e Γ) b = .ex e Γ := id rfl
theorem then_ct {Γ : Ev} {b : Ev → SO} : SO.then (.ct Γ) b = .ct Γ := id rfl
theorem then_bk {Γ : Ev} {b : Ev → SO} : SO.then (.bk Γ) b = .bk Γ := id rfl
theorem seq_eq (a b : Ev → SO) (Γ : Ev) : sSeq a b Γ = SO.then (a Γ) b := id rfl

/-! the combinators, at an environment -/
def gZ (o : Option (Option Va)) (Γ : Ev) : Out D := match o with | some (some (.z, d)) => .ok d Γ | _ => .st
def gB (o : Option (Option Va)) (Γ : Ev) : Out D := match o with | some (some _) => .ok .none Γ | _ => .st
def gBl (o : Option (Option Va)) : Option D := match o with | some (some (.l .z, .list ds)) => some (.list ds) | some (some (.z, d)) => some d | _ => none
def gF (o : Option (Option Va)) (i : Nat) (Γ : Ev) : Out D := match o with | some (some x) => .ok x.2 (Γ.set i (some (.z, x.2))) | _ => .st
def gM (o : Option (Option Va)) (i : Nat) (Γ : Ev) : Out Va := match o with | some (some x) => .ok x (Γ.set i none) | _ => .st
section
variable {Γ : Ev} {d d' : D} {i : Nat} {f g h : Ev → Out D} {u v : Ev → Out Va} {o p q : Opn} {os : Opns} {fs : Ev → Out (List D)} {c c' : Ev → Out Bool} {s : Sh}
theorem gZ_z : gZ (some (some (.z, d))) Γ = .ok d Γ := id rfl
theorem gB_s {x : Va} : gB (some (some x)) Γ = .ok .none Γ := id rfl
theorem gBl_l {ds : List D} : gBl (some (some (.l .z, .list ds))) = some (.list ds) := id rfl
theorem gBl_z : gBl (some (some (.z, d))) = some d := id rfl
theorem gF_s {x : Va} : gF (some (some x)) i Γ = .ok x.2 (Γ.set i (some (.z, x.2))) := id rfl
theorem gM_s {x : Va} : gM (some (some x)) i Γ = .ok x (Γ.set i none) := id rfl
theorem fC_ap : fC d Γ = .ok d Γ := id rfl
theorem fN_ap : fN i Γ = gZ (Γ[i]?) Γ := id rfl
theorem fZ_ap : fZ i Γ = gF (Γ[i]?) i Γ := id rfl
theorem vMv_ap : vMv i Γ = gM (Γ[i]?) i Γ := id rfl
theorem fV_ap : fV u Γ = (u Γ).bind fun x Γ1 => .ok x.2 Γ1 := id rfl
theorem vF_ap : vF f Γ = (f Γ).bind fun d Γ1 => .ok (.z, d) Γ1 := id rfl
theorem oF_f : (oF f).f Γ = f Γ := id rfl
theorem oF_l : (oF f).l Γ d = some d := id rfl
theorem oB_f : (oB i).f Γ = gB (Γ[i]?) Γ := id rfl
theorem oB_l : (oB i).l Γ d = gBl (Γ[i]?) := id rfl
theorem osN_f : osN.f Γ = .ok [] Γ := id rfl
theorem osN_l {ds : List D} : osN.l Γ ds = some ds := id rfl
theorem osC_f : (osC o os).f Γ = (o.f Γ).bind fun d Γ1 => (os.f Γ1).bind fun ds Γ2 => .ok (d :: ds) Γ2 := id rfl
theorem osC_l {ds : List D} : (osC o os).l Γ (d :: ds) = (o.l Γ d).bind fun d => (os.l Γ ds).bind fun ds => some (d :: ds) := id rfl
theorem o2_ap {op : D → D → Option Va} : o2 op o p Γ = (o.f Γ).bind fun x Γ1 => (p.f Γ1).bind fun y Γ2 => .of ((o.l Γ2 x).bind fun x => (p.l Γ2 y).bind fun y => op x y) Γ2 := id rfl
theorem fB_ap {op : List D → Option Va} : fB op os Γ = (os.f Γ).bind fun ds Γ1 => .of ((os.l Γ1 ds).bind op) Γ1 := id rfl
theorem fsN_ap : fsN Γ = .ok [] Γ := id rfl
theorem fsC_ap : fsC f fs Γ = (f Γ).bind fun d Γ1 => (fs Γ1).bind fun ds Γ2 => .ok (d :: ds) Γ2 := id rfl
theorem fLst_ap : fLst fs Γ = (fs Γ).bind fun ds Γ1 => .of (if ds.length ≤ 16777216 then some (.l .z, .list ds) else none) Γ1 := id rfl
theorem fTup_ap : fTup fs Γ = (fs Γ).bind fun ds Γ1 => .of (if ds.length ≤ 16777216 then some (.tuple ds) else none) Γ1 := id rfl
def mtE (o : Option (Option Va)) (i : Nat) (op : List D → List D → Option (D × List D)) (args : List D) (Γ : Ev) : Out D := match o with
  | some (some (.l .z, .list ds)) => (match op ds args with | some (d, ds') => .ok d (Γ.set i (some (.l .z, .list ds'))) | none => .st)
  | _ => .st
def mtS (o : Option (Option Va)) (r : Out D) : Out D := match o with | some (some (.l .z, .list _)) => r | _ => .st
theorem fMt_ap {op : List D → List D → Option (D × List D)} : fMt i op fs Γ = mtS (Γ[i]?) ((fs Γ).bind fun args Γ1 => mtE (Γ1[i]?) i op args Γ1) := id rfl
theorem mtS_l {ds : List D} {r : Out D} : mtS (some (some (.l .z, .list ds))) r = r := id rfl
theorem mtE_l {op : List D → List D → Option (D × List D)} {ds args : List D} : mtE (some (some (.l .z, .list ds))) i op args Γ = (match op ds args with | some (d, ds') => .ok d (Γ.set i (some (.l .z, .list ds'))) | none => .st) := id rfl
def bB (d : D) : Option Bool := match d with | .bool c => some c | _ => none
theorem bB_b {b : Bool} : bB (.bool b) = some b := id rfl
theorem bV_ap : bV u Γ = (u Γ).bind fun x Γ1 => .of (bB x.2) Γ1 := by
  unfold bV
  congr 1
def bBo (d : D) (Γ : Ev) : Out Bool := match d with | .bool b => .ok b Γ | _ => .st
theorem bBo_b {b : Bool} : bBo (.bool b) Γ = .ok b Γ := id rfl
theorem bF_ap : bF f Γ = (f Γ).bind bBo := id rfl
theorem bO_ap : bO o Γ = (o.f Γ).bind fun d Γ1 => .of ((o.l Γ1 d).bind dTru) Γ1 := id rfl
theorem bNot_ap : bNot c Γ = (c Γ).bind fun b Γ1 => .ok (!b) Γ1 := id rfl
theorem bAnd_ap : bAnd c c' Γ = (c Γ).bind fun b Γ1 => if b = true then c' Γ1 else .ok false Γ1 := id rfl
theorem bOr_ap : bOr c c' Γ = (c Γ).bind fun b Γ1 => if b = true then .ok true Γ1 else c' Γ1 := id rfl
theorem vIf_ap : vIf c u v Γ = (c Γ).bind fun k Γ1 => if k = true then u Γ1 else v Γ1 := id rfl
def vA (d : D) (r : Out Va) (Γ : Ev) : Out Va := match d with | .bool true => r | .bool false => .ok (.z, .bool false) Γ | _ => .st
def vO (d : D) (r : Out Va) (Γ : Ev) : Out Va := match d with | .bool true => .ok (.z, .bool true) Γ | .bool false => r | _ => .st
theorem vA_b {b : Bool} {r : Out Va} : vA (.bool b) r Γ = if b = true then r else .ok (.z, .bool false) Γ := by cases b <;> rfl
theorem vO_b {b : Bool} {r : Out Va} : vO (.bool b) r Γ = if b = true then .ok (.z, .bool true) Γ else r := by cases b <;> rfl
theorem vAnd_ap : vAnd f v Γ = (f Γ).bind fun d Γ1 => vA d (v Γ1) Γ1 := id rfl
theorem vOr_ap : vOr f v Γ = (f Γ).bind fun d Γ1 => vO d (v Γ1) Γ1 := id rfl
def dNot (d : D) (Γ : Ev) : Out D := match d with | .bool b => .ok (.bool !b) Γ | _ => .st
theorem dNot_b {b : Bool} : dNot (.bool b) Γ = .ok (.bool !b) Γ := id rfl
theorem fNot_ap : fNot f Γ = (f Γ).bind dNot := id rfl
def dNg (d : D) (Γ : Ev) : Out D := match d with | .int i => .ok (.int (-i)) Γ | _ => .st
theorem dNg_i {i : Int} : dNg (.int i) Γ = .ok (.int (-i)) Γ := id rfl
theorem fNeg_ap : fNeg f Γ = (f Γ).bind dNg := id rfl
theorem fPN_ap : fPN Γ = .ok none Γ := id rfl
def dPs (d : D) (Γ : Ev) : Out (Option Int) := match d with | .int i => .ok (some i) Γ | _ => .st
theorem dPs_i {i : Int} : dPs (.int i) Γ = .ok (some i) Γ := id rfl
theorem fPS_ap : fPS f Γ = (f Γ).bind dPs := id rfl
theorem vCut_ap {a b : Ev → Out (Option Int)} : vCut o a b Γ = (o.f Γ).bind fun d Γ1 => (a Γ1).bind fun lo Γ2 => (b Γ2).bind fun hi Γ3 => .of ((o.l Γ3 d).bind fun d => dCut d lo hi) Γ3 := id rfl
theorem fIsi_ap {T : String} : fIsi T o Γ = (o.f Γ).bind fun d Γ1 => .of ((o.l Γ1 d).bind (dIsi T)) Γ1 := id rfl
def rOut (r : Res) (Γ : Ev) : Out Va := match r with | .ok x => .ok x Γ | .ex e => .ex e Γ | .st => .st
theorem rOut_ok {x : Va} : rOut (.ok x) Γ = .ok x Γ := id rfl
theorem rOut_ex {e : Exc} : rOut (.ex e) Γ = .ex e Γ := id rfl
theorem fCall_ap {n : Nat} {F : List D → Res} : fCall n F fs Γ = (fs Γ).bind fun ds Γ1 => if ds.length = n then rOut (F ds) Γ1 else .st := id rfl
theorem fDct0_ap : fDct0 Γ = .ok (.dict []) Γ := id rfl
def dIterL (d : D) (Γ : Ev) : Out (List D) := match d with | .list ds => .ok ds Γ | .tuple ds => .ok ds Γ | _ => .st
theorem dIterL_l {ds : List D} : dIterL (.list ds) Γ = .ok ds Γ := id rfl
theorem dIterL_t {ds : List D} : dIterL (.tuple ds) Γ = .ok ds Γ := id rfl
theorem iLT_ap : iLT f Γ = (f Γ).bind dIterL := id rfl
theorem iR1_ap : iR1 fs Γ = (fs Γ).bind fun ds Γ1 => match ds with | [.int j] => if j < 2 ^ 62 ∧ -(2 ^ 62) ≤ j then .ok (rangeL 0 j.toNat) Γ1 else .st | _ => .st := id rfl
theorem iR2_ap : iR2 fs Γ = (fs Γ).bind fun ds Γ1 => match ds with | [.int i, .int j] => if (j < 2 ^ 62 ∧ -(2 ^ 62) ≤ j) ∧ i < 2 ^ 62 ∧ -(2 ^ 62) ≤ i then .ok (rangeL i (j - i).toNat) Γ1 else .st | _ => .st := id rfl
theorem iEn_ap : iEn fs Γ = (fs Γ).bind fun ds Γ1 => match ds with | [.list es] => .ok (enumL es) Γ1 | _ => .st := id rfl
theorem iZp_ap : iZp fs Γ = (fs Γ).bind fun ds Γ1 => match ds with | [.list xs, .list ys] => .ok (zipL xs ys) Γ1 | _ => .st := id rfl
theorem vLR1_ap : vLR1 f Γ = (f Γ).bind fun d Γ1 => match d with | .int j => if 0 ≤ j ∧ j ≤ 16777216 then .ok (.l .z, .list (rangeL 0 j.toNat)) Γ1 else .st | _ => .st := id rfl
theorem vComp_ap {is : List Nat} {ff : Ev → Out (List D)} {t : D → Ev → Option Ev} : vComp is ff t c f Γ = (ff Γ).bind fun ds Γ1 => if ds.length ≤ 16777216 then (match compL is t c f ds (wipeG Γ1 is) with | some (es, Γ2) => .ok (.l .z, .list es) (restG Γ1 Γ2 is) | none => .st) else .st := id rfl
/-! statements -/
variable {a b : Ev → SO} {t : D → Ev → Option Ev}
theorem sNx_ap : sNx Γ = .nx Γ := id rfl
theorem sAsg_ap : sAsg i u Γ = sB (u Γ) fun x Γ1 => .nx (Γ1.set i (some x)) := id rfl
theorem sRet_ap : sRet u Γ = sB (u Γ) fun x Γ1 => .rt x Γ1 := id rfl
theorem sExp_ap : sExp f Γ = sB (f Γ) fun _ Γ1 => .nx Γ1 := id rfl
theorem sIf_ap : sIf c a b Γ = sB (c Γ) fun k Γ1 => if k = true then a Γ1 else b Γ1 := id rfl
theorem sFor_ap {ff : Ev → Out (List D)} : sFor ff t a Γ = sB (ff Γ) fun ds Γ1 => sForL t a ds Γ1 := id rfl
def oNx (o : Option Ev) : SO := match o with | some Γ => .nx Γ | none => .st
theorem oNx_s : oNx (some Γ) = .nx Γ := id rfl
theorem sTgt_ap : sTgt t f Γ = sB (f Γ) fun d Γ1 => oNx (t d Γ1) := id rfl
def fzE (o : Option (Option Va)) (i : Nat) (Γ : Ev) : SO := match o with | some (some x) => .nx (Γ.set i (some (.z, x.2))) | _ => .nx Γ
theorem fzE_s {x : Va} : fzE (some (some x)) i Γ = .nx (Γ.set i (some (.z, x.2))) := id rfl
theorem sFz_ap : sFz i a Γ = (a Γ).then fun Γ1 => fzE (Γ1[i]?) i Γ1 := by
  unfold sFz SO.then fzE
  cases a Γ <;> rfl
theorem sRaise_ap {e : Exc} : sRaise e Γ = .ex e Γ := id rfl
def SO.res (r : SO) : Res := match r with | .nx _ => .ok (.z, .none) | .rt x _ => .ok x | .ex e _ => .ex e | _ => .st
theorem res_nx : SO.res (.nx Γ) = .ok (.z, .none) := id rfl
theorem res_rt {x : Va} : SO.res (.rt x Γ) = .ok x := id rfl
theorem res_ex {e : Exc} : SO.res (.ex e Γ) = .ex e := id rfl
theorem runD_ap {n k : Nat} {ds : List D} : runD n k a ds = if ds.length = k then (a (st0 n ds)).res else .st := id rfl
end
abbrev L (ns : List Int) : D := .list (ns.map .int)
abbrev T (ns : List Int) : D := .tuple (ns.map .int)
theorem at_int {ns : List Int} {k : Nat} {x : Int} (h : ns[k]? = some x) : dAt (L ns) (.int k) = some (.z, .int x) := by
  have : L2.atI (ns.map PyData.int) (k : Int) = some (.int x) := L2.atI_nat (by rw [List.getElem?_map, h]; rfl)
  simp only [dAt, this]
  rfl
theorem atT_int {ns : List Int} {k : Nat} {x : Int} (h : ns[k]? = some x) : dAt (T ns) (.int k) = some (.z, .int x) := by
  have : L2.atI (ns.map PyData.int) (k : Int) = some (.int x) := L2.atI_nat (by rw [List.getElem?_map, h]; rfl)
  simp only [dAt, this]
  rfl
theorem at_list {ds : List D} {k : Nat} {x : D} (h : ds[k]? = some x) : dAt (.list ds) (.int k) = some (.z, x) := by
  simp only [dAt, L2.atI_nat h]
  rfl
theorem at_tup {ds : List D} {k : Nat} {x : D} (h : ds[k]? = some x) : dAt (.tuple ds) (.int k) = some (.z, x) := by
  simp only [dAt, L2.atI_nat h]
  rfl
/-- a loop by an invariant, no way out -/
theorem forL_inv {t : D → Ev → Option Ev} {body : Ev → SO} (I : Nat → Ev → Prop) : ∀ (ds : List D) (j : Nat) (Γ : Ev), I j Γ →
    (∀ i d Γ, ds[i]? = some d → I (j + i) Γ → ∃ Γ1 Γ2, t d Γ = some Γ1 ∧ (body Γ1 = .nx Γ2 ∨ body Γ1 = .ct Γ2) ∧ I (j + i + 1) Γ2) → ∃ Γ', sForL t body ds Γ = .nx Γ' ∧ I (j + ds.length) Γ'
  | [], j, Γ, h, _ => ⟨Γ, rfl, h⟩
  | d :: ds, j, Γ, h, hs => by
    obtain ⟨Γ1, Γ2, h1, h2, h3⟩ := hs 0 d Γ rfl h
    obtain ⟨Γ', e, q⟩ := forL_inv I ds (j + 1) Γ2 h3 fun i d' Γ3 hd hi => by
      have := hs (i + 1) d' Γ3 (by simpa using hd) (by rw [show j + (i + 1) = j + 1 + i by omega]; exact hi)
      rw [show j + (i + 1) = j + 1 + i by omega] at this
      exact this
    refine ⟨Γ', ?_, by rw [List.length_cons, show j + (ds.length + 1) = j + 1 + ds.length by omega]; exact q⟩
    unfold sForL
    rw [h1]
    rcases h2 with h2 | h2 <;> (dsimp only; rw [h2]; exact e)
theorem range_get {lo : Int} {n i : Nat} {d : D} (h : (rangeL lo n)[i]? = some d) : i < n ∧ d = .int (lo + i) := by
  unfold rangeL at h
  rw [List.getElem?_map] at h
  by_cases c : i < n
  · rw [List.getElem?_range c] at h
    exact ⟨c, (Option.some.inj h).symm⟩
  · rw [List.getElem?_eq_none (by simpa using c)] at h
    cases h
theorem range_len {lo : Int} {n : Nat} : (rangeL lo n).length = n := by simp [rangeL]

/-! the list's values -/
theorem at_t0 {a : D} {r : List D} : dAt (.tuple (a :: r)) (.int 0) = some (.z, a) := at_tup (k := 0) rfl
theorem at_t1 {a b : D} {r : List D} : dAt (.tuple (a :: b :: r)) (.int 1) = some (.z, b) := at_tup (k := 1) rfl
theorem at_t2 {a b c : D} {r : List D} : dAt (.tuple (a :: b :: c :: r)) (.int 2) = some (.z, c) := at_tup (k := 2) rfl
theorem at_t3 {a b c d : D} {r : List D} : dAt (.tuple (a :: b :: c :: d :: r)) (.int 3) = some (.z, d) := at_tup (k := 3) rfl
theorem at_l0 {a : D} {r : List D} : dAt (.list (a :: r)) (.int 0) = some (.z, a) := at_list (k := 0) rfl
theorem at_l1 {a b : D} {r : List D} : dAt (.list (a :: b :: r)) (.int 1) = some (.z, b) := at_list (k := 1) rfl
theorem at_l2 {a b c : D} {r : List D} : dAt (.list (a :: b :: c :: r)) (.int 2) = some (.z, c) := at_list (k := 2) rfl
theorem at_l3 {a b c d : D} {r : List D} : dAt (.list (a :: b :: c :: d :: r)) (.int 3) = some (.z, d) := at_list (k := 3) rfl
/-- an item at a place that is known to be inside -/
theorem at_intI {ns : List Int} {i : Int} (h0 : 0 ≤ i) (h1 : i < ns.length) : dAt (L ns) (.int i) = some (.z, .int (ns[i.toNat]'(by omega))) := by
  have := at_int (ns := ns) (k := i.toNat) (x := ns[i.toNat]'(by omega)) (List.getElem?_eq_getElem _)
  rwa [Int.toNat_of_nonneg h0] at this
theorem at_listI {ds : List D} {i : Int} (h0 : 0 ≤ i) (h1 : i < ds.length) : dAt (.list ds) (.int i) = some (.z, ds[i.toNat]'(by omega)) := by
  have := at_list (ds := ds) (k := i.toNat) (x := ds[i.toNat]'(by omega)) (List.getElem?_eq_getElem _)
  rwa [Int.toNat_of_nonneg h0] at this
theorem app_int {ns : List Int} {x : Int} (h : ns.length < 16777216) : mAppend (ns.map .int) [.int x] = some (.none, (ns ++ [x]).map .int) := by
  unfold mAppend
  dsimp only
  rw [if_pos (by rw [List.length_map]; exact h), List.map_append]
  rfl
theorem app_d {ds : List D} {x : D} (h : ds.length < 16777216) : mAppend ds [x] = some (.none, ds ++ [x]) := if_pos h
theorem mul_ok {i j : Int} (h : i.natAbs < 2 ^ 64 ∨ j.natAbs < 2 ^ 64) : dMul (.int i) (.int j) = some (.z, .int (i * j)) := by
  unfold dMul
  exact if_pos (by unfold mulOk; rcases h with h | h <;> simp [h])
theorem div_ok {i j : Int} (h : 0 < j ∧ j < 2 ^ 64) : dDiv (.int i) (.int j) = some (.z, .int (i / j)) := if_pos h
theorem mod_ok {i j : Int} (h : 0 < j) : dMod (.int i) (.int j) = some (.z, .int (i % j)) := if_pos h
theorem eq_int {i j : Int} : dEq (.int i) (.int j) = some (.z, .bool (decide (i = j))) := id rfl
theorem ne_int {i j : Int} : dNe (.int i) (.int j) = some (.z, .bool !(decide (i = j))) := id rfl
theorem ne_str {i j : Str} : dNe (.str i) (.str j) = some (.z, .bool !(decide (i = j))) := id rfl
theorem lt_int {i j : Int} : dLt (.int i) (.int j) = some (.z, .bool (decide (i < j))) := id rfl
theorem gt_int {i j : Int} : dGt (.int i) (.int j) = some (.z, .bool (decide (j < i))) := id rfl
theorem le_int {i j : Int} : dLe (.int i) (.int j) = some (.z, .bool (decide (i ≤ j))) := id rfl
theorem ge_int {i j : Int} : dGe (.int i) (.int j) = some (.z, .bool (decide (j ≤ i))) := id rfl
theorem add_int {i j : Int} : dAdd (.int i) (.int j) = some (.z, .int (i + j)) := id rfl
theorem sub_int {i j : Int} : dSub (.int i) (.int j) = some (.z, .int (i - j)) := id rfl
theorem int_int {i : Int} : dIntV [.int i] = some (.z, .int i) := id rfl
theorem int_bool {b : Bool} : dIntV [.bool b] = some (.z, .int (if b = true then 1 else 0)) := id rfl
theorem len_l {ds : List D} : dLen [.list ds] = some (.z, .int ds.length) := id rfl
theorem len_t {ds : List D} : dLen [.tuple ds] = some (.z, .int ds.length) := id rfl
theorem len_scr {ns : List Int} : dLen [scr ns] = some (.z, .int ns.length) := by show some _ = _; rw [List.length_map]
theorem at_scr {ns : List Int} {k : Nat} {x : Int} (h : ns[k]? = some x) : dAt (scr ns) (.int k) = some (.z, .int x) := at_int h
/-- a comprehension whose item reads only -/
theorem comp_gen {is : List Nat} {t : D → Ev → Option Ev} {c : Ev → Out Bool} {fe : Ev → Out D} {Γ : Ev} (f : D → D) (b : D → Bool) : ∀ ds : List D,
    (∀ d ∈ ds, ∃ Γd, t d Γ = some Γd ∧ c Γd = .ok (b d) Γd ∧ (b d = true → fe Γd = .ok (f d) Γd) ∧ wipeG Γd is = Γ) → compL is t c fe ds Γ = some ((ds.filter b).map f, Γ)
  | [], _ => rfl
  | d :: ds, h => by
    obtain ⟨Γd, h1, h2, h3, h4⟩ := h d (List.mem_cons_self ..)
    have ih := comp_gen f b ds fun d hd => h d (List.mem_cons_of_mem _ hd)
    unfold compL
    rw [h1]
    dsimp only
    rw [h2]
    cases hb : b d with
    | true =>
      dsimp only
      rw [h3 hb]
      dsimp only
      rw [h4, ih, List.filter_cons, if_pos hb]
      rfl
    | false =>
      dsimp only
      rw [h4, ih, List.filter_cons, if_neg (by rw [hb]; exact Bool.false_ne_true)]
theorem comp_ok {is : List Nat} {ff : Ev → Out (List D)} {t : D → Ev → Option Ev} {c : Ev → Out Bool} {fe : Ev → Out D} {Γ Γ1 : Ev} {ds es : List D} (h1 : ff Γ = .ok ds Γ1) (hl : ds.length ≤ 16777216) (h2 : compL is t c fe ds (wipeG Γ1 is) = some (es, wipeG Γ1 is)) (h3 : restG Γ1 (wipeG Γ1 is) is = Γ1) :
    vComp is ff t c fe Γ = .ok (.l .z, .list es) Γ1 := by
  rw [vComp_ap, h1, bind_ok, if_pos hl, h2]
  dsimp only
  rw [h3]
theorem range0_get {n i : Nat} {d : D} (h : (rangeL 0 n)[i]? = some d) : i < n ∧ d = .int i := by
  obtain ⟨a, b⟩ := range_get h
  exact ⟨a, by rw [b, Int.zero_add]⟩
theorem r1_ok {c : Nat} {Γ : Ev} (h : c ≤ 16777216) : (if (c:Int) < 2^62 ∧ -(2^62) ≤ (c:Int) then Out.ok (rangeL 0 (c:Int).toNat) Γ else .st) = .ok (rangeL 0 c) Γ := by
  rw [if_pos (by omega), Int.toNat_natCast]
theorem erase_map {α β : Type} (f : α → β) : ∀ (l : List α) (k : Nat), (l.map f).eraseIdx k = (l.eraseIdx k).map f
  | [], _ => rfl
  | _ :: _, 0 => rfl
  | a :: l, k + 1 => congrArg (f a :: ·) (erase_map f l k)
theorem pop_int {ns : List Int} {k : Nat} {y : Int} (h : ns[k]? = some y) (hb : ns.length ≤ 16777216) : mPop (ns.map .int) [.int k] = some (.int y, (ns.eraseIdx k).map .int) := by
  have hk : k < ns.length := by
    by_cases c : k < ns.length
    · exact c
    · rw [List.getElem?_eq_none (by omega)] at h; cases h
  unfold mPop
  dsimp only
  have hs : seqIndex? (k : Int) (ns.map PyData.int).length = some k := by
    unfold seqIndex?
    rw [List.length_map]
    simp (disch := omega) [hk]
    try omega
  rw [if_pos (by omega), hs]
  have e : (ns.map PyData.int).eraseIdx k = (ns.eraseIdx k).map PyData.int := erase_map ..
  simp only [Option.bind_some, List.getElem?_map, h, Option.map_some, e]
theorem pop0 {x : D} {ds : List D} : mPop (x :: ds) [.int 0] = some (x, ds) := by
  unfold mPop
  dsimp only
  have hs : seqIndex? 0 (x :: ds).length = some 0 := by
    unfold seqIndex?
    simp only [List.length_cons]
    simp
    try omega
  rw [if_pos (by decide), hs]
  rfl
def dInT (neg : Bool) (tab : List (Str × Option D)) (d : D) : Option D := match d with
  | .str x => (tab.lookup x).map fun r => .bool (if neg then !r.isSome else r.isSome)
  | _ => none
def dGtT (tab : List (Str × Option D)) (d : D) : Option D := match d with
  | .str x => (tab.lookup x).bind fun r => r
  | _ => none
theorem inT_f {tab : List (Str × Option D)} {x : Str} : dInT false tab (.str x) = (tab.lookup x).map fun r => .bool r.isSome := id rfl
theorem inT_t {tab : List (Str × Option D)} {x : Str} : dInT true tab (.str x) = (tab.lookup x).map fun r => .bool !r.isSome := id rfl
theorem gtT_s {tab : List (Str × Option D)} {x : Str} : dGtT tab (.str x) = (tab.lookup x).bind fun r => r := id rfl
theorem fIn_ap {neg : Bool} {tab : List (Str × Option D)} {o : Opn} {Γ : Ev} : fIn neg tab o Γ = (o.f Γ).bind fun d Γ1 => .of ((o.l Γ1 d).bind (dInT neg tab)) Γ1 := by
  unfold fIn
  congr 1
theorem fGet_ap {tab : List (Str × Option D)} {o : Opn} {Γ : Ev} : fGet tab o Γ = (o.f Γ).bind fun d Γ1 => .of ((o.l Γ1 d).bind (dGtT tab)) Γ1 := by
  unfold fGet
  congr 1
theorem fGet2_nil {fd fk fx : Ev → Out D} {Γ Γ1 : Ev} (h : fd Γ = .ok (.dict []) Γ1) : fGet2 fd fk fx Γ = (fk Γ1).bind fun k Γ2 => (fx Γ2).bind fun x Γ3 => .of ((dKey k).map fun _ => x) Γ3 := by
  unfold fGet2
  rw [h]
  rfl
theorem key_i {i : Int} : dKey (.int i) = some (.inl i) := id rfl
theorem isS_s {α : Type} {a : α} : (some a).isSome = true := id rfl
theorem isS_n {α : Type} : (none : Option α).isSome = false := id rfl
theorem map_none {α β : Type} {f : α → β} : (none : Option α).map f = none := id rfl
theorem bind_none {α β : Type} {f : α → Option β} : (none : Option α).bind f = none := id rfl
theorem bools_mapP {α : Type} (p : α → Bool) : ∀ ns : List α, dBools (ns.map fun b => .bool (p b)) = some (ns.map p)
  | [] => rfl
  | n :: ns => by
    rw [List.map_cons, dBools, bools_mapP p ns]
    rfl
theorem sum_int {ns : List Int} : dSum [.list (ns.map .int)] = some (.z, .int ns.sum) := by
  unfold dSum
  dsimp only
  rw [ints_map]
  rfl
theorem all_b {α : Type} {p : α → Bool} {ns : List α} : dAll [.list (ns.map fun b => .bool (p b))] = some (.z, .bool ((ns.map p).all id)) := by
  unfold dAll
  dsimp only
  rw [bools_mapP]
  rfl
theorem any_b {α : Type} {p : α → Bool} {ns : List α} : dAny [.list (ns.map fun b => .bool (p b))] = some (.z, .bool ((ns.map p).any id)) := by
  unfold dAny
  dsimp only
  rw [bools_mapP]
  rfl
/-- a comprehension over integers, all of them taken -/
theorem comp_ints {i : Nat} {c : Ev → Out Bool} {fe : Ev → Out D} {Γ : Ev} (f : Int → D) (ns : List Int) (h0 : Γ.set i none = Γ) (hc : ∀ n ∈ ns, c (Γ.set i (some (.z, .int n))) = .ok true (Γ.set i (some (.z, .int n)))) (hf : ∀ n ∈ ns, fe (Γ.set i (some (.z, .int n))) = .ok (f n) (Γ.set i (some (.z, .int n)))) : compL [i] (gN i) c fe (ns.map .int) Γ = some (ns.map f, Γ) := by
  have := comp_gen (is := [i]) (t := gN i) (c := c) (fe := fe) (Γ := Γ) (fun d => match d with | .int n => f n | _ => .none) (fun _ => true) (ns.map .int) (fun d hd => by
    obtain ⟨n, hn, rfl⟩ := List.mem_map.mp hd
    refine ⟨_, rfl, hc n hn, fun _ => hf n hn, ?_⟩
    unfold wipeG
    show (wipeG _ []).set i none = Γ
    unfold wipeG
    rw [List.set_set, h0])
  rw [this, List.filter_eq_self.mpr fun _ _ => rfl, List.map_map]
  rfl
theorem lay_ints : ∀ ns : List Int, PyData.canLayAll0 (ns.map .int) = true
  | [] => by simp only [List.map_nil, PyData.canLayAll0]
  | n :: ns => by simp only [List.map_cons, PyData.canLayAll0, PyData.canLay0, lay_ints ns, Bool.and_self]
theorem depth_ints : ∀ ns : List Int, PyData.depthAll (ns.map .int) = 0
  | [] => by simp only [List.map_nil, PyData.depthAll]
  | n :: ns => by simp only [List.map_cons, PyData.depthAll, PyData.depth, depth_ints ns, Nat.max_self]
theorem eqv_ints : ∀ a b : List Int, PyData.eqvAll (a.map .int) (b.map .int) = decide (a = b)
  | [], [] => by simp [PyData.eqvAll]
  | [], b :: bs => by simp [PyData.eqvAll]
  | a :: as, [] => by simp [PyData.eqvAll]
  | a :: as, b :: bs => by
    simp only [List.map_cons, PyData.eqvAll, PyData.eqv, eqv_ints as bs, List.cons.injEq, Bool.decide_and]
    congr 1
theorem shaped_L (a : List Int) : SeqAt.shaped (L a) = true := by
  unfold SeqAt.shaped L
  simp only [PyData.canLay0, PyData.depth, lay_ints, depth_ints, Bool.true_and]
  decide
theorem eq_L {a b : List Int} : dEq (.list (a.map .int)) (.list (b.map .int)) = some (.z, .bool (decide (a = b))) := by
  show b2 (dEqv _ _) = _
  unfold dEqv
  rw [shaped_L, shaped_L]
  simp only [Bool.and_self, if_true, PyData.eqv, eqv_ints]
  rfl
theorem ne_LL {a b : List Int} : dNe (.list [.list (a.map .int), .list (b.map .int)]) (.list [.list (a.map .int), .list (b.map .int)]) = some (.z, .bool false) := by
  show b2 ((dEqv _ _).map not) = _
  unfold dEqv
  have : SeqAt.shaped (.list [.list (a.map .int), .list (b.map .int)]) = true := by
    unfold SeqAt.shaped
    simp only [PyData.canLay0, PyData.canLayAll0, PyData.depth, PyData.depthAll, lay_ints, depth_ints, Bool.true_and, Bool.and_true]
    decide
  rw [this]
  simp only [Bool.and_self, if_true, PyData.eqv, PyData.eqvAll, eqv_ints, decide_true]
  rfl
theorem isi_int {i : Int} : dIsi "int" (.int i) = some (.bool true) := by
  show some (PyData.bool (isB "int" "int")) = _
  rw [show isB "int" "int" = true by decide]
theorem isi_intb {i : Int} : dIsi "bool" (.int i) = some (.bool false) := by
  show some (PyData.bool (isB "int" "bool")) = _
  rw [show isB "int" "bool" = false by decide]
theorem isi_list {ds : List D} : dIsi "list" (.list ds) = some (.bool true) := by
  show some (PyData.bool (isB "list" "list")) = _
  rw [show isB "list" "list" = true by decide]
def tryC (o : Option Bool) (e : Exc) (Γ : Ev) (r : SO) : SO := match o with
  | some true => (match r with | .ex _ _ => .st | r => r)
  | some false => .ex e Γ
  | none => .st
def tryE (m : Str → Option Bool) (fs : Ev → SO) (r : SO) : SO := match r with
  | .ex e Γ1 => tryC (m e.c) e Γ1 (fs Γ1)
  | r => r
theorem sTry_ap {m : Str → Option Bool} {fb fs : Ev → SO} {Γ : Ev} : sTry m fb fs Γ = tryE m fs (fb Γ) := id rfl
theorem tryE_ex {m : Str → Option Bool} {fs : Ev → SO} {e : Exc} {Γ : Ev} : tryE m fs (.ex e Γ) = tryC (m e.c) e Γ (fs Γ) := id rfl
theorem tryE_nx {m : Str → Option Bool} {fs : Ev → SO} {Γ : Ev} : tryE m fs (.nx Γ) = .nx Γ := id rfl
theorem tryE_rt {m : Str → Option Bool} {fs : Ev → SO} {x : Va} {Γ : Ev} : tryE m fs (.rt x Γ) = .rt x Γ := id rfl
theorem tryC_nx {e : Exc} {Γ Γ1 : Ev} : tryC (some true) e Γ (.nx Γ1) = .nx Γ1 := id rfl
theorem tryC_rt {e : Exc} {Γ Γ1 : Ev} {x : Va} : tryC (some true) e Γ (.rt x Γ1) = .rt x Γ1 := id rfl
theorem tryC_f {e : Exc} {Γ : Ev} {r : SO} : tryC (some false) e Γ r = .ex e Γ := id rfl
theorem eq_str {i j : Str} : dEq (.str i) (.str j) = some (.z, .bool (decide (i = j))) := id rfl
theorem cut_to {α : Type} (ds : List α) (k : Nat) : cut ds none (some (k : Int)) = ds.take k := by
  unfold cut
  rw [HT.sIx_nat, HT.sIx_none, List.drop_zero, Nat.sub_zero]
  by_cases c : k ≤ ds.length
  · rw [Nat.min_eq_left c]
  · rw [Nat.min_eq_right (by omega), List.take_of_length_le (Nat.le_refl _), List.take_of_length_le (by omega)]
theorem cut_from {α : Type} (ds : List α) (k : Nat) : cut ds (some (k : Int)) none = ds.drop k := by
  unfold cut
  rw [HT.sIx_nat, HT.sIx_none, List.take_of_length_le (by rw [List.length_drop]; omega)]
  by_cases c : k ≤ ds.length
  · rw [Nat.min_eq_left c]
  · rw [Nat.min_eq_right (by omega), List.drop_of_length_le (Nat.le_refl _), List.drop_of_length_le (by omega)]
theorem cut_from1 {α : Type} (ds : List α) (k : Nat) : cut ds (some ((k : Int) + 1)) none = ds.drop (k + 1) := cut_from ds (k + 1)
theorem cut_mid {α : Type} (ds : List α) (a b : Nat) (h1 : a ≤ ds.length) (h2 : a + b ≤ ds.length) : cut ds (some (a : Int)) (some ((a : Int) + (b : Int))) = (ds.drop a).take b := by
  unfold cut
  rw [show (a : Int) + (b : Int) = ((a + b : Nat) : Int) by omega, HT.sIx_nat, HT.sIx_nat, Nat.min_eq_left h1, Nat.min_eq_left h2, Nat.add_sub_cancel_left]
theorem cut_l {ds : List D} {lo hi : Option Int} : dCut (.list ds) lo hi = some (.l .z, .list (cut ds lo hi)) := id rfl
theorem cut_t {ds : List D} {lo hi : Option Int} : dCut (.tuple ds) lo hi = some (.z, .tuple (cut ds lo hi)) := id rfl
theorem cat_l {a b : List D} (h : a.length + b.length ≤ 16777216) : dAdd (.list a) (.list b) = some (.l .z, .list (a ++ b)) := if_pos h
theorem fGet2_rs {fd fk fx : Ev → Out D} {Γ Γ1 : Ev} {rs : List (D × D)} (h : fd Γ = .ok (.dict rs) Γ1) (hk : (rs.all fun p => (dKey p.1).isSome) = true) : fGet2 fd fk fx Γ = (fk Γ1).bind fun k Γ2 => (fx Γ2).bind fun x Γ3 => .of ((dKey k).map fun y => (dLook rs y).getD x) Γ3 := by
  unfold fGet2
  rw [h]
  show (if _ then _ else _) = _
  rw [if_pos hk]
theorem set_ap {i : Nat} {fv fk : Ev → Out D} {Γ : Ev} : sSet i fv fk Γ = sB (fv Γ) fun d Γ1 => setS (Γ1[i]?) (sB (fk Γ1) fun k Γ2 => setE i d (Γ2[i]?) k Γ2) := id rfl
theorem setS_l {ds : List D} {r : SO} : setS (some (some (.l .z, .list ds))) r = r := id rfl
theorem setE_l {i : Nat} {d : D} {ds : List D} {n : Int} {j : Nat} {Γ : Ev} (h : L2.ixN ds.length n = some j) : setE i d (some (some (.l .z, .list ds))) (.int n) Γ = .nx (Γ.set i (some (.l .z, .list (ds.set j d)))) := by
  unfold setE
  dsimp only
  rw [h]
theorem vDct1_ap {fk fv : Ev → Out D} {Γ : Ev} : vDct1 fk fv Γ = (fk Γ).bind fun k Γ1 => (fv Γ1).bind fun d Γ2 => .of ((dKey k).map fun _ => ((.d .z, PyData.dict [(k, d)]) : Va)) Γ2 := id rfl
def chE (op' : D → D → Option Va) (b c : Opn) (y : D) (o : Option Va) (Γ2 : Ev) : Out D := match o with
  | some (.z, .bool true) => (c.f Γ2).bind fun w Γ3 => .of (((b.l Γ3 y).bind fun y => (c.l Γ3 w).bind fun w => op' y w).bind fun z => match z with | (.z, .bool k) => some (.bool k) | _ => none) Γ3
  | some (.z, .bool false) => .ok (.bool false) Γ2
  | _ => .st
theorem vch_ap {op op' : D → D → Option Va} {a b c : Opn} {Γ : Ev} : vCh op op' a b c Γ = (a.f Γ).bind fun x Γ1 => (b.f Γ1).bind fun y Γ2 => chE op' b c y ((a.l Γ2 x).bind fun x => (b.l Γ2 y).bind fun y => op x y) Γ2 := by
  unfold vCh
  congr 1
def chB (z : Va) : Option D := match z with | (.z, .bool k) => some (.bool k) | _ => none
theorem chB_b {k : Bool} : chB (.z, .bool k) = some (.bool k) := id rfl
theorem chE_t {op' : D → D → Option Va} {b c : Opn} {y : D} {Γ2 : Ev} : chE op' b c y (some (.z, .bool true)) Γ2 = (c.f Γ2).bind fun w Γ3 => .of (((b.l Γ3 y).bind fun y => (c.l Γ3 w).bind fun w => op' y w).bind chB) Γ3 := by
  unfold chE
  congr 1
theorem chE_f {op' : D → D → Option Va} {b c : Opn} {y : D} {Γ2 : Ev} : chE op' b c y (some (.z, .bool false)) Γ2 = .ok (.bool false) Γ2 := id rfl
end PV
namespace PV
open PySem
theorem gT_t {u : List D → Ev → Option Ev} {ds : List D} {Γ : Ev} : gT u (.tuple ds) Γ = u ds Γ := id rfl
theorem gsC_c {t : D → Ev → Option Ev} {u : List D → Ev → Option Ev} {d : D} {r : List D} {Γ : Ev} : gsC t u (d :: r) Γ = (t d Γ).bind (u r) := id rfl
theorem gsN_n {Γ : Ev} : gsN [] Γ = some Γ := id rfl
theorem gN_ap {i : Nat} {d : D} {Γ : Ev} : gN i d Γ = some (Γ.set i (some (.z, d))) := id rfl
theorem ne_L {a b : List Int} : dNe (.list (a.map .int)) (.list (b.map .int)) = some (.z, .bool !(decide (a = b))) := by
  show b2 ((dEqv _ _).map not) = _
  unfold dEqv
  rw [shaped_L, shaped_L]
  simp only [Bool.and_self, if_true, PyData.eqv, eqv_ints]
  rfl
theorem nin01 {v : Int} : dNin (.int v) (.tuple [.int 0, .int 1]) = some (.z, .bool !(decide (v = 0) || decide (v = 1))) := by
  unfold dNin dInB
  dsimp only
  have h : (dFlat (.int v) && ([PyData.int 0, PyData.int 1] : List D).all dFlat) = true := rfl
  rw [if_pos h]
  simp only [List.any_cons, List.any_nil, PyData.eqv, Bool.or_false, Option.map_some, b2]
  have q : ∀ k : Int, (k == v) = decide (v = k) := fun k => by
    by_cases e : v = k
    · subst e
      rw [decide_eq_true rfl]
      exact beq_self_eq_true _
    · rw [decide_eq_false e]; exact beq_eq_false_iff_ne.mpr fun z => e z.symm
  rw [q, q]
end PV
namespace K09
open PySem PV
theorem parts_turn (cell rest s : Int) (sizes ps : List Int) (k : Nat) (mv : Option Va) (h : sizes[k]? = some s) (hs : 0 < s) (hs2 : s < 2 ^ 62) (hp : ps.length < 100) :
    ∃ x rest' mv', lb_law_parts_1 [some (.z, .int cell), some (.z, L sizes), some (.l .z, L ps), some (.z, .int rest), some (.z, .int k), mv] = .nx [some (.z, .int cell), some (.z, L sizes), some (.l .z, L (ps ++ [x % s])), some (.z, .int rest'), some (.z, .int k), mv'] := by
  unfold lb_law_parts_1
  by_cases c : 0 ≤ rest
  · refine ⟨rest, rest / s, mv, ?_⟩
    simp (disch := omega) only [runD_ap, seq_eq, then_nx, then_rt, then_ex, then_ct, then_bk, sB_ok, sB_ex, bind_ok, bind_ex, of_some, gZ_z, gB_s, gBl_l, gBl_z, gF_s, gM_s, fC_ap, fN_ap, fZ_ap, vMv_ap, fV_ap, vF_ap, oF_f, oF_l, oB_f, oB_l, osN_f, osN_l, osC_f, osC_l, o2_ap, fB_ap, fsN_ap, fsC_ap, fLst_ap, fTup_ap, fMt_ap, mtS_l, mtE_l, bB_b, bV_ap, bBo_b, bF_ap, bO_ap, bNot_ap, bAnd_ap, bOr_ap, vIf_ap, vA_b, vO_b, vAnd_ap, vOr_ap, dNot_b, fNot_ap, dNg_i, fNeg_ap, fPN_ap, dPs_i, fPS_ap, vCut_ap, fIsi_ap, rOut_ok, rOut_ex, fCall_ap, fDct0_ap, dIterL_l, dIterL_t, iLT_ap, iR1_ap, iR2_ap, iEn_ap, iZp_ap, vLR1_ap, sNx_ap, sAsg_ap, sRet_ap, sExp_ap, sIf_ap, sFor_ap, oNx_s, sTgt_ap, fzE_s, sFz_ap, sRaise_ap, res_nx, res_rt, res_ex, st0, List.map_cons, List.map_nil, List.length_cons, List.length_nil, List.replicate_succ, List.replicate_zero, List.cons_append, List.nil_append, List.append_nil, List.getElem?_cons_zero, List.getElem?_cons_succ, List.set_cons_zero, List.set_cons_succ, Option.bind_some, Option.map_some, dTru, at_t0, at_t1, at_t2, at_t3, at_l0, at_l1, at_l2, at_l3, eq_int, ne_int, lt_int, gt_int, le_int, ge_int, add_int, sub_int, int_int, int_bool, len_l, len_t, len_scr, dListOf, dTupOf, decide_eq_true_eq, List.length_map, Nat.reduceAdd, Nat.reduceSub, Nat.reduceLeDiff, Nat.zero_add, if_true, if_false, ↓reduceIte, Bool.false_eq_true, Bool.not_true, Bool.not_false, fIn_ap, fGet_ap, inT_f, inT_t, gtT_s, key_i, isS_s, isS_n, map_none, sum_int, all_b, any_b, isi_int, isi_intb, isi_list, sTry_ap, tryE_ex, tryE_nx, tryE_rt, tryC_nx, tryC_rt, tryC_f, at_int h, app_int, mod_ok, div_ok, decide_eq_true c]
  · refine ⟨?_, rest, ?_, ?_⟩
    rotate_right 1
    · have m1 : ∀ x : Int, dMul (.int x) (.int 48271) = some (.z, .int (x * 48271)) := fun x => mul_ok (.inr (by decide))
      have m2 : ∀ x : Int, dMul (.int x) (.int 69621) = some (.z, .int (x * 69621)) := fun x => mul_ok (.inr (by decide))
      have m3 : ∀ x : Int, dMul (.int 16807) (.int x) = some (.z, .int (16807 * x)) := fun x => mul_ok (.inl (by decide))
      have m4 : ∀ x : Int, dMul (.int (x % 2147483647)) (.int (x % 2147483647)) = some (.z, .int (x % 2147483647 * (x % 2147483647))) := fun x => mul_ok (.inl (by omega))
      simp (disch := omega) only [runD_ap, seq_eq, then_nx, then_rt, then_ex, then_ct, then_bk, sB_ok, sB_ex, bind_ok, bind_ex, of_some, gZ_z, gB_s, gBl_l, gBl_z, gF_s, gM_s, fC_ap, fN_ap, fZ_ap, vMv_ap, fV_ap, vF_ap, oF_f, oF_l, oB_f, oB_l, osN_f, osN_l, osC_f, osC_l, o2_ap, fB_ap, fsN_ap, fsC_ap, fLst_ap, fTup_ap, fMt_ap, mtS_l, mtE_l, bB_b, bV_ap, bBo_b, bF_ap, bO_ap, bNot_ap, bAnd_ap, bOr_ap, vIf_ap, vA_b, vO_b, vAnd_ap, vOr_ap, dNot_b, fNot_ap, dNg_i, fNeg_ap, fPN_ap, dPs_i, fPS_ap, vCut_ap, fIsi_ap, rOut_ok, rOut_ex, fCall_ap, fDct0_ap, dIterL_l, dIterL_t, iLT_ap, iR1_ap, iR2_ap, iEn_ap, iZp_ap, vLR1_ap, sNx_ap, sAsg_ap, sRet_ap, sExp_ap, sIf_ap, sFor_ap, oNx_s, sTgt_ap, fzE_s, sFz_ap, sRaise_ap, res_nx, res_rt, res_ex, st0, List.map_cons, List.map_nil, List.length_cons, List.length_nil, List.replicate_succ, List.replicate_zero, List.cons_append, List.nil_append, List.append_nil, List.getElem?_cons_zero, List.getElem?_cons_succ, List.set_cons_zero, List.set_cons_succ, Option.bind_some, Option.map_some, dTru, at_t0, at_t1, at_t2, at_t3, at_l0, at_l1, at_l2, at_l3, eq_int, ne_int, lt_int, gt_int, le_int, ge_int, add_int, sub_int, int_int, int_bool, len_l, len_t, len_scr, dListOf, dTupOf, decide_eq_true_eq, List.length_map, Nat.reduceAdd, Nat.reduceSub, Nat.reduceLeDiff, Nat.zero_add, if_true, if_false, ↓reduceIte, Bool.false_eq_true, Bool.not_true, Bool.not_false, fIn_ap, fGet_ap, inT_f, inT_t, gtT_s, key_i, isS_s, isS_n, map_none, sum_int, all_b, any_b, isi_int, isi_intb, isi_list, sTry_ap, tryE_ex, tryE_nx, tryE_rt, tryC_nx, tryC_rt, tryC_f, at_int h, app_int, mod_ok, div_ok, decide_eq_false c, m1, m2, m3, m4]
      rfl
theorem parts_ok (cell : Int) (sizes : List Int) (hl : sizes.length ≤ 4) (hs : ∀ s ∈ sizes, 0 < s ∧ s < 2 ^ 62) : ∃ ps : List Int, F_law_parts [.int cell, L sizes] = .ok (.l .z, L ps) ∧ ps.length = sizes.length ∧ ∀ (i : Nat) (p s : Int), ps[i]? = some p → sizes[i]? = some s → 0 ≤ p ∧ p < s := by
  have hh : ∃ Γ', sForL (gN 4) lb_law_parts_1 (rangeL 0 sizes.length) [some (.z, .int cell), some (.z, L sizes), some (.l .z, .list []), some (.z, .int (cell - 10 ^ (18 : Int).toNat)), none, none] = .nx Γ' ∧ ∃ (ps : List Int) (rest : Int) (kv mv : Option Va), Γ' = [some (.z, .int cell), some (.z, L sizes), some (.l .z, L ps), some (.z, .int rest), kv, mv] ∧ ps.length = 0 + (rangeL 0 sizes.length).length ∧ ∀ (i : Nat) (p s : Int), ps[i]? = some p → sizes[i]? = some s → 0 ≤ p ∧ p < s :=
    forL_inv (fun j Γ => ∃ (ps : List Int) (rest : Int) (kv mv : Option Va), Γ = [some (.z, .int cell), some (.z, L sizes), some (.l .z, L ps), some (.z, .int rest), kv, mv] ∧ ps.length = j ∧ ∀ (i : Nat) (p s : Int), ps[i]? = some p → sizes[i]? = some s → 0 ≤ p ∧ p < s) (rangeL 0 sizes.length) 0 _ ⟨[], _, none, none, rfl, rfl, fun i p s h => by cases i <;> cases h⟩ (by
      rintro i d Γ hd ⟨ps, rest, kv, mv, rfl, h1, h2⟩
      obtain ⟨hi, rfl⟩ := range0_get hd
      have hg : sizes[i]? = some sizes[i] := List.getElem?_eq_getElem hi
      have hx := hs _ (List.getElem_mem hi)
      obtain ⟨x, rest', mv', e⟩ := parts_turn cell rest sizes[i] sizes ps i mv hg hx.1 hx.2 (by omega)
      refine ⟨_, _, rfl, .inl e, _, _, _, _, rfl, by simp only [List.length_append, List.length_cons, List.length_nil]; omega, fun j p s hp hz => ?_⟩
      by_cases c : j < ps.length
      · rw [List.getElem?_append_left c] at hp
        exact h2 j p s hp hz
      · rw [List.getElem?_append_right (by omega)] at hp
        have : j = ps.length := by
          by_cases q : j = ps.length
          · exact q
          · rw [List.getElem?_eq_none (by simp only [List.length_cons, List.length_nil]; omega)] at hp; cases hp
        subst this
        rw [Nat.sub_self] at hp
        have := Option.some.inj hp
        subst this
        have : s = sizes[i] := by
          have e : ps.length = i := by omega
          rw [e, hg] at hz
          exact (Option.some.inj hz).symm
        subst this
        exact ⟨Int.emod_nonneg _ (by omega), Int.emod_lt_of_pos _ (by omega)⟩)
  obtain ⟨Γ', e, ps, rest, kv, mv, rfl, h1, h2⟩ := hh
  refine ⟨ps, ?_, by rw [h1, range_len]; omega, h2⟩
  unfold F_law_parts fb_law_parts
  have p10 : dPow (.int 10) (.int 18) = some (.z, .int (10 ^ (18 : Int).toNat)) := by unfold dPow; exact if_pos (by decide)
  simp (disch := omega) only [runD_ap, seq_eq, then_nx, then_rt, then_ex, then_ct, then_bk, sB_ok, sB_ex, bind_ok, bind_ex, of_some, gZ_z, gB_s, gBl_l, gBl_z, gF_s, gM_s, fC_ap, fN_ap, fZ_ap, vMv_ap, fV_ap, vF_ap, oF_f, oF_l, oB_f, oB_l, osN_f, osN_l, osC_f, osC_l, o2_ap, fB_ap, fsN_ap, fsC_ap, fLst_ap, fTup_ap, fMt_ap, mtS_l, mtE_l, bB_b, bV_ap, bBo_b, bF_ap, bO_ap, bNot_ap, bAnd_ap, bOr_ap, vIf_ap, vA_b, vO_b, vAnd_ap, vOr_ap, dNot_b, fNot_ap, dNg_i, fNeg_ap, fPN_ap, dPs_i, fPS_ap, vCut_ap, fIsi_ap, rOut_ok, rOut_ex, fCall_ap, fDct0_ap, dIterL_l, dIterL_t, iLT_ap, iR1_ap, iR2_ap, iEn_ap, iZp_ap, vLR1_ap, sNx_ap, sAsg_ap, sRet_ap, sExp_ap, sIf_ap, sFor_ap, oNx_s, sTgt_ap, fzE_s, sFz_ap, sRaise_ap, res_nx, res_rt, res_ex, st0, List.map_cons, List.map_nil, List.length_cons, List.length_nil, List.replicate_succ, List.replicate_zero, List.cons_append, List.nil_append, List.append_nil, List.getElem?_cons_zero, List.getElem?_cons_succ, List.set_cons_zero, List.set_cons_succ, Option.bind_some, Option.map_some, dTru, at_t0, at_t1, at_t2, at_t3, at_l0, at_l1, at_l2, at_l3, eq_int, ne_int, lt_int, gt_int, le_int, ge_int, add_int, sub_int, int_int, int_bool, len_l, len_t, len_scr, dListOf, dTupOf, decide_eq_true_eq, List.length_map, Nat.reduceAdd, Nat.reduceSub, Nat.reduceLeDiff, Nat.zero_add, if_true, if_false, ↓reduceIte, Bool.false_eq_true, Bool.not_true, Bool.not_false, fIn_ap, fGet_ap, inT_f, inT_t, gtT_s, key_i, isS_s, isS_n, map_none, sum_int, all_b, any_b, isi_int, isi_intb, isi_list, sTry_ap, tryE_ex, tryE_nx, tryE_rt, tryC_nx, tryC_rt, tryC_f, if_pos, Int.toNat_natCast, p10, e]
theorem cell_ok (ns : List Int) (k : Int) (h : 0 ≤ k) : ∃ x : Int, F_law_cell [scr ns, .int k] = .ok (.z, .int x) := by
  unfold F_law_cell fb_law_cell
  by_cases c : k < ns.length
  · obtain ⟨n, rfl⟩ := Int.eq_ofNat_of_zero_le h
    have hg : ns[n]? = some (ns[n]'(by omega)) := List.getElem?_eq_getElem _
    refine ⟨ns[n]'(by omega), ?_⟩
    simp (disch := omega) only [runD_ap, seq_eq, then_nx, then_rt, then_ex, then_ct, then_bk, sB_ok, sB_ex, bind_ok, bind_ex, of_some, gZ_z, gB_s, gBl_l, gBl_z, gF_s, gM_s, fC_ap, fN_ap, fZ_ap, vMv_ap, fV_ap, vF_ap, oF_f, oF_l, oB_f, oB_l, osN_f, osN_l, osC_f, osC_l, o2_ap, fB_ap, fsN_ap, fsC_ap, fLst_ap, fTup_ap, fMt_ap, mtS_l, mtE_l, bB_b, bV_ap, bBo_b, bF_ap, bO_ap, bNot_ap, bAnd_ap, bOr_ap, vIf_ap, vA_b, vO_b, vAnd_ap, vOr_ap, dNot_b, fNot_ap, dNg_i, fNeg_ap, fPN_ap, dPs_i, fPS_ap, vCut_ap, fIsi_ap, rOut_ok, rOut_ex, fCall_ap, fDct0_ap, dIterL_l, dIterL_t, iLT_ap, iR1_ap, iR2_ap, iEn_ap, iZp_ap, vLR1_ap, sNx_ap, sAsg_ap, sRet_ap, sExp_ap, sIf_ap, sFor_ap, oNx_s, sTgt_ap, fzE_s, sFz_ap, sRaise_ap, res_nx, res_rt, res_ex, st0, List.map_cons, List.map_nil, List.length_cons, List.length_nil, List.replicate_succ, List.replicate_zero, List.cons_append, List.nil_append, List.append_nil, List.getElem?_cons_zero, List.getElem?_cons_succ, List.set_cons_zero, List.set_cons_succ, Option.bind_some, Option.map_some, dTru, at_t0, at_t1, at_t2, at_t3, at_l0, at_l1, at_l2, at_l3, eq_int, ne_int, lt_int, gt_int, le_int, ge_int, add_int, sub_int, int_int, int_bool, len_l, len_t, len_scr, dListOf, dTupOf, decide_eq_true_eq, List.length_map, Nat.reduceAdd, Nat.reduceSub, Nat.reduceLeDiff, Nat.zero_add, if_true, if_false, ↓reduceIte, Bool.false_eq_true, Bool.not_true, Bool.not_false, fIn_ap, fGet_ap, inT_f, inT_t, gtT_s, key_i, isS_s, isS_n, map_none, sum_int, all_b, any_b, isi_int, isi_intb, isi_list, sTry_ap, tryE_ex, tryE_nx, tryE_rt, tryC_nx, tryC_rt, tryC_f, decide_eq_true c, at_scr hg]
  · refine ⟨0, ?_⟩
    simp (disch := omega) only [runD_ap, seq_eq, then_nx, then_rt, then_ex, then_ct, then_bk, sB_ok, sB_ex, bind_ok, bind_ex, of_some, gZ_z, gB_s, gBl_l, gBl_z, gF_s, gM_s, fC_ap, fN_ap, fZ_ap, vMv_ap, fV_ap, vF_ap, oF_f, oF_l, oB_f, oB_l, osN_f, osN_l, osC_f, osC_l, o2_ap, fB_ap, fsN_ap, fsC_ap, fLst_ap, fTup_ap, fMt_ap, mtS_l, mtE_l, bB_b, bV_ap, bBo_b, bF_ap, bO_ap, bNot_ap, bAnd_ap, bOr_ap, vIf_ap, vA_b, vO_b, vAnd_ap, vOr_ap, dNot_b, fNot_ap, dNg_i, fNeg_ap, fPN_ap, dPs_i, fPS_ap, vCut_ap, fIsi_ap, rOut_ok, rOut_ex, fCall_ap, fDct0_ap, dIterL_l, dIterL_t, iLT_ap, iR1_ap, iR2_ap, iEn_ap, iZp_ap, vLR1_ap, sNx_ap, sAsg_ap, sRet_ap, sExp_ap, sIf_ap, sFor_ap, oNx_s, sTgt_ap, fzE_s, sFz_ap, sRaise_ap, res_nx, res_rt, res_ex, st0, List.map_cons, List.map_nil, List.length_cons, List.length_nil, List.replicate_succ, List.replicate_zero, List.cons_append, List.nil_append, List.append_nil, List.getElem?_cons_zero, List.getElem?_cons_succ, List.set_cons_zero, List.set_cons_succ, Option.bind_some, Option.map_some, dTru, at_t0, at_t1, at_t2, at_t3, at_l0, at_l1, at_l2, at_l3, eq_int, ne_int, lt_int, gt_int, le_int, ge_int, add_int, sub_int, int_int, int_bool, len_l, len_t, len_scr, dListOf, dTupOf, decide_eq_true_eq, List.length_map, Nat.reduceAdd, Nat.reduceSub, Nat.reduceLeDiff, Nat.zero_add, if_true, if_false, ↓reduceIte, Bool.false_eq_true, Bool.not_true, Bool.not_false, fIn_ap, fGet_ap, inT_f, inT_t, gtT_s, key_i, isS_s, isS_n, map_none, sum_int, all_b, any_b, isi_int, isi_intb, isi_list, sTry_ap, tryE_ex, tryE_nx, tryE_rt, tryC_nx, tryC_rt, tryC_f, decide_eq_false c]
end K09
namespace K09
open PySem PV
theorem q_latch_latch : dEq (.str (S "latch")) (.str (S "latch")) = some (.z, .bool true) := id rfl
theorem qn_latch_latch : dNe (.str (S "latch")) (.str (S "latch")) = some (.z, .bool false) := id rfl
theorem q_latch_not : dEq (.str (S "latch")) (.str (S "not")) = some (.z, .bool false) := id rfl
theorem qn_latch_not : dNe (.str (S "latch")) (.str (S "not")) = some (.z, .bool true) := id rfl
theorem iw_latch : dIn (.str (S "latch")) (.list [.str (S "nand2"), .str (S "nor2"), .str (S "nand3"), .str (S "nor3")]) = some (.z, .bool false) := id rfl
theorem it_latch : dIn (.str (S "latch")) (.list [.str (S "tie0"), .str (S "tie1")]) = some (.z, .bool false) := id rfl
theorem in_latch : dIn (.str (S "latch")) kd_NANDS = some (.z, .bool false) := id rfl
theorem q_tie0_latch : dEq (.str (S "tie0")) (.str (S "latch")) = some (.z, .bool false) := id rfl
theorem qn_tie0_latch : dNe (.str (S "tie0")) (.str (S "latch")) = some (.z, .bool true) := id rfl
theorem q_tie0_not : dEq (.str (S "tie0")) (.str (S "not")) = some (.z, .bool false) := id rfl
theorem qn_tie0_not : dNe (.str (S "tie0")) (.str (S "not")) = some (.z, .bool true) := id rfl
theorem iw_tie0 : dIn (.str (S "tie0")) (.list [.str (S "nand2"), .str (S "nor2"), .str (S "nand3"), .str (S "nor3")]) = some (.z, .bool false) := id rfl
theorem it_tie0 : dIn (.str (S "tie0")) (.list [.str (S "tie0"), .str (S "tie1")]) = some (.z, .bool true) := id rfl
theorem in_tie0 : dIn (.str (S "tie0")) kd_NANDS = some (.z, .bool false) := id rfl
theorem lk_tie0 : tab_CONSTANTS.lookup (S "tie0") = some (some (.int 0)) := id rfl
theorem ct_tie0 : dCut (.str (S "tie0")) none (some 3) = some (.z, .str (S "tie")) := id rfl
theorem la_tie0 : dAt (.str (S "tie0")) (.int (-1)) = some (.z, .str (S "0")) := id rfl
theorem l3_tie0 : dAt (.str (S "tie0")) (.int 3) = some (.z, .str (S "0")) := id rfl
theorem q_tie1_latch : dEq (.str (S "tie1")) (.str (S "latch")) = some (.z, .bool false) := id rfl
theorem qn_tie1_latch : dNe (.str (S "tie1")) (.str (S "latch")) = some (.z, .bool true) := id rfl
theorem q_tie1_not : dEq (.str (S "tie1")) (.str (S "not")) = some (.z, .bool false) := id rfl
theorem qn_tie1_not : dNe (.str (S "tie1")) (.str (S "not")) = some (.z, .bool true) := id rfl
theorem iw_tie1 : dIn (.str (S "tie1")) (.list [.str (S "nand2"), .str (S "nor2"), .str (S "nand3"), .str (S "nor3")]) = some (.z, .bool false) := id rfl
theorem it_tie1 : dIn (.str (S "tie1")) (.list [.str (S "tie0"), .str (S "tie1")]) = some (.z, .bool true) := id rfl
theorem in_tie1 : dIn (.str (S "tie1")) kd_NANDS = some (.z, .bool false) := id rfl
theorem lk_tie1 : tab_CONSTANTS.lookup (S "tie1") = some (some (.int 1)) := id rfl
theorem ct_tie1 : dCut (.str (S "tie1")) none (some 3) = some (.z, .str (S "tie")) := id rfl
theorem la_tie1 : dAt (.str (S "tie1")) (.int (-1)) = some (.z, .str (S "1")) := id rfl
theorem l3_tie1 : dAt (.str (S "tie1")) (.int 3) = some (.z, .str (S "1")) := id rfl
theorem q_not_latch : dEq (.str (S "not")) (.str (S "latch")) = some (.z, .bool false) := id rfl
theorem qn_not_latch : dNe (.str (S "not")) (.str (S "latch")) = some (.z, .bool true) := id rfl
theorem q_not_not : dEq (.str (S "not")) (.str (S "not")) = some (.z, .bool true) := id rfl
theorem qn_not_not : dNe (.str (S "not")) (.str (S "not")) = some (.z, .bool false) := id rfl
theorem iw_not : dIn (.str (S "not")) (.list [.str (S "nand2"), .str (S "nor2"), .str (S "nand3"), .str (S "nor3")]) = some (.z, .bool false) := id rfl
theorem it_not : dIn (.str (S "not")) (.list [.str (S "tie0"), .str (S "tie1")]) = some (.z, .bool false) := id rfl
theorem in_not : dIn (.str (S "not")) kd_NANDS = some (.z, .bool true) := id rfl
theorem lk_not : tab_CONSTANTS.lookup (S "not") = some (none) := id rfl
theorem ct_not : dCut (.str (S "not")) none (some 3) = some (.z, .str (S "not")) := id rfl
theorem q_nand2_latch : dEq (.str (S "nand2")) (.str (S "latch")) = some (.z, .bool false) := id rfl
theorem qn_nand2_latch : dNe (.str (S "nand2")) (.str (S "latch")) = some (.z, .bool true) := id rfl
theorem q_nand2_not : dEq (.str (S "nand2")) (.str (S "not")) = some (.z, .bool false) := id rfl
theorem qn_nand2_not : dNe (.str (S "nand2")) (.str (S "not")) = some (.z, .bool true) := id rfl
theorem iw_nand2 : dIn (.str (S "nand2")) (.list [.str (S "nand2"), .str (S "nor2"), .str (S "nand3"), .str (S "nor3")]) = some (.z, .bool true) := id rfl
theorem it_nand2 : dIn (.str (S "nand2")) (.list [.str (S "tie0"), .str (S "tie1")]) = some (.z, .bool false) := id rfl
theorem in_nand2 : dIn (.str (S "nand2")) kd_NANDS = some (.z, .bool true) := id rfl
theorem lk_nand2 : tab_CONSTANTS.lookup (S "nand2") = some (none) := id rfl
theorem ct_nand2 : dCut (.str (S "nand2")) none (some 3) = some (.z, .str (S "nan")) := id rfl
theorem la_nand2 : dAt (.str (S "nand2")) (.int (-1)) = some (.z, .str (S "2")) := id rfl
theorem q_nand3_latch : dEq (.str (S "nand3")) (.str (S "latch")) = some (.z, .bool false) := id rfl
theorem qn_nand3_latch : dNe (.str (S "nand3")) (.str (S "latch")) = some (.z, .bool true) := id rfl
theorem q_nand3_not : dEq (.str (S "nand3")) (.str (S "not")) = some (.z, .bool false) := id rfl
theorem qn_nand3_not : dNe (.str (S "nand3")) (.str (S "not")) = some (.z, .bool true) := id rfl
theorem iw_nand3 : dIn (.str (S "nand3")) (.list [.str (S "nand2"), .str (S "nor2"), .str (S "nand3"), .str (S "nor3")]) = some (.z, .bool true) := id rfl
theorem it_nand3 : dIn (.str (S "nand3")) (.list [.str (S "tie0"), .str (S "tie1")]) = some (.z, .bool false) := id rfl
theorem in_nand3 : dIn (.str (S "nand3")) kd_NANDS = some (.z, .bool true) := id rfl
theorem lk_nand3 : tab_CONSTANTS.lookup (S "nand3") = some (none) := id rfl
theorem ct_nand3 : dCut (.str (S "nand3")) none (some 3) = some (.z, .str (S "nan")) := id rfl
theorem la_nand3 : dAt (.str (S "nand3")) (.int (-1)) = some (.z, .str (S "3")) := id rfl
theorem q_nor2_latch : dEq (.str (S "nor2")) (.str (S "latch")) = some (.z, .bool false) := id rfl
theorem qn_nor2_latch : dNe (.str (S "nor2")) (.str (S "latch")) = some (.z, .bool true) := id rfl
theorem q_nor2_not : dEq (.str (S "nor2")) (.str (S "not")) = some (.z, .bool false) := id rfl
theorem qn_nor2_not : dNe (.str (S "nor2")) (.str (S "not")) = some (.z, .bool true) := id rfl
theorem iw_nor2 : dIn (.str (S "nor2")) (.list [.str (S "nand2"), .str (S "nor2"), .str (S "nand3"), .str (S "nor3")]) = some (.z, .bool true) := id rfl
theorem it_nor2 : dIn (.str (S "nor2")) (.list [.str (S "tie0"), .str (S "tie1")]) = some (.z, .bool false) := id rfl
theorem in_nor2 : dIn (.str (S "nor2")) kd_NANDS = some (.z, .bool false) := id rfl
theorem lk_nor2 : tab_CONSTANTS.lookup (S "nor2") = some (none) := id rfl
theorem ct_nor2 : dCut (.str (S "nor2")) none (some 3) = some (.z, .str (S "nor")) := id rfl
theorem la_nor2 : dAt (.str (S "nor2")) (.int (-1)) = some (.z, .str (S "2")) := id rfl
theorem q_nor3_latch : dEq (.str (S "nor3")) (.str (S "latch")) = some (.z, .bool false) := id rfl
theorem qn_nor3_latch : dNe (.str (S "nor3")) (.str (S "latch")) = some (.z, .bool true) := id rfl
theorem q_nor3_not : dEq (.str (S "nor3")) (.str (S "not")) = some (.z, .bool false) := id rfl
theorem qn_nor3_not : dNe (.str (S "nor3")) (.str (S "not")) = some (.z, .bool true) := id rfl
theorem iw_nor3 : dIn (.str (S "nor3")) (.list [.str (S "nand2"), .str (S "nor2"), .str (S "nand3"), .str (S "nor3")]) = some (.z, .bool true) := id rfl
theorem it_nor3 : dIn (.str (S "nor3")) (.list [.str (S "tie0"), .str (S "tie1")]) = some (.z, .bool false) := id rfl
theorem in_nor3 : dIn (.str (S "nor3")) kd_NANDS = some (.z, .bool false) := id rfl
theorem lk_nor3 : tab_CONSTANTS.lookup (S "nor3") = some (none) := id rfl
theorem ct_nor3 : dCut (.str (S "nor3")) none (some 3) = some (.z, .str (S "nor")) := id rfl
theorem la_nor3 : dAt (.str (S "nor3")) (.int (-1)) = some (.z, .str (S "3")) := id rfl
theorem p_tie_tie : dEq (.str (S "tie")) (.str (S "tie")) = some (.z, .bool true) := id rfl
theorem p_tie_nor : dEq (.str (S "tie")) (.str (S "nor")) = some (.z, .bool false) := id rfl
theorem p_nan_tie : dEq (.str (S "nan")) (.str (S "tie")) = some (.z, .bool false) := id rfl
theorem p_nan_nor : dEq (.str (S "nan")) (.str (S "nor")) = some (.z, .bool false) := id rfl
theorem p_nor_tie : dEq (.str (S "nor")) (.str (S "tie")) = some (.z, .bool false) := id rfl
theorem p_nor_nor : dEq (.str (S "nor")) (.str (S "nor")) = some (.z, .bool true) := id rfl
theorem p_not_tie : dEq (.str (S "not")) (.str (S "tie")) = some (.z, .bool false) := id rfl
theorem p_not_nor : dEq (.str (S "not")) (.str (S "nor")) = some (.z, .bool false) := id rfl
theorem n_0 : dIntV [(.str (S "0"))] = some (.z, .int 0) := by unfold dIntV; dsimp only; rw [if_pos (by decide +kernel), show PySem.intText? (S "0") = some 0 by decide +kernel]; rfl
theorem n_1 : dIntV [(.str (S "1"))] = some (.z, .int 1) := by unfold dIntV; dsimp only; rw [if_pos (by decide +kernel), show PySem.intText? (S "1") = some 1 by decide +kernel]; rfl
theorem n_2 : dIntV [(.str (S "2"))] = some (.z, .int 2) := by unfold dIntV; dsimp only; rw [if_pos (by decide +kernel), show PySem.intText? (S "2") = some 2 by decide +kernel]; rfl
theorem n_3 : dIntV [(.str (S "3"))] = some (.z, .int 3) := by unfold dIntV; dsimp only; rw [if_pos (by decide +kernel), show PySem.intText? (S "3") = some 3 by decide +kernel]; rfl

theorem range_L (n : Nat) : rangeL 0 n = (((List.range n).map fun k => ((k : Nat) : Int)).map PyData.int) := by
  unfold rangeL
  rw [List.map_map]
  exact List.map_congr_left fun k _ => by simp
theorem drawn_ev (ps ls ls' ds : List Int) (c t : D) (j y x : Int) (k : Int) (hd : ds.length < 100) (e1 : dAt (L ps) (.int (1 + k)) = some (.z, .int x)) (e2 : mPop (ls.map .int) [.int j] = some (.int y, ls'.map .int)) (e3 : dMod (.int x) (.int (ls.length : Int)) = some (.z, .int j)) :
   lb_law_drawn_1 [some (.z, L ps), some (.z, c), some (.z, t), some (.l .z, L ls), some (.l .z, L ds), some (.z, .int k)] = .nx [some (.z, L ps), some (.z, c), some (.z, t), some (.l .z, L ls'), some (.l .z, L (ds ++ [y])), some (.z, .int k)] := by
  unfold lb_law_drawn_1
  simp (disch := omega) only [runD_ap, seq_eq, then_nx, then_rt, then_ex, then_ct, then_bk, sB_ok, sB_ex, bind_ok, bind_ex, of_some, gZ_z, gB_s, gBl_l, gBl_z, gF_s, gM_s, fC_ap, fN_ap, fZ_ap, vMv_ap, fV_ap, vF_ap, oF_f, oF_l, oB_f, oB_l, osN_f, osN_l, osC_f, osC_l, o2_ap, fB_ap, fsN_ap, fsC_ap, fLst_ap, fTup_ap, fMt_ap, mtS_l, mtE_l, bB_b, bV_ap, bBo_b, bF_ap, bO_ap, bNot_ap, bAnd_ap, bOr_ap, vIf_ap, vA_b, vO_b, vAnd_ap, vOr_ap, dNot_b, fNot_ap, dNg_i, fNeg_ap, fPN_ap, dPs_i, fPS_ap, vCut_ap, fIsi_ap, rOut_ok, rOut_ex, fCall_ap, fDct0_ap, dIterL_l, dIterL_t, iLT_ap, iR1_ap, iR2_ap, iEn_ap, iZp_ap, vLR1_ap, sNx_ap, sAsg_ap, sRet_ap, sExp_ap, sIf_ap, sFor_ap, oNx_s, sTgt_ap, fzE_s, sFz_ap, sRaise_ap, res_nx, res_rt, res_ex, st0, List.map_cons, List.map_nil, List.length_cons, List.length_nil, List.replicate_succ, List.replicate_zero, List.cons_append, List.nil_append, List.append_nil, List.getElem?_cons_zero, List.getElem?_cons_succ, List.set_cons_zero, List.set_cons_succ, Option.bind_some, Option.map_some, dTru, at_t0, at_t1, at_t2, at_t3, at_l0, at_l1, at_l2, at_l3, eq_int, ne_int, lt_int, gt_int, le_int, ge_int, add_int, sub_int, int_int, int_bool, len_l, len_t, len_scr, dListOf, dTupOf, decide_eq_true_eq, List.length_map, Nat.reduceAdd, Nat.reduceSub, Nat.reduceLeDiff, Nat.zero_add, if_true, if_false, ↓reduceIte, Bool.false_eq_true, Bool.not_true, Bool.not_false, fIn_ap, fGet_ap, inT_f, inT_t, gtT_s, key_i, isS_s, isS_n, map_none, sum_int, all_b, any_b, isi_int, isi_intb, isi_list, sTry_ap, tryE_ex, tryE_nx, tryE_rt, tryC_nx, tryC_rt, tryC_f, e1, e2, e3, app_int]
theorem drawn_turn (ps ls ds : List Int) (c t : D) (k : Nat) (x : Int) (hx : ps[1 + k]? = some x) (hl : 0 < ls.length) (hl2 : ls.length ≤ 1000) (hd : ds.length < 100) :
    ∃ y, y ∈ ls ∧ ∃ j, lb_law_drawn_1 [some (.z, L ps), some (.z, c), some (.z, t), some (.l .z, L ls), some (.l .z, L ds), some (.z, .int k)] = .nx [some (.z, L ps), some (.z, c), some (.z, t), some (.l .z, L (ls.eraseIdx j)), some (.l .z, L (ds ++ [y])), some (.z, .int k)] ∧ j < ls.length := by
  have h0 : 0 ≤ x % (ls.length : Int) := Int.emod_nonneg _ (by omega)
  have h1 : x % (ls.length : Int) < ls.length := Int.emod_lt_of_pos _ (by omega)
  obtain ⟨j, hj⟩ := Int.eq_ofNat_of_zero_le h0
  have hjl : j < ls.length := by omega
  have hg : ls[j]? = some ls[j] := List.getElem?_eq_getElem hjl
  refine ⟨ls[j], List.getElem_mem hjl, j, ?_, hjl⟩
  have e1 : dAt (L ps) (.int (1 + (k : Int))) = some (.z, .int x) := by
    have := at_int hx
    rwa [show ((1 + k : Nat) : Int) = 1 + (k : Int) by omega] at this
  have e2 := pop_int hg (by omega)
  have e3 : dMod (.int x) (.int (ls.length : Int)) = some (.z, .int (j : Int)) := by rw [mod_ok (by omega), hj]
  exact drawn_ev _ _ _ _ _ _ _ _ _ _ hd e1 e2 e3
theorem drawn_ok (ps : List Int) (c n : Nat) (h : c ≤ n) (hn : n ≤ 1000) (hp : c < ps.length) (hc : c ≤ 3) : ∃ ds : List Int, F_law_drawn [L ps, .int c, .int n] = .ok (.z, T ds) ∧ ds.length = c ∧ ∀ d ∈ ds, 0 ≤ d ∧ d < n := by
  have hh : ∃ Γ', sForL (gN 5) lb_law_drawn_1 (rangeL 0 c) [some (.z, L ps), some (.z, .int c), some (.z, .int n), some (.l .z, .list (rangeL 0 n)), some (.l .z, .list []), none] = .nx Γ' ∧ ∃ (ls ds : List Int) (kv : Option Va), Γ' = [some (.z, L ps), some (.z, .int c), some (.z, .int n), some (.l .z, L ls), some (.l .z, L ds), kv] ∧ ls.length + (0 + (rangeL 0 c).length) = n ∧ ds.length = 0 + (rangeL 0 c).length ∧ (∀ d ∈ ls, 0 ≤ d ∧ d < n) ∧ ∀ d ∈ ds, 0 ≤ d ∧ d < n :=
    forL_inv (fun j Γ => ∃ (ls ds : List Int) (kv : Option Va), Γ = [some (.z, L ps), some (.z, .int c), some (.z, .int n), some (.l .z, L ls), some (.l .z, L ds), kv] ∧ ls.length + j = n ∧ ds.length = j ∧ (∀ d ∈ ls, 0 ≤ d ∧ d < (n : Int)) ∧ ∀ d ∈ ds, 0 ≤ d ∧ d < (n : Int)) (rangeL 0 c) 0 _ ⟨(List.range n).map fun k => ((k : Nat) : Int), [], none, by rw [range_L]; rfl, by simp, rfl, by
      intro d hd
      obtain ⟨k, hk, rfl⟩ := List.mem_map.mp hd
      have := List.mem_range.mp hk
      omega, fun d hd => nomatch hd⟩ (by
      rintro i d Γ hd ⟨ls, ds, kv, rfl, h1, h2, h3, h4⟩
      obtain ⟨hi, rfl⟩ := range0_get hd
      have hg : ps[1 + i]? = some (ps[1 + i]'(by omega)) := List.getElem?_eq_getElem _
      obtain ⟨y, hy, j, e, hj⟩ := drawn_turn ps ls ds (.int c) (.int n) i _ hg (by omega) (by omega) (by omega)
      refine ⟨_, _, rfl, .inl e, _, _, _, rfl, by rw [List.length_eraseIdx]; simp only [if_pos hj]; omega, by simp only [List.length_append, List.length_cons, List.length_nil]; omega, fun d hd => h3 d (List.mem_of_mem_eraseIdx hd), fun d hd => ?_⟩
      rcases List.mem_append.mp hd with hd | hd
      · exact h4 d hd
      · rw [List.mem_singleton.mp hd]; exact h3 y hy)
  obtain ⟨Γ', e, ls, ds, kv, rfl, h1, h2, h3, h4⟩ := hh
  refine ⟨ds, ?_, by rw [h2, range_len]; omega, h4⟩
  unfold F_law_drawn fb_law_drawn
  simp (disch := omega) only [runD_ap, seq_eq, then_nx, then_rt, then_ex, then_ct, then_bk, sB_ok, sB_ex, bind_ok, bind_ex, of_some, gZ_z, gB_s, gBl_l, gBl_z, gF_s, gM_s, fC_ap, fN_ap, fZ_ap, vMv_ap, fV_ap, vF_ap, oF_f, oF_l, oB_f, oB_l, osN_f, osN_l, osC_f, osC_l, o2_ap, fB_ap, fsN_ap, fsC_ap, fLst_ap, fTup_ap, fMt_ap, mtS_l, mtE_l, bB_b, bV_ap, bBo_b, bF_ap, bO_ap, bNot_ap, bAnd_ap, bOr_ap, vIf_ap, vA_b, vO_b, vAnd_ap, vOr_ap, dNot_b, fNot_ap, dNg_i, fNeg_ap, fPN_ap, dPs_i, fPS_ap, vCut_ap, fIsi_ap, rOut_ok, rOut_ex, fCall_ap, fDct0_ap, dIterL_l, dIterL_t, iLT_ap, iR1_ap, iR2_ap, iEn_ap, iZp_ap, vLR1_ap, sNx_ap, sAsg_ap, sRet_ap, sExp_ap, sIf_ap, sFor_ap, oNx_s, sTgt_ap, fzE_s, sFz_ap, sRaise_ap, res_nx, res_rt, res_ex, st0, List.map_cons, List.map_nil, List.length_cons, List.length_nil, List.replicate_succ, List.replicate_zero, List.cons_append, List.nil_append, List.append_nil, List.getElem?_cons_zero, List.getElem?_cons_succ, List.set_cons_zero, List.set_cons_succ, Option.bind_some, Option.map_some, dTru, at_t0, at_t1, at_t2, at_t3, at_l0, at_l1, at_l2, at_l3, eq_int, ne_int, lt_int, gt_int, le_int, ge_int, add_int, sub_int, int_int, int_bool, len_l, len_t, len_scr, dListOf, dTupOf, decide_eq_true_eq, List.length_map, Nat.reduceAdd, Nat.reduceSub, Nat.reduceLeDiff, Nat.zero_add, if_true, if_false, ↓reduceIte, Bool.false_eq_true, Bool.not_true, Bool.not_false, fIn_ap, fGet_ap, inT_f, inT_t, gtT_s, key_i, isS_s, isS_n, map_none, sum_int, all_b, any_b, isi_int, isi_intb, isi_list, sTry_ap, tryE_ex, tryE_nx, tryE_rt, tryC_nx, tryC_rt, tryC_f, if_pos, Int.toNat_natCast, e]
abbrev K8 : List Str := [S "latch", S "tie0", S "tie1", S "not", S "nand2", S "nand3", S "nor2", S "nor3"]
def need (k : Str) : Int := if k = S "not" then 1 else if k = S "nand2" ∨ k = S "nor2" then 2 else if k = S "nand3" ∨ k = S "nor3" then 3 else 0
def kinds16 : List D := ([S "not", S "not", S "nand2", S "nand2", S "nand2", S "nand3", S "nand3", S "nor2", S "nor2", S "nor2", S "nor3", S "nor3", S "latch", S "latch", S "tie0", S "tie1"] : List Str).map .str
theorem pick (p : Int) (h0 : 0 ≤ p) (h1 : p < 16) : ∃ kd ∈ K8, dAt (.list kinds16) (.int p) = some (.z, .str kd) := by
  obtain ⟨n, rfl⟩ := Int.eq_ofNat_of_zero_le h0
  have : n = 0 ∨ n = 1 ∨ n = 2 ∨ n = 3 ∨ n = 4 ∨ n = 5 ∨ n = 6 ∨ n = 7 ∨ n = 8 ∨ n = 9 ∨ n = 10 ∨ n = 11 ∨ n = 12 ∨ n = 13 ∨ n = 14 ∨ n = 15 := by omega
  rcases this with rfl | rfl | rfl | rfl | rfl | rfl | rfl | rfl | rfl | rfl | rfl | rfl | rfl | rfl | rfl | rfl <;> exact ⟨_, by decide +kernel, at_list rfl⟩
def kA : List D := ([S "not", S "not", S "nand2", S "nand2", S "nand2", S "nand3", S "nand3", S "nor2", S "nor2", S "nor2", S "nor3", S "nor3"] : List Str).map .str
def kB : List D := ([S "latch", S "latch", S "tie0", S "tie1"] : List Str).map .str
theorem kAB : dAdd (.list [.str (S "not"), .str (S "not"), .str (S "nand2"), .str (S "nand2"), .str (S "nand2"), .str (S "nand3"), .str (S "nand3"), .str (S "nor2"), .str (S "nor2"), .str (S "nor2"), .str (S "nor3"), .str (S "nor3")]) (.list [.str (S "latch"), .str (S "latch"), .str (S "tie0"), .str (S "tie1")]) = some (.l .z, .list kinds16) := rfl
theorem kind_ev (ps : List Int) (kd : Str) (p0 p1 : Int) (nets lat : Int) (e0 : dAt (.list kinds16) (.int p0) = some (.z, .str kd)) (a0 : dAt (L ps) (.int 0) = some (.z, .int p0)) (a1 : dAt (L ps) (.int 1) = some (.z, .int p1)) (hk : kd ∈ K8) (hl : 0 ≤ lat ∧ lat ≤ 2) (hn : 0 ≤ nets) :
    ∃ kd ∈ K8, F_law_kind [L ps, .int nets, .int lat] = .ok (.z, .str kd) ∧ (kd = S "latch" → lat < 2) ∧ need kd ≤ nets := by
  have m01 : p1 % 2 = 0 ∨ p1 % 2 = 1 := by omega
  have hlat : lat = 2 ∨ ¬ lat = 2 := by omega
  have hnets : (nets = 0 ∨ nets = 1) ∨ nets = 2 ∨ 3 ≤ nets := by omega
  have n0 : need (S "latch") = 0 := by decide +kernel
  have n1 : need (S "tie0") = 0 := by decide +kernel
  have n2 : need (S "tie1") = 0 := by decide +kernel
  have n3 : need (S "not") = 1 := by decide +kernel
  have n4 : need (S "nand2") = 2 := by decide +kernel
  have n5 : need (S "nand3") = 3 := by decide +kernel
  have n6 : need (S "nor2") = 2 := by decide +kernel
  have n7 : need (S "nor3") = 3 := by decide +kernel
  simp only [K8, List.mem_cons, List.not_mem_nil, or_false] at hk
  unfold F_law_kind fb_law_kind
  rcases hk with rfl | rfl | rfl | rfl | rfl | rfl | rfl | rfl
  · rcases hlat with c | c <;> rcases hnets with (q | q) | q | q <;> rcases m01 with m | m <;>
      simp (disch := omega) only [runD_ap, seq_eq, then_nx, then_rt, then_ex, then_ct, then_bk, sB_ok, sB_ex, bind_ok, bind_ex, of_some, gZ_z, gB_s, gBl_l, gBl_z, gF_s, gM_s, fC_ap, fN_ap, fZ_ap, vMv_ap, fV_ap, vF_ap, oF_f, oF_l, oB_f, oB_l, osN_f, osN_l, osC_f, osC_l, o2_ap, fB_ap, fsN_ap, fsC_ap, fLst_ap, fTup_ap, fMt_ap, mtS_l, mtE_l, bB_b, bV_ap, bBo_b, bF_ap, bO_ap, bNot_ap, bAnd_ap, bOr_ap, vIf_ap, vA_b, vO_b, vAnd_ap, vOr_ap, dNot_b, fNot_ap, dNg_i, fNeg_ap, fPN_ap, dPs_i, fPS_ap, vCut_ap, fIsi_ap, rOut_ok, rOut_ex, fCall_ap, fDct0_ap, dIterL_l, dIterL_t, iLT_ap, iR1_ap, iR2_ap, iEn_ap, iZp_ap, vLR1_ap, sNx_ap, sAsg_ap, sRet_ap, sExp_ap, sIf_ap, sFor_ap, oNx_s, sTgt_ap, fzE_s, sFz_ap, sRaise_ap, res_nx, res_rt, res_ex, st0, List.map_cons, List.map_nil, List.length_cons, List.length_nil, List.replicate_succ, List.replicate_zero, List.cons_append, List.nil_append, List.append_nil, List.getElem?_cons_zero, List.getElem?_cons_succ, List.set_cons_zero, List.set_cons_succ, Option.bind_some, Option.map_some, dTru, at_t0, at_t1, at_t2, at_t3, at_l0, at_l1, at_l2, at_l3, eq_int, ne_int, lt_int, gt_int, le_int, ge_int, add_int, sub_int, int_int, int_bool, len_l, len_t, len_scr, dListOf, dTupOf, decide_eq_true_eq, List.length_map, Nat.reduceAdd, Nat.reduceSub, Nat.reduceLeDiff, Nat.zero_add, if_true, if_false, ↓reduceIte, Bool.false_eq_true, Bool.not_true, Bool.not_false, fIn_ap, fGet_ap, inT_f, inT_t, gtT_s, key_i, isS_s, isS_n, map_none, sum_int, all_b, any_b, isi_int, isi_intb, isi_list, sTry_ap, tryE_ex, tryE_nx, tryE_rt, tryC_nx, tryC_rt, tryC_f, if_pos, kAB, e0, a0, a1, q_latch_latch, qn_latch_latch, q_latch_not, qn_latch_not, iw_latch, it_latch, in_latch, q_tie0_latch, qn_tie0_latch, q_tie0_not, qn_tie0_not, iw_tie0, it_tie0, in_tie0, lk_tie0, ct_tie0, la_tie0, l3_tie0, q_tie1_latch, qn_tie1_latch, q_tie1_not, qn_tie1_not, iw_tie1, it_tie1, in_tie1, lk_tie1, ct_tie1, la_tie1, l3_tie1, q_not_latch, qn_not_latch, q_not_not, qn_not_not, iw_not, it_not, in_not, lk_not, ct_not, q_nand2_latch, qn_nand2_latch, q_nand2_not, qn_nand2_not, iw_nand2, it_nand2, in_nand2, lk_nand2, ct_nand2, la_nand2, q_nand3_latch, qn_nand3_latch, q_nand3_not, qn_nand3_not, iw_nand3, it_nand3, in_nand3, lk_nand3, ct_nand3, la_nand3, q_nor2_latch, qn_nor2_latch, q_nor2_not, qn_nor2_not, iw_nor2, it_nor2, in_nor2, lk_nor2, ct_nor2, la_nor2, q_nor3_latch, qn_nor3_latch, q_nor3_not, qn_nor3_not, iw_nor3, it_nor3, in_nor3, lk_nor3, ct_nor3, la_nor3, p_tie_tie, p_tie_nor, p_nan_tie, p_nan_nor, p_nor_tie, p_nor_nor, p_not_tie, p_not_nor, n_0, n_1, n_2, n_3, mod_ok, m, c, q, decide_true, decide_false, decide_eq_true, decide_eq_false, Int.reduceLT, Int.reduceSub, reduceCtorEq, Int.reduceEq] <;>
      exact ⟨_, by decide +kernel, rfl, by first | (intro _; omega) | exact fun h => absurd h (by decide +kernel), by first | (simp only [n0, n1, n2, n3, n4, n5, n6, n7]; done) | (simp only [n0, n1, n2, n3, n4, n5, n6, n7]; omega)⟩
  all_goals
    rcases hnets with (q | q) | q | q <;> rcases m01 with m | m <;>
      simp (disch := omega) only [runD_ap, seq_eq, then_nx, then_rt, then_ex, then_ct, then_bk, sB_ok, sB_ex, bind_ok, bind_ex, of_some, gZ_z, gB_s, gBl_l, gBl_z, gF_s, gM_s, fC_ap, fN_ap, fZ_ap, vMv_ap, fV_ap, vF_ap, oF_f, oF_l, oB_f, oB_l, osN_f, osN_l, osC_f, osC_l, o2_ap, fB_ap, fsN_ap, fsC_ap, fLst_ap, fTup_ap, fMt_ap, mtS_l, mtE_l, bB_b, bV_ap, bBo_b, bF_ap, bO_ap, bNot_ap, bAnd_ap, bOr_ap, vIf_ap, vA_b, vO_b, vAnd_ap, vOr_ap, dNot_b, fNot_ap, dNg_i, fNeg_ap, fPN_ap, dPs_i, fPS_ap, vCut_ap, fIsi_ap, rOut_ok, rOut_ex, fCall_ap, fDct0_ap, dIterL_l, dIterL_t, iLT_ap, iR1_ap, iR2_ap, iEn_ap, iZp_ap, vLR1_ap, sNx_ap, sAsg_ap, sRet_ap, sExp_ap, sIf_ap, sFor_ap, oNx_s, sTgt_ap, fzE_s, sFz_ap, sRaise_ap, res_nx, res_rt, res_ex, st0, List.map_cons, List.map_nil, List.length_cons, List.length_nil, List.replicate_succ, List.replicate_zero, List.cons_append, List.nil_append, List.append_nil, List.getElem?_cons_zero, List.getElem?_cons_succ, List.set_cons_zero, List.set_cons_succ, Option.bind_some, Option.map_some, dTru, at_t0, at_t1, at_t2, at_t3, at_l0, at_l1, at_l2, at_l3, eq_int, ne_int, lt_int, gt_int, le_int, ge_int, add_int, sub_int, int_int, int_bool, len_l, len_t, len_scr, dListOf, dTupOf, decide_eq_true_eq, List.length_map, Nat.reduceAdd, Nat.reduceSub, Nat.reduceLeDiff, Nat.zero_add, if_true, if_false, ↓reduceIte, Bool.false_eq_true, Bool.not_true, Bool.not_false, fIn_ap, fGet_ap, inT_f, inT_t, gtT_s, key_i, isS_s, isS_n, map_none, sum_int, all_b, any_b, isi_int, isi_intb, isi_list, sTry_ap, tryE_ex, tryE_nx, tryE_rt, tryC_nx, tryC_rt, tryC_f, if_pos, kAB, e0, a0, a1, q_latch_latch, qn_latch_latch, q_latch_not, qn_latch_not, iw_latch, it_latch, in_latch, q_tie0_latch, qn_tie0_latch, q_tie0_not, qn_tie0_not, iw_tie0, it_tie0, in_tie0, lk_tie0, ct_tie0, la_tie0, l3_tie0, q_tie1_latch, qn_tie1_latch, q_tie1_not, qn_tie1_not, iw_tie1, it_tie1, in_tie1, lk_tie1, ct_tie1, la_tie1, l3_tie1, q_not_latch, qn_not_latch, q_not_not, qn_not_not, iw_not, it_not, in_not, lk_not, ct_not, q_nand2_latch, qn_nand2_latch, q_nand2_not, qn_nand2_not, iw_nand2, it_nand2, in_nand2, lk_nand2, ct_nand2, la_nand2, q_nand3_latch, qn_nand3_latch, q_nand3_not, qn_nand3_not, iw_nand3, it_nand3, in_nand3, lk_nand3, ct_nand3, la_nand3, q_nor2_latch, qn_nor2_latch, q_nor2_not, qn_nor2_not, iw_nor2, it_nor2, in_nor2, lk_nor2, ct_nor2, la_nor2, q_nor3_latch, qn_nor3_latch, q_nor3_not, qn_nor3_not, iw_nor3, it_nor3, in_nor3, lk_nor3, ct_nor3, la_nor3, p_tie_tie, p_tie_nor, p_nan_tie, p_nan_nor, p_nor_tie, p_nor_nor, p_not_tie, p_not_nor, n_0, n_1, n_2, n_3, mod_ok, m, q, decide_true, decide_false, decide_eq_true, decide_eq_false, Int.reduceLT, Int.reduceSub, reduceCtorEq, Int.reduceEq] <;>
      exact ⟨_, by decide +kernel, rfl, by first | (intro _; omega) | exact fun h => absurd h (by decide +kernel), by first | (simp only [n0, n1, n2, n3, n4, n5, n6, n7]; done) | (simp only [n0, n1, n2, n3, n4, n5, n6, n7]; omega)⟩
end K09
namespace K09
open PySem PV
theorem bYes_ok {Γ : Ev} : bYes Γ = .ok true Γ := id rfl
def gate (k : Str) (bs : List Int) : Int := if k = S "tie0" then 0 else if k = S "tie1" then 1 else if k = S "not" ∨ k = S "nand2" ∨ k = S "nand3" then (if (!((bs.map fun b => decide (b = 1)).all id)) = true then 1 else 0) else (if (!((bs.map fun b => decide (b = 1)).any id)) = true then 1 else 0)
theorem cv_comp (k : D) (bs : List Int) (h : bs.length ≤ 1000) (e : Ev → Out D) (he : ∀ n : Int, e [some (.z, k), some (.z, L bs), some (.z, .int n)] = .ok (.bool (decide (n = 1))) [some (.z, k), some (.z, L bs), some (.z, .int n)]) : vComp [2] (iLT (fN 1)) (gN 2) bYes e [some (.z, k), some (.z, L bs), none] = .ok (.l .z, .list (bs.map fun b => .bool (decide (b = 1)))) [some (.z, k), some (.z, L bs), none] := by
  refine comp_ok (ds := bs.map .int) ?_ (by rw [List.length_map]; omega) ?_ rfl
  · simp only [runD_ap, seq_eq, then_nx, then_rt, then_ex, then_ct, then_bk, sB_ok, sB_ex, bind_ok, bind_ex, of_some, gZ_z, gB_s, gBl_l, gBl_z, gF_s, gM_s, fC_ap, fN_ap, fZ_ap, vMv_ap, fV_ap, vF_ap, oF_f, oF_l, oB_f, oB_l, osN_f, osN_l, osC_f, osC_l, o2_ap, fB_ap, fsN_ap, fsC_ap, fLst_ap, fTup_ap, fMt_ap, mtS_l, mtE_l, bB_b, bV_ap, bBo_b, bF_ap, bO_ap, bNot_ap, bAnd_ap, bOr_ap, vIf_ap, vA_b, vO_b, vAnd_ap, vOr_ap, dNot_b, fNot_ap, dNg_i, fNeg_ap, fPN_ap, dPs_i, fPS_ap, vCut_ap, fIsi_ap, rOut_ok, rOut_ex, fCall_ap, fDct0_ap, dIterL_l, dIterL_t, iLT_ap, iR1_ap, iR2_ap, iEn_ap, iZp_ap, vLR1_ap, sNx_ap, sAsg_ap, sRet_ap, sExp_ap, sIf_ap, sFor_ap, oNx_s, sTgt_ap, fzE_s, sFz_ap, sRaise_ap, res_nx, res_rt, res_ex, st0, List.map_cons, List.map_nil, List.length_cons, List.length_nil, List.replicate_succ, List.replicate_zero, List.cons_append, List.nil_append, List.append_nil, List.getElem?_cons_zero, List.getElem?_cons_succ, List.set_cons_zero, List.set_cons_succ, Option.bind_some, Option.map_some, dTru, at_t0, at_t1, at_t2, at_t3, at_l0, at_l1, at_l2, at_l3, eq_int, ne_int, lt_int, gt_int, le_int, ge_int, add_int, sub_int, int_int, int_bool, len_l, len_t, len_scr, dListOf, dTupOf, decide_eq_true_eq, List.length_map, Nat.reduceAdd, Nat.reduceSub, Nat.reduceLeDiff, Nat.zero_add, if_true, if_false, ↓reduceIte, Bool.false_eq_true, Bool.not_true, Bool.not_false, fIn_ap, fGet_ap, inT_f, inT_t, gtT_s, key_i, isS_s, isS_n, map_none, sum_int, all_b, any_b, isi_int, isi_intb, isi_list, sTry_ap, tryE_ex, tryE_nx, tryE_rt, tryC_nx, tryC_rt, tryC_f]
  · exact comp_ints _ bs rfl (fun _ _ => rfl) fun n _ => he n
theorem cv1 (k : D) (bs : List Int) (n : Int) : ce_cell_value_1 [some (.z, k), some (.z, L bs), some (.z, .int n)] = .ok (.bool (decide (n = 1))) [some (.z, k), some (.z, L bs), some (.z, .int n)] := by
  unfold ce_cell_value_1
  simp only [runD_ap, seq_eq, then_nx, then_rt, then_ex, then_ct, then_bk, sB_ok, sB_ex, bind_ok, bind_ex, of_some, gZ_z, gB_s, gBl_l, gBl_z, gF_s, gM_s, fC_ap, fN_ap, fZ_ap, vMv_ap, fV_ap, vF_ap, oF_f, oF_l, oB_f, oB_l, osN_f, osN_l, osC_f, osC_l, o2_ap, fB_ap, fsN_ap, fsC_ap, fLst_ap, fTup_ap, fMt_ap, mtS_l, mtE_l, bB_b, bV_ap, bBo_b, bF_ap, bO_ap, bNot_ap, bAnd_ap, bOr_ap, vIf_ap, vA_b, vO_b, vAnd_ap, vOr_ap, dNot_b, fNot_ap, dNg_i, fNeg_ap, fPN_ap, dPs_i, fPS_ap, vCut_ap, fIsi_ap, rOut_ok, rOut_ex, fCall_ap, fDct0_ap, dIterL_l, dIterL_t, iLT_ap, iR1_ap, iR2_ap, iEn_ap, iZp_ap, vLR1_ap, sNx_ap, sAsg_ap, sRet_ap, sExp_ap, sIf_ap, sFor_ap, oNx_s, sTgt_ap, fzE_s, sFz_ap, sRaise_ap, res_nx, res_rt, res_ex, st0, List.map_cons, List.map_nil, List.length_cons, List.length_nil, List.replicate_succ, List.replicate_zero, List.cons_append, List.nil_append, List.append_nil, List.getElem?_cons_zero, List.getElem?_cons_succ, List.set_cons_zero, List.set_cons_succ, Option.bind_some, Option.map_some, dTru, at_t0, at_t1, at_t2, at_t3, at_l0, at_l1, at_l2, at_l3, eq_int, ne_int, lt_int, gt_int, le_int, ge_int, add_int, sub_int, int_int, int_bool, len_l, len_t, len_scr, dListOf, dTupOf, decide_eq_true_eq, List.length_map, Nat.reduceAdd, Nat.reduceSub, Nat.reduceLeDiff, Nat.zero_add, if_true, if_false, ↓reduceIte, Bool.false_eq_true, Bool.not_true, Bool.not_false, fIn_ap, fGet_ap, inT_f, inT_t, gtT_s, key_i, isS_s, isS_n, map_none, sum_int, all_b, any_b, isi_int, isi_intb, isi_list, sTry_ap, tryE_ex, tryE_nx, tryE_rt, tryC_nx, tryC_rt, tryC_f]
theorem cv2 (k : D) (bs : List Int) (n : Int) : ce_cell_value_2 [some (.z, k), some (.z, L bs), some (.z, .int n)] = .ok (.bool (decide (n = 1))) [some (.z, k), some (.z, L bs), some (.z, .int n)] := by
  unfold ce_cell_value_2
  simp only [runD_ap, seq_eq, then_nx, then_rt, then_ex, then_ct, then_bk, sB_ok, sB_ex, bind_ok, bind_ex, of_some, gZ_z, gB_s, gBl_l, gBl_z, gF_s, gM_s, fC_ap, fN_ap, fZ_ap, vMv_ap, fV_ap, vF_ap, oF_f, oF_l, oB_f, oB_l, osN_f, osN_l, osC_f, osC_l, o2_ap, fB_ap, fsN_ap, fsC_ap, fLst_ap, fTup_ap, fMt_ap, mtS_l, mtE_l, bB_b, bV_ap, bBo_b, bF_ap, bO_ap, bNot_ap, bAnd_ap, bOr_ap, vIf_ap, vA_b, vO_b, vAnd_ap, vOr_ap, dNot_b, fNot_ap, dNg_i, fNeg_ap, fPN_ap, dPs_i, fPS_ap, vCut_ap, fIsi_ap, rOut_ok, rOut_ex, fCall_ap, fDct0_ap, dIterL_l, dIterL_t, iLT_ap, iR1_ap, iR2_ap, iEn_ap, iZp_ap, vLR1_ap, sNx_ap, sAsg_ap, sRet_ap, sExp_ap, sIf_ap, sFor_ap, oNx_s, sTgt_ap, fzE_s, sFz_ap, sRaise_ap, res_nx, res_rt, res_ex, st0, List.map_cons, List.map_nil, List.length_cons, List.length_nil, List.replicate_succ, List.replicate_zero, List.cons_append, List.nil_append, List.append_nil, List.getElem?_cons_zero, List.getElem?_cons_succ, List.set_cons_zero, List.set_cons_succ, Option.bind_some, Option.map_some, dTru, at_t0, at_t1, at_t2, at_t3, at_l0, at_l1, at_l2, at_l3, eq_int, ne_int, lt_int, gt_int, le_int, ge_int, add_int, sub_int, int_int, int_bool, len_l, len_t, len_scr, dListOf, dTupOf, decide_eq_true_eq, List.length_map, Nat.reduceAdd, Nat.reduceSub, Nat.reduceLeDiff, Nat.zero_add, if_true, if_false, ↓reduceIte, Bool.false_eq_true, Bool.not_true, Bool.not_false, fIn_ap, fGet_ap, inT_f, inT_t, gtT_s, key_i, isS_s, isS_n, map_none, sum_int, all_b, any_b, isi_int, isi_intb, isi_list, sTry_ap, tryE_ex, tryE_nx, tryE_rt, tryC_nx, tryC_rt, tryC_f]
theorem cell_value_ok (k : Str) (hk : k ∈ K8) (hn : k ≠ S "latch") (bs : List Int) (h : bs.length ≤ 1000) : F_cell_value [.str k, L bs] = .ok (.z, .int (gate k bs)) := by
  have c1 := fun k => cv_comp k bs h _ fun n => cv1 k bs n
  have c2 := fun k => cv_comp k bs h _ fun n => cv2 k bs n
  simp only [K8, List.mem_cons, List.not_mem_nil, or_false] at hk
  unfold F_cell_value fb_cell_value
  rcases hk with rfl | rfl | rfl | rfl | rfl | rfl | rfl | rfl
  · exact absurd rfl hn
  all_goals
    simp only [runD_ap, seq_eq, then_nx, then_rt, then_ex, then_ct, then_bk, sB_ok, sB_ex, bind_ok, bind_ex, of_some, gZ_z, gB_s, gBl_l, gBl_z, gF_s, gM_s, fC_ap, fN_ap, fZ_ap, vMv_ap, fV_ap, vF_ap, oF_f, oF_l, oB_f, oB_l, osN_f, osN_l, osC_f, osC_l, o2_ap, fB_ap, fsN_ap, fsC_ap, fLst_ap, fTup_ap, fMt_ap, mtS_l, mtE_l, bB_b, bV_ap, bBo_b, bF_ap, bO_ap, bNot_ap, bAnd_ap, bOr_ap, vIf_ap, vA_b, vO_b, vAnd_ap, vOr_ap, dNot_b, fNot_ap, dNg_i, fNeg_ap, fPN_ap, dPs_i, fPS_ap, vCut_ap, fIsi_ap, rOut_ok, rOut_ex, fCall_ap, fDct0_ap, dIterL_l, dIterL_t, iLT_ap, iR1_ap, iR2_ap, iEn_ap, iZp_ap, vLR1_ap, sNx_ap, sAsg_ap, sRet_ap, sExp_ap, sIf_ap, sFor_ap, oNx_s, sTgt_ap, fzE_s, sFz_ap, sRaise_ap, res_nx, res_rt, res_ex, st0, List.map_cons, List.map_nil, List.length_cons, List.length_nil, List.replicate_succ, List.replicate_zero, List.cons_append, List.nil_append, List.append_nil, List.getElem?_cons_zero, List.getElem?_cons_succ, List.set_cons_zero, List.set_cons_succ, Option.bind_some, Option.map_some, dTru, at_t0, at_t1, at_t2, at_t3, at_l0, at_l1, at_l2, at_l3, eq_int, ne_int, lt_int, gt_int, le_int, ge_int, add_int, sub_int, int_int, int_bool, len_l, len_t, len_scr, dListOf, dTupOf, decide_eq_true_eq, List.length_map, Nat.reduceAdd, Nat.reduceSub, Nat.reduceLeDiff, Nat.zero_add, if_true, if_false, ↓reduceIte, Bool.false_eq_true, Bool.not_true, Bool.not_false, fIn_ap, fGet_ap, inT_f, inT_t, gtT_s, key_i, isS_s, isS_n, map_none, sum_int, all_b, any_b, isi_int, isi_intb, isi_list, sTry_ap, tryE_ex, tryE_nx, tryE_rt, tryC_nx, tryC_rt, tryC_f, c1, c2, q_latch_latch, qn_latch_latch, q_latch_not, qn_latch_not, iw_latch, it_latch, in_latch, q_tie0_latch, qn_tie0_latch, q_tie0_not, qn_tie0_not, iw_tie0, it_tie0, in_tie0, lk_tie0, ct_tie0, la_tie0, l3_tie0, q_tie1_latch, qn_tie1_latch, q_tie1_not, qn_tie1_not, iw_tie1, it_tie1, in_tie1, lk_tie1, ct_tie1, la_tie1, l3_tie1, q_not_latch, qn_not_latch, q_not_not, qn_not_not, iw_not, it_not, in_not, lk_not, ct_not, q_nand2_latch, qn_nand2_latch, q_nand2_not, qn_nand2_not, iw_nand2, it_nand2, in_nand2, lk_nand2, ct_nand2, la_nand2, q_nand3_latch, qn_nand3_latch, q_nand3_not, qn_nand3_not, iw_nand3, it_nand3, in_nand3, lk_nand3, ct_nand3, la_nand3, q_nor2_latch, qn_nor2_latch, q_nor2_not, qn_nor2_not, iw_nor2, it_nor2, in_nor2, lk_nor2, ct_nor2, la_nor2, q_nor3_latch, qn_nor3_latch, q_nor3_not, qn_nor3_not, iw_nor3, it_nor3, in_nor3, lk_nor3, ct_nor3, la_nor3, p_tie_tie, p_tie_nor, p_nan_tie, p_nan_nor, p_nor_tie, p_nor_nor, p_not_tie, p_not_nor, n_0, n_1, n_2, n_3]
    rfl
theorem sum_lt (bs : List Int) (h : ∀ b ∈ bs, b = 0 ∨ b = 1) : (bs.sum < bs.length ↔ ((bs.map fun b => decide (b = 1)).all id) = false) ∧ (bs.sum = 0 ↔ ((bs.map fun b => decide (b = 1)).any id) = false) ∧ 0 ≤ bs.sum ∧ bs.sum ≤ bs.length := by
  induction bs with
  | nil => exact ⟨by decide, by decide, by decide, by decide⟩
  | cons b bs ih =>
    obtain ⟨i1, i2, i3, i4⟩ := ih fun c hc => h c (List.mem_cons_of_mem _ hc)
    rw [List.sum_cons, List.map_cons, List.all_cons, List.any_cons, List.length_cons]
    rcases h b (List.mem_cons_self ..) with rfl | rfl
    · simp only [show decide ((0 : Int) = 1) = false from rfl, id, Bool.false_and, Bool.false_or, iff_true]
      refine ⟨by omega, ?_, by omega, by omega⟩
      rw [show (0 : Int) + bs.sum = bs.sum by omega]; exact i2
    · simp only [decide_true, id, Bool.true_and, Bool.true_or]
      refine ⟨?_, ⟨fun q => by omega, fun q => nomatch q⟩, by omega, by omega⟩
      rw [← i1]; omega
theorem law_value_ok (k : Str) (hk : k ∈ K8) (hn : k ≠ S "latch") (bs : List Int) (h : ∀ b ∈ bs, b = 0 ∨ b = 1) : F_law_value [.str k, L bs] = .ok (.z, .int (gate k bs)) := by
  obtain ⟨s1, s2, -, -⟩ := sum_lt bs h
  have t1 : decide (bs.sum < (bs.length : Int)) = !((bs.map fun b => decide (b = 1)).all id) := by
    cases q : (bs.map fun b => decide (b = 1)).all id
    · exact decide_eq_true (s1.mpr q)
    · exact decide_eq_false fun z => by rw [s1.mp z] at q; cases q
  have t2 : decide (bs.sum = 0) = !((bs.map fun b => decide (b = 1)).any id) := by
    cases q : (bs.map fun b => decide (b = 1)).any id
    · exact decide_eq_true (s2.mpr q)
    · exact decide_eq_false fun z => by rw [s2.mp z] at q; cases q
  simp only [K8, List.mem_cons, List.not_mem_nil, or_false] at hk
  unfold F_law_value fb_law_value
  rcases hk with rfl | rfl | rfl | rfl | rfl | rfl | rfl | rfl
  · exact absurd rfl hn
  all_goals
    simp only [runD_ap, seq_eq, then_nx, then_rt, then_ex, then_ct, then_bk, sB_ok, sB_ex, bind_ok, bind_ex, of_some, gZ_z, gB_s, gBl_l, gBl_z, gF_s, gM_s, fC_ap, fN_ap, fZ_ap, vMv_ap, fV_ap, vF_ap, oF_f, oF_l, oB_f, oB_l, osN_f, osN_l, osC_f, osC_l, o2_ap, fB_ap, fsN_ap, fsC_ap, fLst_ap, fTup_ap, fMt_ap, mtS_l, mtE_l, bB_b, bV_ap, bBo_b, bF_ap, bO_ap, bNot_ap, bAnd_ap, bOr_ap, vIf_ap, vA_b, vO_b, vAnd_ap, vOr_ap, dNot_b, fNot_ap, dNg_i, fNeg_ap, fPN_ap, dPs_i, fPS_ap, vCut_ap, fIsi_ap, rOut_ok, rOut_ex, fCall_ap, fDct0_ap, dIterL_l, dIterL_t, iLT_ap, iR1_ap, iR2_ap, iEn_ap, iZp_ap, vLR1_ap, sNx_ap, sAsg_ap, sRet_ap, sExp_ap, sIf_ap, sFor_ap, oNx_s, sTgt_ap, fzE_s, sFz_ap, sRaise_ap, res_nx, res_rt, res_ex, st0, List.map_cons, List.map_nil, List.length_cons, List.length_nil, List.replicate_succ, List.replicate_zero, List.cons_append, List.nil_append, List.append_nil, List.getElem?_cons_zero, List.getElem?_cons_succ, List.set_cons_zero, List.set_cons_succ, Option.bind_some, Option.map_some, dTru, at_t0, at_t1, at_t2, at_t3, at_l0, at_l1, at_l2, at_l3, eq_int, ne_int, lt_int, gt_int, le_int, ge_int, add_int, sub_int, int_int, int_bool, len_l, len_t, len_scr, dListOf, dTupOf, decide_eq_true_eq, List.length_map, Nat.reduceAdd, Nat.reduceSub, Nat.reduceLeDiff, Nat.zero_add, if_true, if_false, ↓reduceIte, Bool.false_eq_true, Bool.not_true, Bool.not_false, fIn_ap, fGet_ap, inT_f, inT_t, gtT_s, key_i, isS_s, isS_n, map_none, sum_int, all_b, any_b, isi_int, isi_intb, isi_list, sTry_ap, tryE_ex, tryE_nx, tryE_rt, tryC_nx, tryC_rt, tryC_f, q_latch_latch, qn_latch_latch, q_latch_not, qn_latch_not, iw_latch, it_latch, in_latch, q_tie0_latch, qn_tie0_latch, q_tie0_not, qn_tie0_not, iw_tie0, it_tie0, in_tie0, lk_tie0, ct_tie0, la_tie0, l3_tie0, q_tie1_latch, qn_tie1_latch, q_tie1_not, qn_tie1_not, iw_tie1, it_tie1, in_tie1, lk_tie1, ct_tie1, la_tie1, l3_tie1, q_not_latch, qn_not_latch, q_not_not, qn_not_not, iw_not, it_not, in_not, lk_not, ct_not, q_nand2_latch, qn_nand2_latch, q_nand2_not, qn_nand2_not, iw_nand2, it_nand2, in_nand2, lk_nand2, ct_nand2, la_nand2, q_nand3_latch, qn_nand3_latch, q_nand3_not, qn_nand3_not, iw_nand3, it_nand3, in_nand3, lk_nand3, ct_nand3, la_nand3, q_nor2_latch, qn_nor2_latch, q_nor2_not, qn_nor2_not, iw_nor2, it_nor2, in_nor2, lk_nor2, ct_nor2, la_nor2, q_nor3_latch, qn_nor3_latch, q_nor3_not, qn_nor3_not, iw_nor3, it_nor3, in_nor3, lk_nor3, ct_nor3, la_nor3, p_tie_tie, p_tie_nor, p_nan_tie, p_nan_nor, p_nor_tie, p_nor_nor, p_not_tie, p_not_nor, n_0, n_1, n_2, n_3, t1, t2]
    rfl
end K09
namespace K09
open PySem PV
abbrev Cell := Str × List Int × Int
def cellD (c : Cell) : D := .tuple [.str c.1, T c.2.1, .int c.2.2]
def look (vs ss : List Int) : List Int := ss.map fun s => vs.getD s.toNat 0
def fav (a v n x : Int) : Int := if n = a then v else x
def vals (a v : Int) : List Int → List Cell → List Int → List Int
  | vs, [], _ => vs
  | vs, c :: cs, st => if c.1 = S "latch" then vals a v (vs ++ [fav a v c.2.2 (st.headD 0)]) cs st.tail else vals a v (vs ++ [fav a v c.2.2 (gate c.1 (look vs c.2.1))]) cs st
def RsOk (rs : List (D × D)) (a v : Int) : Prop := (rs.all fun p => (dKey p.1).isSome) = true ∧ ∀ n x : Int, 0 ≤ n → (dLook rs (.inl n)).getD (.int x) = .int (fav a v n x)
theorem rs_nil : RsOk [] (-1) 0 := ⟨rfl, fun n x h => by
  unfold fav
  rw [if_neg (by omega)]
  rfl⟩
theorem rs_one (a v : Int) : RsOk [(.int a, .int v)] a v := ⟨rfl, fun n x h => by
  have hk : dKey (.int a) = some (.inl a) := rfl
  unfold fav dLook
  rw [hk]
  by_cases e : n = a
  · subst e
    rw [if_pos rfl, if_pos rfl]
    rfl
  · rw [if_neg e, if_neg (fun z => e (Sum.inl.inj (Option.some.inj z)).symm)]
    rfl⟩
def CellOk (i tot : Nat) (c : Cell) : Prop := c.1 ∈ K8 ∧ (c.1 = S "latch" → ∃ s, c.2.1 = [s] ∧ 0 ≤ s ∧ s < tot) ∧ (c.1 ≠ S "latch" → ∀ s ∈ c.2.1, 0 ≤ s ∧ s < i) ∧ c.2.1.length ≤ 3 ∧ c.2.2 = (i : Int)
def CellsOk (i tot : Nat) : List Cell → Prop
  | [] => True
  | c :: cs => CellOk i tot c ∧ CellsOk (i + 1) tot cs
def nlat (cs : List Cell) : Nat := (cs.filter fun c => c.1 = S "latch").length
def B01 (bs : List Int) : Prop := ∀ b ∈ bs, b = 0 ∨ b = 1
theorem look_len (vs ss : List Int) : (look vs ss).length = ss.length := List.length_map _
theorem getD_at {vs : List Int} {s : Int} (h : 0 ≤ s ∧ s < vs.length) : dAt (L vs) (.int s) = some (.z, .int (vs.getD s.toNat 0)) := by
  rw [at_intI h.1 h.2]
  rw [List.getD_eq_getElem?_getD, List.getElem?_eq_getElem (by omega)]
  rfl
theorem look01 {vs ss : List Int} (h : B01 vs) : B01 (look vs ss) := fun b hb => by
  obtain ⟨s, _, rfl⟩ := List.mem_map.mp hb
  rw [List.getD_eq_getElem?_getD]
  cases q : vs[s.toNat]? with
  | none => exact .inl rfl
  | some x => exact h x (List.mem_of_getElem? q)
theorem gate01 (k : Str) (bs : List Int) : gate k bs = 0 ∨ gate k bs = 1 := by
  unfold gate
  (repeat' split) <;> first | exact .inl rfl | exact .inr rfl
theorem app01 {vs : List Int} {x : Int} (h : B01 vs) (hx : x = 0 ∨ x = 1) : B01 (vs ++ [x]) := fun b hb => by
  rcases List.mem_append.mp hb with hb | hb
  · exact h b hb
  · rw [List.mem_singleton.mp hb]; exact hx
theorem vals_len (a v : Int) : ∀ (cs : List Cell) (vs st : List Int), (vals a v vs cs st).length = vs.length + cs.length
  | [], vs, st => rfl
  | c :: cs, vs, st => by
    unfold vals
    split <;> rw [vals_len, List.length_append, List.length_cons, List.length_cons, List.length_nil] <;> omega
theorem fav01 {a v n x : Int} (hv : v = 0 ∨ v = 1) (hx : x = 0 ∨ x = 1) : fav a v n x = 0 ∨ fav a v n x = 1 := by
  unfold fav
  split
  · exact hv
  · exact hx
theorem vals01 {a v : Int} (hv : v = 0 ∨ v = 1) : ∀ (cs : List Cell) (vs st : List Int), B01 vs → B01 st → B01 (vals a v vs cs st)
  | [], vs, st, h, _ => h
  | c :: cs, vs, st, h, h2 => by
    unfold vals
    split
    · refine vals01 hv cs _ _ (app01 h (fav01 hv ?_)) fun b hb => h2 b (List.mem_of_mem_tail hb)
      cases st with
      | nil => exact .inl rfl
      | cons x r => exact h2 x (List.mem_cons_self ..)
    · exact vals01 hv cs _ _ (app01 h (fav01 hv (gate01 ..))) h2
theorem sv_comp (c i s st k o v : Option Va) (vs ss : List Int) (d : D) (h : ∀ x ∈ ss, 0 ≤ x ∧ x < vs.length) (hl : ss.length ≤ 3) :
    vComp [10] (iLT (fN 7)) (gN 10) bYes ce_settled_values_2 [c, i, s, some (.z, d), some (.l .z, L vs), st, k, some (.z, T ss), o, v, none, none] = .ok (.l .z, L (look vs ss)) [c, i, s, some (.z, d), some (.l .z, L vs), st, k, some (.z, T ss), o, v, none, none] := by
  have e : L (look vs ss) = .list (ss.map fun x => .int (vs.getD x.toNat 0)) := by
    unfold L look
    rw [List.map_map]
    rfl
  rw [e]
  refine comp_ok (ds := ss.map .int) ?_ (by rw [List.length_map]; omega) ?_ rfl
  · simp only [runD_ap, seq_eq, then_nx, then_rt, then_ex, then_ct, then_bk, sB_ok, sB_ex, bind_ok, bind_ex, of_some, gZ_z, gB_s, gBl_l, gBl_z, gF_s, gM_s, fC_ap, fN_ap, fZ_ap, vMv_ap, fV_ap, vF_ap, oF_f, oF_l, oB_f, oB_l, osN_f, osN_l, osC_f, osC_l, o2_ap, fB_ap, fsN_ap, fsC_ap, fLst_ap, fTup_ap, fMt_ap, mtS_l, mtE_l, bB_b, bV_ap, bBo_b, bF_ap, bO_ap, bNot_ap, bAnd_ap, bOr_ap, vIf_ap, vA_b, vO_b, vAnd_ap, vOr_ap, dNot_b, fNot_ap, dNg_i, fNeg_ap, fPN_ap, dPs_i, fPS_ap, vCut_ap, fIsi_ap, rOut_ok, rOut_ex, fCall_ap, fDct0_ap, dIterL_l, dIterL_t, iLT_ap, iR1_ap, iR2_ap, iEn_ap, iZp_ap, vLR1_ap, sNx_ap, sAsg_ap, sRet_ap, sExp_ap, sIf_ap, sFor_ap, oNx_s, sTgt_ap, fzE_s, sFz_ap, sRaise_ap, res_nx, res_rt, res_ex, st0, List.map_cons, List.map_nil, List.length_cons, List.length_nil, List.replicate_succ, List.replicate_zero, List.cons_append, List.nil_append, List.append_nil, List.getElem?_cons_zero, List.getElem?_cons_succ, List.set_cons_zero, List.set_cons_succ, Option.bind_some, Option.map_some, dTru, at_t0, at_t1, at_t2, at_t3, at_l0, at_l1, at_l2, at_l3, eq_int, ne_int, lt_int, gt_int, le_int, ge_int, add_int, sub_int, int_int, int_bool, len_l, len_t, len_scr, dListOf, dTupOf, decide_eq_true_eq, List.length_map, Nat.reduceAdd, Nat.reduceSub, Nat.reduceLeDiff, Nat.zero_add, if_true, if_false, ↓reduceIte, Bool.false_eq_true, Bool.not_true, Bool.not_false, fIn_ap, fGet_ap, inT_f, inT_t, gtT_s, key_i, isS_s, isS_n, map_none, sum_int, all_b, any_b, isi_int, isi_intb, isi_list, sTry_ap, tryE_ex, tryE_nx, tryE_rt, tryC_nx, tryC_rt, tryC_f, set_ap, setS_l, vDct1_ap]
  · refine comp_ints (fun x => .int (vs.getD x.toNat 0)) ss rfl (fun _ _ => rfl) fun x hx => ?_
    have := getD_at (h x hx)
    unfold ce_settled_values_2
    simp only [runD_ap, seq_eq, then_nx, then_rt, then_ex, then_ct, then_bk, sB_ok, sB_ex, bind_ok, bind_ex, of_some, gZ_z, gB_s, gBl_l, gBl_z, gF_s, gM_s, fC_ap, fN_ap, fZ_ap, vMv_ap, fV_ap, vF_ap, oF_f, oF_l, oB_f, oB_l, osN_f, osN_l, osC_f, osC_l, o2_ap, fB_ap, fsN_ap, fsC_ap, fLst_ap, fTup_ap, fMt_ap, mtS_l, mtE_l, bB_b, bV_ap, bBo_b, bF_ap, bO_ap, bNot_ap, bAnd_ap, bOr_ap, vIf_ap, vA_b, vO_b, vAnd_ap, vOr_ap, dNot_b, fNot_ap, dNg_i, fNeg_ap, fPN_ap, dPs_i, fPS_ap, vCut_ap, fIsi_ap, rOut_ok, rOut_ex, fCall_ap, fDct0_ap, dIterL_l, dIterL_t, iLT_ap, iR1_ap, iR2_ap, iEn_ap, iZp_ap, vLR1_ap, sNx_ap, sAsg_ap, sRet_ap, sExp_ap, sIf_ap, sFor_ap, oNx_s, sTgt_ap, fzE_s, sFz_ap, sRaise_ap, res_nx, res_rt, res_ex, st0, List.map_cons, List.map_nil, List.length_cons, List.length_nil, List.replicate_succ, List.replicate_zero, List.cons_append, List.nil_append, List.append_nil, List.getElem?_cons_zero, List.getElem?_cons_succ, List.set_cons_zero, List.set_cons_succ, Option.bind_some, Option.map_some, dTru, at_t0, at_t1, at_t2, at_t3, at_l0, at_l1, at_l2, at_l3, eq_int, ne_int, lt_int, gt_int, le_int, ge_int, add_int, sub_int, int_int, int_bool, len_l, len_t, len_scr, dListOf, dTupOf, decide_eq_true_eq, List.length_map, Nat.reduceAdd, Nat.reduceSub, Nat.reduceLeDiff, Nat.zero_add, if_true, if_false, ↓reduceIte, Bool.false_eq_true, Bool.not_true, Bool.not_false, fIn_ap, fGet_ap, inT_f, inT_t, gtT_s, key_i, isS_s, isS_n, map_none, sum_int, all_b, any_b, isi_int, isi_intb, isi_list, sTry_ap, tryE_ex, tryE_nx, tryE_rt, tryC_nx, tryC_rt, tryC_f, set_ap, setS_l, vDct1_ap, wipeG, this]
theorem sv_get (c i s v4 v5 v6 v7 : Option Va) (n y a v : Int) (rs : List (D × D)) (hr : RsOk rs a v) (hn : 0 ≤ n) : fGet2 (fN 3) (fN 8) (fN 9) [c, i, s, some (.z, .dict rs), v4, v5, v6, v7, some (.z, .int n), some (.z, .int y), none, none] = .ok (.int (fav a v n y)) [c, i, s, some (.z, .dict rs), v4, v5, v6, v7, some (.z, .int n), some (.z, .int y), none, none] := by
  rw [fGet2_rs (fd := fN 3) (Γ1 := [c, i, s, some (.z, .dict rs), v4, v5, v6, v7, some (.z, .int n), some (.z, .int y), none, none]) rfl hr.1]
  simp only [runD_ap, seq_eq, then_nx, then_rt, then_ex, then_ct, then_bk, sB_ok, sB_ex, bind_ok, bind_ex, of_some, gZ_z, gB_s, gBl_l, gBl_z, gF_s, gM_s, fC_ap, fN_ap, fZ_ap, vMv_ap, fV_ap, vF_ap, oF_f, oF_l, oB_f, oB_l, osN_f, osN_l, osC_f, osC_l, o2_ap, fB_ap, fsN_ap, fsC_ap, fLst_ap, fTup_ap, fMt_ap, mtS_l, mtE_l, bB_b, bV_ap, bBo_b, bF_ap, bO_ap, bNot_ap, bAnd_ap, bOr_ap, vIf_ap, vA_b, vO_b, vAnd_ap, vOr_ap, dNot_b, fNot_ap, dNg_i, fNeg_ap, fPN_ap, dPs_i, fPS_ap, vCut_ap, fIsi_ap, rOut_ok, rOut_ex, fCall_ap, fDct0_ap, dIterL_l, dIterL_t, iLT_ap, iR1_ap, iR2_ap, iEn_ap, iZp_ap, vLR1_ap, sNx_ap, sAsg_ap, sRet_ap, sExp_ap, sIf_ap, sFor_ap, oNx_s, sTgt_ap, fzE_s, sFz_ap, sRaise_ap, res_nx, res_rt, res_ex, st0, List.map_cons, List.map_nil, List.length_cons, List.length_nil, List.replicate_succ, List.replicate_zero, List.cons_append, List.nil_append, List.append_nil, List.getElem?_cons_zero, List.getElem?_cons_succ, List.set_cons_zero, List.set_cons_succ, Option.bind_some, Option.map_some, dTru, at_t0, at_t1, at_t2, at_t3, at_l0, at_l1, at_l2, at_l3, eq_int, ne_int, lt_int, gt_int, le_int, ge_int, add_int, sub_int, int_int, int_bool, len_l, len_t, len_scr, dListOf, dTupOf, decide_eq_true_eq, List.length_map, Nat.reduceAdd, Nat.reduceSub, Nat.reduceLeDiff, Nat.zero_add, if_true, if_false, ↓reduceIte, Bool.false_eq_true, Bool.not_true, Bool.not_false, fIn_ap, fGet_ap, inT_f, inT_t, gtT_s, key_i, isS_s, isS_n, map_none, sum_int, all_b, any_b, isi_int, isi_intb, isi_list, sTry_ap, tryE_ex, tryE_nx, tryE_rt, tryC_nx, tryC_rt, tryC_f, set_ap, setS_l, vDct1_ap, hr.2 n y hn]
theorem sv_gate (c i s st v : Option Va) (k : Str) (n y a w : Int) (rs : List (D × D)) (hr : RsOk rs a w) (hn0 : 0 ≤ n) (vs ss : List Int) (hq : dEq (.str k) (.str (S "latch")) = some (.z, .bool false)) (h : ∀ x ∈ ss, 0 ≤ x ∧ x < vs.length) (hl : ss.length ≤ 3) (hv : vs.length ≤ 1000) (e2 : F_cell_value [.str k, L (look vs ss)] = .ok (.z, .int y)) :
    lb_settled_values_1 [c, i, s, some (.z, .dict rs), some (.l .z, L vs), st, some (.z, .str k), some (.z, T ss), some (.z, .int n), v, none, none] = .nx [c, i, s, some (.z, .dict rs), some (.l .z, L (vs ++ [fav a w n y])), st, some (.z, .str k), some (.z, T ss), some (.z, .int n), some (.z, .int y), none, none] := by
  have e1 := sv_comp c i s st (some (.z, .str k)) (some (.z, .int n)) v vs ss (.dict rs) h hl
  have e3 := fun v4 v5 v6 v7 => sv_get c i s v4 v5 v6 v7 n y a w rs hr hn0
  unfold lb_settled_values_1
  simp (disch := omega) only [runD_ap, seq_eq, then_nx, then_rt, then_ex, then_ct, then_bk, sB_ok, sB_ex, bind_ok, bind_ex, of_some, gZ_z, gB_s, gBl_l, gBl_z, gF_s, gM_s, fC_ap, fN_ap, fZ_ap, vMv_ap, fV_ap, vF_ap, oF_f, oF_l, oB_f, oB_l, osN_f, osN_l, osC_f, osC_l, o2_ap, fB_ap, fsN_ap, fsC_ap, fLst_ap, fTup_ap, fMt_ap, mtS_l, mtE_l, bB_b, bV_ap, bBo_b, bF_ap, bO_ap, bNot_ap, bAnd_ap, bOr_ap, vIf_ap, vA_b, vO_b, vAnd_ap, vOr_ap, dNot_b, fNot_ap, dNg_i, fNeg_ap, fPN_ap, dPs_i, fPS_ap, vCut_ap, fIsi_ap, rOut_ok, rOut_ex, fCall_ap, fDct0_ap, dIterL_l, dIterL_t, iLT_ap, iR1_ap, iR2_ap, iEn_ap, iZp_ap, vLR1_ap, sNx_ap, sAsg_ap, sRet_ap, sExp_ap, sIf_ap, sFor_ap, oNx_s, sTgt_ap, fzE_s, sFz_ap, sRaise_ap, res_nx, res_rt, res_ex, st0, List.map_cons, List.map_nil, List.length_cons, List.length_nil, List.replicate_succ, List.replicate_zero, List.cons_append, List.nil_append, List.append_nil, List.getElem?_cons_zero, List.getElem?_cons_succ, List.set_cons_zero, List.set_cons_succ, Option.bind_some, Option.map_some, dTru, at_t0, at_t1, at_t2, at_t3, at_l0, at_l1, at_l2, at_l3, eq_int, ne_int, lt_int, gt_int, le_int, ge_int, add_int, sub_int, int_int, int_bool, len_l, len_t, len_scr, dListOf, dTupOf, decide_eq_true_eq, List.length_map, Nat.reduceAdd, Nat.reduceSub, Nat.reduceLeDiff, Nat.zero_add, if_true, if_false, ↓reduceIte, Bool.false_eq_true, Bool.not_true, Bool.not_false, fIn_ap, fGet_ap, inT_f, inT_t, gtT_s, key_i, isS_s, isS_n, map_none, sum_int, all_b, any_b, isi_int, isi_intb, isi_list, sTry_ap, tryE_ex, tryE_nx, tryE_rt, tryC_nx, tryC_rt, tryC_f, set_ap, setS_l, vDct1_ap, hq, e1, e2, e3, app_int]
theorem sv_latch (c i s v o : Option Va) (n x a w : Int) (rs : List (D × D)) (hr : RsOk rs a w) (hn0 : 0 ≤ n) (vs st ss : List Int) (hv : vs.length ≤ 1000) :
    lb_settled_values_1 [c, i, s, some (.z, .dict rs), some (.l .z, L vs), some (.l .z, L (x :: st)), some (.z, .str (S "latch")), some (.z, T ss), some (.z, .int n), v, none, none] = .nx [c, i, s, some (.z, .dict rs), some (.l .z, L (vs ++ [fav a w n x])), some (.l .z, L st), some (.z, .str (S "latch")), some (.z, T ss), some (.z, .int n), some (.z, .int x), none, none] := by
  have e3 := fun v4 v5 v6 v7 => sv_get c i s v4 v5 v6 v7 n x a w rs hr hn0
  unfold lb_settled_values_1
  simp (disch := omega) only [runD_ap, seq_eq, then_nx, then_rt, then_ex, then_ct, then_bk, sB_ok, sB_ex, bind_ok, bind_ex, of_some, gZ_z, gB_s, gBl_l, gBl_z, gF_s, gM_s, fC_ap, fN_ap, fZ_ap, vMv_ap, fV_ap, vF_ap, oF_f, oF_l, oB_f, oB_l, osN_f, osN_l, osC_f, osC_l, o2_ap, fB_ap, fsN_ap, fsC_ap, fLst_ap, fTup_ap, fMt_ap, mtS_l, mtE_l, bB_b, bV_ap, bBo_b, bF_ap, bO_ap, bNot_ap, bAnd_ap, bOr_ap, vIf_ap, vA_b, vO_b, vAnd_ap, vOr_ap, dNot_b, fNot_ap, dNg_i, fNeg_ap, fPN_ap, dPs_i, fPS_ap, vCut_ap, fIsi_ap, rOut_ok, rOut_ex, fCall_ap, fDct0_ap, dIterL_l, dIterL_t, iLT_ap, iR1_ap, iR2_ap, iEn_ap, iZp_ap, vLR1_ap, sNx_ap, sAsg_ap, sRet_ap, sExp_ap, sIf_ap, sFor_ap, oNx_s, sTgt_ap, fzE_s, sFz_ap, sRaise_ap, res_nx, res_rt, res_ex, st0, List.map_cons, List.map_nil, List.length_cons, List.length_nil, List.replicate_succ, List.replicate_zero, List.cons_append, List.nil_append, List.append_nil, List.getElem?_cons_zero, List.getElem?_cons_succ, List.set_cons_zero, List.set_cons_succ, Option.bind_some, Option.map_some, dTru, at_t0, at_t1, at_t2, at_t3, at_l0, at_l1, at_l2, at_l3, eq_int, ne_int, lt_int, gt_int, le_int, ge_int, add_int, sub_int, int_int, int_bool, len_l, len_t, len_scr, dListOf, dTupOf, decide_eq_true_eq, List.length_map, Nat.reduceAdd, Nat.reduceSub, Nat.reduceLeDiff, Nat.zero_add, if_true, if_false, ↓reduceIte, Bool.false_eq_true, Bool.not_true, Bool.not_false, fIn_ap, fGet_ap, inT_f, inT_t, gtT_s, key_i, isS_s, isS_n, map_none, sum_int, all_b, any_b, isi_int, isi_intb, isi_list, sTry_ap, tryE_ex, tryE_nx, tryE_rt, tryC_nx, tryC_rt, tryC_f, set_ap, setS_l, vDct1_ap, q_latch_latch, qn_latch_latch, q_latch_not, qn_latch_not, iw_latch, it_latch, in_latch, q_tie0_latch, qn_tie0_latch, q_tie0_not, qn_tie0_not, iw_tie0, it_tie0, in_tie0, lk_tie0, ct_tie0, la_tie0, l3_tie0, q_tie1_latch, qn_tie1_latch, q_tie1_not, qn_tie1_not, iw_tie1, it_tie1, in_tie1, lk_tie1, ct_tie1, la_tie1, l3_tie1, q_not_latch, qn_not_latch, q_not_not, qn_not_not, iw_not, it_not, in_not, lk_not, ct_not, q_nand2_latch, qn_nand2_latch, q_nand2_not, qn_nand2_not, iw_nand2, it_nand2, in_nand2, lk_nand2, ct_nand2, la_nand2, q_nand3_latch, qn_nand3_latch, q_nand3_not, qn_nand3_not, iw_nand3, it_nand3, in_nand3, lk_nand3, ct_nand3, la_nand3, q_nor2_latch, qn_nor2_latch, q_nor2_not, qn_nor2_not, iw_nor2, it_nor2, in_nor2, lk_nor2, ct_nor2, la_nor2, q_nor3_latch, qn_nor3_latch, q_nor3_not, qn_nor3_not, iw_nor3, it_nor3, in_nor3, lk_nor3, ct_nor3, la_nor3, p_tie_tie, p_tie_nor, p_nan_tie, p_nan_nor, p_nor_tie, p_nor_nor, p_not_tie, p_not_nor, n_0, n_1, n_2, n_3, pop0, e3, app_int]
abbrev sv_t : D → Ev → Option Ev := gT (gsC (gN 6) (gsC (gN 7) (gsC (gN 8) gsN)))
theorem not_latch {k : Str} (h : k ∈ K8) (hn : k ≠ S "latch") : dEq (.str k) (.str (S "latch")) = some (.z, .bool false) := by
  show some (_ : Va) = _
  rw [decide_eq_false hn]
theorem sv_loop (tot : Nat) (c i s : Option Va) (a w : Int) (rs : List (D × D)) (hr : RsOk rs a w) : ∀ (cs : List Cell) (vs st : List Int) (k ss o v : Option Va), CellsOk vs.length tot cs → nlat cs ≤ st.length → vs.length + cs.length ≤ 100 →
    ∃ st' k' ss' o' v', sForL sv_t lb_settled_values_1 (cs.map cellD) [c, i, s, some (.z, .dict rs), some (.l .z, L vs), some (.l .z, L st), k, ss, o, v, none, none] = .nx [c, i, s, some (.z, .dict rs), some (.l .z, L (vals a w vs cs st)), some (.l .z, L st'), k', ss', o', v', none, none]
  | [], vs, st, k, ss, o, v, _, _, _ => ⟨st, k, ss, o, v, rfl⟩
  | (kd, sr, nt) :: cs, vs, st, k, ss, o, v, h1, h2, h3 => by
    obtain ⟨⟨hk, hla, hga, hsl, hnt⟩, hrr⟩ := h1
    dsimp only at hk hla hga hsl hnt
    rw [List.length_cons] at h3
    have ht : sv_t (cellD (kd, sr, nt)) [c, i, s, some (.z, .dict rs), some (.l .z, L vs), some (.l .z, L st), k, ss, o, v, none, none] = some [c, i, s, some (.z, .dict rs), some (.l .z, L vs), some (.l .z, L st), some (.z, .str kd), some (.z, T sr), some (.z, .int nt), v, none, none] := rfl
    rw [List.map_cons]
    unfold sForL
    rw [ht]
    dsimp only
    by_cases q : kd = S "latch"
    · subst q
      have hn : nlat ((S "latch", sr, nt) :: cs) = nlat cs + 1 := by
        unfold nlat
        rw [List.filter_cons, if_pos (decide_eq_true rfl), List.length_cons]
      cases st with
      | nil => rw [hn] at h2; exact absurd h2 (by simp)
      | cons x st =>
        rw [sv_latch _ _ _ _ o _ _ a w rs hr (by omega) _ _ _ (by omega)]
        dsimp only
        have e : vals a w vs ((S "latch", sr, nt) :: cs) (x :: st) = vals a w (vs ++ [fav a w nt x]) cs st := by
          rw [vals, if_pos rfl]
          rfl
        rw [e]
        exact sv_loop tot c i s a w rs hr cs _ _ _ _ _ _ (by rw [List.length_append]; exact hrr) (by rw [hn, List.length_cons] at h2; omega) (by rw [List.length_append, List.length_cons, List.length_nil]; omega)
    · have hn : nlat ((kd, sr, nt) :: cs) = nlat cs := by
        unfold nlat
        rw [List.filter_cons, if_neg (by simpa using q)]
      rw [sv_gate _ _ _ _ _ kd _ (gate kd (look vs sr)) a w rs hr (by omega) _ _ (not_latch hk q) (hga q) hsl (by omega) (cell_value_ok kd hk q _ (by rw [look_len]; omega))]
      dsimp only
      have e : vals a w vs ((kd, sr, nt) :: cs) st = vals a w (vs ++ [fav a w nt (gate kd (look vs sr))]) cs st := by
        rw [vals, if_neg q]
      rw [e]
      exact sv_loop tot c i s a w rs hr cs _ _ _ _ _ _ (by rw [List.length_append]; exact hrr) (by omega) (by rw [List.length_append, List.length_cons, List.length_nil]; omega)
end K09
namespace K09
open PySem PV
def ini (a w : Int) (bs : List Int) : List Int := bs.zipIdx.map fun p => fav a w (p.2 : Nat) p.1
theorem ini_len (a w : Int) (bs : List Int) : (ini a w bs).length = bs.length := by
  unfold ini
  rw [List.length_map, List.length_zipIdx]
def inD (a w : Int) (d : D) : D := match d with | .tuple [.int n, .int x] => .int (fav a w n x) | _ => .none
theorem sv_init (c s : Option Va) (bs : List Int) (a w : Int) (rs : List (D × D)) (hr : RsOk rs a w) (h : bs.length ≤ 1000) :
    vComp [10, 11] (iEn (fsC (fN 1) fsN)) (gT (gsC (gN 10) (gsC (gN 11) gsN))) bYes ce_settled_values_1 [c, some (.z, L bs), s, some (.z, .dict rs), none, none, none, none, none, none, none, none] = .ok (.l .z, L (ini a w bs)) [c, some (.z, L bs), s, some (.z, .dict rs), none, none, none, none, none, none, none, none] := by
  refine comp_ok (ds := enumL (bs.map .int)) ?_ (by unfold enumL; rw [List.length_map, List.length_zipIdx, List.length_map]; omega) ?_ rfl
  · simp only [runD_ap, seq_eq, then_nx, then_rt, then_ex, then_ct, then_bk, sB_ok, sB_ex, bind_ok, bind_ex, of_some, gZ_z, gB_s, gBl_l, gBl_z, gF_s, gM_s, fC_ap, fN_ap, fZ_ap, vMv_ap, fV_ap, vF_ap, oF_f, oF_l, oB_f, oB_l, osN_f, osN_l, osC_f, osC_l, o2_ap, fB_ap, fsN_ap, fsC_ap, fLst_ap, fTup_ap, fMt_ap, mtS_l, mtE_l, bB_b, bV_ap, bBo_b, bF_ap, bO_ap, bNot_ap, bAnd_ap, bOr_ap, vIf_ap, vA_b, vO_b, vAnd_ap, vOr_ap, dNot_b, fNot_ap, dNg_i, fNeg_ap, fPN_ap, dPs_i, fPS_ap, vCut_ap, fIsi_ap, rOut_ok, rOut_ex, fCall_ap, fDct0_ap, dIterL_l, dIterL_t, iLT_ap, iR1_ap, iR2_ap, iEn_ap, iZp_ap, vLR1_ap, sNx_ap, sAsg_ap, sRet_ap, sExp_ap, sIf_ap, sFor_ap, oNx_s, sTgt_ap, fzE_s, sFz_ap, sRaise_ap, res_nx, res_rt, res_ex, st0, List.map_cons, List.map_nil, List.length_cons, List.length_nil, List.replicate_succ, List.replicate_zero, List.cons_append, List.nil_append, List.append_nil, List.getElem?_cons_zero, List.getElem?_cons_succ, List.set_cons_zero, List.set_cons_succ, Option.bind_some, Option.map_some, dTru, at_t0, at_t1, at_t2, at_t3, at_l0, at_l1, at_l2, at_l3, eq_int, ne_int, lt_int, gt_int, le_int, ge_int, add_int, sub_int, int_int, int_bool, len_l, len_t, len_scr, dListOf, dTupOf, decide_eq_true_eq, List.length_map, Nat.reduceAdd, Nat.reduceSub, Nat.reduceLeDiff, Nat.zero_add, if_true, if_false, ↓reduceIte, Bool.false_eq_true, Bool.not_true, Bool.not_false, fIn_ap, fGet_ap, inT_f, inT_t, gtT_s, key_i, isS_s, isS_n, map_none, sum_int, all_b, any_b, isi_int, isi_intb, isi_list, sTry_ap, tryE_ex, tryE_nx, tryE_rt, tryC_nx, tryC_rt, tryC_f, set_ap, setS_l, vDct1_ap, vch_ap, chB_b, chE_t, chE_f]
  · have := comp_gen (is := [10, 11]) (t := gT (gsC (gN 10) (gsC (gN 11) gsN))) (c := bYes) (fe := ce_settled_values_1) (Γ := [c, some (.z, L bs), s, some (.z, .dict rs), none, none, none, none, none, none, none, none]) (inD a w) (fun _ => true) (enumL (bs.map .int)) (fun d hd => by
      unfold enumL at hd
      obtain ⟨⟨x, n⟩, hp, rfl⟩ := List.mem_map.mp hd
      have hx : x ∈ bs.map PyData.int := (List.mem_zipIdx hp).2.2 ▸ List.getElem_mem _
      obtain ⟨m, _, rfl⟩ := List.mem_map.mp hx
      refine ⟨[c, some (.z, L bs), s, some (.z, .dict rs), none, none, none, none, none, none, some (.z, .int n), some (.z, .int m)], rfl, rfl, fun _ => ?_, rfl⟩
      unfold ce_settled_values_1
      rw [fGet2_rs (fd := fN 3) (Γ1 := [c, some (.z, L bs), s, some (.z, .dict rs), none, none, none, none, none, none, some (.z, .int n), some (.z, .int m)]) rfl hr.1]
      simp only [runD_ap, seq_eq, then_nx, then_rt, then_ex, then_ct, then_bk, sB_ok, sB_ex, bind_ok, bind_ex, of_some, gZ_z, gB_s, gBl_l, gBl_z, gF_s, gM_s, fC_ap, fN_ap, fZ_ap, vMv_ap, fV_ap, vF_ap, oF_f, oF_l, oB_f, oB_l, osN_f, osN_l, osC_f, osC_l, o2_ap, fB_ap, fsN_ap, fsC_ap, fLst_ap, fTup_ap, fMt_ap, mtS_l, mtE_l, bB_b, bV_ap, bBo_b, bF_ap, bO_ap, bNot_ap, bAnd_ap, bOr_ap, vIf_ap, vA_b, vO_b, vAnd_ap, vOr_ap, dNot_b, fNot_ap, dNg_i, fNeg_ap, fPN_ap, dPs_i, fPS_ap, vCut_ap, fIsi_ap, rOut_ok, rOut_ex, fCall_ap, fDct0_ap, dIterL_l, dIterL_t, iLT_ap, iR1_ap, iR2_ap, iEn_ap, iZp_ap, vLR1_ap, sNx_ap, sAsg_ap, sRet_ap, sExp_ap, sIf_ap, sFor_ap, oNx_s, sTgt_ap, fzE_s, sFz_ap, sRaise_ap, res_nx, res_rt, res_ex, st0, List.map_cons, List.map_nil, List.length_cons, List.length_nil, List.replicate_succ, List.replicate_zero, List.cons_append, List.nil_append, List.append_nil, List.getElem?_cons_zero, List.getElem?_cons_succ, List.set_cons_zero, List.set_cons_succ, Option.bind_some, Option.map_some, dTru, at_t0, at_t1, at_t2, at_t3, at_l0, at_l1, at_l2, at_l3, eq_int, ne_int, lt_int, gt_int, le_int, ge_int, add_int, sub_int, int_int, int_bool, len_l, len_t, len_scr, dListOf, dTupOf, decide_eq_true_eq, List.length_map, Nat.reduceAdd, Nat.reduceSub, Nat.reduceLeDiff, Nat.zero_add, if_true, if_false, ↓reduceIte, Bool.false_eq_true, Bool.not_true, Bool.not_false, fIn_ap, fGet_ap, inT_f, inT_t, gtT_s, key_i, isS_s, isS_n, map_none, sum_int, all_b, any_b, isi_int, isi_intb, isi_list, sTry_ap, tryE_ex, tryE_nx, tryE_rt, tryC_nx, tryC_rt, tryC_f, set_ap, setS_l, vDct1_ap, vch_ap, chB_b, chE_t, chE_f, hr.2 n m (Int.natCast_nonneg n)]
      rfl)
    show compL _ _ _ _ _ [c, some (.z, L bs), s, some (.z, .dict rs), none, none, none, none, none, none, none, none] = _
    rw [this, List.filter_eq_self.mpr fun _ _ => rfl]
    have e : (enumL (bs.map .int)).map (inD a w) = (ini a w bs).map .int := by
      unfold enumL ini
      rw [List.map_map, List.map_map, List.zipIdx_map, List.map_map]
      rfl
    rw [e]
    rfl
theorem settled_ok (cd h4 : D) (outs : D) (tot : Nat) (cs : List Cell) (ins st : List Int) (a w : Int) (rs : List (D × D)) (hr : RsOk rs a w) (h1 : CellsOk ins.length tot cs) (h2 : nlat cs ≤ st.length) (h3 : ins.length + cs.length ≤ 100) :
    F_settled_values [.tuple [cd, .tuple (cs.map cellD), outs, h4], L ins, L st, .dict rs] = .ok (.l .z, L (vals a w (ini a w ins) cs st)) := by
  obtain ⟨st', k', ss', o', v', e⟩ := sv_loop tot (some (.z, .tuple [cd, .tuple (cs.map cellD), outs, h4])) (some (.z, L ins)) (some (.z, L st)) a w rs hr cs (ini a w ins) st none none none none (by rw [ini_len]; exact h1) h2 (by rw [ini_len]; exact h3)
  have e1 := sv_init (some (.z, .tuple [cd, .tuple (cs.map cellD), outs, h4])) (some (.z, L st)) ins a w rs hr (by omega)
  generalize vals a w (ini a w ins) cs st = z at *
  generalize ini a w ins = z0 at *
  generalize cs.map cellD = w' at *
  unfold F_settled_values fb_settled_values
  simp only [runD_ap, seq_eq, then_nx, then_rt, then_ex, then_ct, then_bk, sB_ok, sB_ex, bind_ok, bind_ex, of_some, gZ_z, gB_s, gBl_l, gBl_z, gF_s, gM_s, fC_ap, fN_ap, fZ_ap, vMv_ap, fV_ap, vF_ap, oF_f, oF_l, oB_f, oB_l, osN_f, osN_l, osC_f, osC_l, o2_ap, fB_ap, fsN_ap, fsC_ap, fLst_ap, fTup_ap, fMt_ap, mtS_l, mtE_l, bB_b, bV_ap, bBo_b, bF_ap, bO_ap, bNot_ap, bAnd_ap, bOr_ap, vIf_ap, vA_b, vO_b, vAnd_ap, vOr_ap, dNot_b, fNot_ap, dNg_i, fNeg_ap, fPN_ap, dPs_i, fPS_ap, vCut_ap, fIsi_ap, rOut_ok, rOut_ex, fCall_ap, fDct0_ap, dIterL_l, dIterL_t, iLT_ap, iR1_ap, iR2_ap, iEn_ap, iZp_ap, vLR1_ap, sNx_ap, sAsg_ap, sRet_ap, sExp_ap, sIf_ap, sFor_ap, oNx_s, sTgt_ap, fzE_s, sFz_ap, sRaise_ap, res_nx, res_rt, res_ex, st0, List.map_cons, List.map_nil, List.length_cons, List.length_nil, List.replicate_succ, List.replicate_zero, List.cons_append, List.nil_append, List.append_nil, List.getElem?_cons_zero, List.getElem?_cons_succ, List.set_cons_zero, List.set_cons_succ, Option.bind_some, Option.map_some, dTru, at_t0, at_t1, at_t2, at_t3, at_l0, at_l1, at_l2, at_l3, eq_int, ne_int, lt_int, gt_int, le_int, ge_int, add_int, sub_int, int_int, int_bool, len_l, len_t, len_scr, dListOf, dTupOf, decide_eq_true_eq, List.length_map, Nat.reduceAdd, Nat.reduceSub, Nat.reduceLeDiff, Nat.zero_add, if_true, if_false, ↓reduceIte, Bool.false_eq_true, Bool.not_true, Bool.not_false, fIn_ap, fGet_ap, inT_f, inT_t, gtT_s, key_i, isS_s, isS_n, map_none, sum_int, all_b, any_b, isi_int, isi_intb, isi_list, sTry_ap, tryE_ex, tryE_nx, tryE_rt, tryC_nx, tryC_rt, tryC_f, set_ap, setS_l, vDct1_ap, vch_ap, chB_b, chE_t, chE_f, e1, e]
theorem band1 (x : Nat) : Builtin.bitAnd (x : Int) 1 = ((x % 2 : Nat) : Int) := by
  rw [← Nat.and_one_is_mod]
  unfold Builtin.bitAnd
  rw [decide_eq_true (show (0 : Int) ≤ (x : Int) by omega), show decide ((0 : Int) ≤ 1) = true from rfl]
  rfl
end K09
namespace K09
open PySem PV
def isL (d : D) : Bool := match d with | .tuple (.str k :: _) => decide (k = S "latch") | _ => false
abbrev lats (cs : List Cell) : List Cell := cs.filter fun c => c.1 = S "latch"
theorem filt (cs : List Cell) : (cs.map cellD).filter isL = (lats cs).map cellD := by
  rw [List.filter_map]
  rfl
theorem cells_latch {tot : Nat} : ∀ {cs : List Cell} {i : Nat}, CellsOk i tot cs → ∀ c ∈ cs, c.1 = S "latch" → ∃ s, c.2.1 = [s] ∧ 0 ≤ s ∧ s < tot
  | c :: cs, i, h, d, hd, e => by
    rcases List.mem_cons.mp hd with rfl | hd
    · exact h.1.2.1 e
    · exact cells_latch h.2 d hd e
theorem latch_cells_ok (n outs h4 : D) (cs : List Cell) (hl : cs.length ≤ 1000) : F_latch_cells [.tuple [n, .tuple (cs.map cellD), outs, h4]] = .ok (.l .z, .list ((lats cs).map cellD)) := by
  have e : vComp [1] (iLT (fV (o2 dAt (oF (fN 0)) (oF (fC (.int 1)))))) (gN 1) cc_latch_cells_1 ce_latch_cells_1 [some (.z, .tuple [n, .tuple (cs.map cellD), outs, h4]), none] = .ok (.l .z, .list ((lats cs).map cellD)) [some (.z, .tuple [n, .tuple (cs.map cellD), outs, h4]), none] := by
    refine comp_ok (ds := cs.map cellD) ?_ (by rw [List.length_map]; omega) ?_ rfl
    · generalize cs.map cellD = w
      simp only [runD_ap, seq_eq, then_nx, then_rt, then_ex, then_ct, then_bk, sB_ok, sB_ex, bind_ok, bind_ex, of_some, gZ_z, gB_s, gBl_l, gBl_z, gF_s, gM_s, fC_ap, fN_ap, fZ_ap, vMv_ap, fV_ap, vF_ap, oF_f, oF_l, oB_f, oB_l, osN_f, osN_l, osC_f, osC_l, o2_ap, fB_ap, fsN_ap, fsC_ap, fLst_ap, fTup_ap, fMt_ap, mtS_l, mtE_l, bB_b, bV_ap, bBo_b, bF_ap, bO_ap, bNot_ap, bAnd_ap, bOr_ap, vIf_ap, vA_b, vO_b, vAnd_ap, vOr_ap, dNot_b, fNot_ap, dNg_i, fNeg_ap, fPN_ap, dPs_i, fPS_ap, vCut_ap, fIsi_ap, rOut_ok, rOut_ex, fCall_ap, fDct0_ap, dIterL_l, dIterL_t, iLT_ap, iR1_ap, iR2_ap, iEn_ap, iZp_ap, vLR1_ap, sNx_ap, sAsg_ap, sRet_ap, sExp_ap, sIf_ap, sFor_ap, oNx_s, sTgt_ap, fzE_s, sFz_ap, sRaise_ap, res_nx, res_rt, res_ex, st0, List.map_cons, List.map_nil, List.length_cons, List.length_nil, List.replicate_succ, List.replicate_zero, List.cons_append, List.nil_append, List.append_nil, List.getElem?_cons_zero, List.getElem?_cons_succ, List.set_cons_zero, List.set_cons_succ, Option.bind_some, Option.map_some, dTru, at_t0, at_t1, at_t2, at_t3, at_l0, at_l1, at_l2, at_l3, eq_int, ne_int, lt_int, gt_int, le_int, ge_int, add_int, sub_int, int_int, int_bool, len_l, len_t, len_scr, dListOf, dTupOf, decide_eq_true_eq, List.length_map, Nat.reduceAdd, Nat.reduceSub, Nat.reduceLeDiff, Nat.zero_add, if_true, if_false, ↓reduceIte, Bool.false_eq_true, Bool.not_true, Bool.not_false, fIn_ap, fGet_ap, inT_f, inT_t, gtT_s, key_i, isS_s, isS_n, map_none, sum_int, all_b, any_b, isi_int, isi_intb, isi_list, sTry_ap, tryE_ex, tryE_nx, tryE_rt, tryC_nx, tryC_rt, tryC_f, set_ap, setS_l, vDct1_ap, vch_ap, chB_b, chE_t, chE_f]
    · have := comp_gen (is := [1]) (t := gN 1) (c := cc_latch_cells_1) (fe := ce_latch_cells_1) (Γ := [some (.z, .tuple [n, .tuple (cs.map cellD), outs, h4]), none]) id isL (cs.map cellD) (fun d hd => by
        obtain ⟨⟨k, sr, nt⟩, _, rfl⟩ := List.mem_map.mp hd
        generalize cs.map cellD = w
        refine ⟨_, rfl, ?_, fun _ => ?_, rfl⟩
        · unfold cc_latch_cells_1
          show bV _ [some (.z, .tuple [n, .tuple w, outs, h4]), some (.z, .tuple [.str k, T sr, .int nt])] = .ok (decide (k = S "latch")) [some (.z, .tuple [n, .tuple w, outs, h4]), some (.z, .tuple [.str k, T sr, .int nt])]
          simp only [runD_ap, seq_eq, then_nx, then_rt, then_ex, then_ct, then_bk, sB_ok, sB_ex, bind_ok, bind_ex, of_some, gZ_z, gB_s, gBl_l, gBl_z, gF_s, gM_s, fC_ap, fN_ap, fZ_ap, vMv_ap, fV_ap, vF_ap, oF_f, oF_l, oB_f, oB_l, osN_f, osN_l, osC_f, osC_l, o2_ap, fB_ap, fsN_ap, fsC_ap, fLst_ap, fTup_ap, fMt_ap, mtS_l, mtE_l, bB_b, bV_ap, bBo_b, bF_ap, bO_ap, bNot_ap, bAnd_ap, bOr_ap, vIf_ap, vA_b, vO_b, vAnd_ap, vOr_ap, dNot_b, fNot_ap, dNg_i, fNeg_ap, fPN_ap, dPs_i, fPS_ap, vCut_ap, fIsi_ap, rOut_ok, rOut_ex, fCall_ap, fDct0_ap, dIterL_l, dIterL_t, iLT_ap, iR1_ap, iR2_ap, iEn_ap, iZp_ap, vLR1_ap, sNx_ap, sAsg_ap, sRet_ap, sExp_ap, sIf_ap, sFor_ap, oNx_s, sTgt_ap, fzE_s, sFz_ap, sRaise_ap, res_nx, res_rt, res_ex, st0, List.map_cons, List.map_nil, List.length_cons, List.length_nil, List.replicate_succ, List.replicate_zero, List.cons_append, List.nil_append, List.append_nil, List.getElem?_cons_zero, List.getElem?_cons_succ, List.set_cons_zero, List.set_cons_succ, Option.bind_some, Option.map_some, dTru, at_t0, at_t1, at_t2, at_t3, at_l0, at_l1, at_l2, at_l3, eq_int, ne_int, lt_int, gt_int, le_int, ge_int, add_int, sub_int, int_int, int_bool, len_l, len_t, len_scr, dListOf, dTupOf, decide_eq_true_eq, List.length_map, Nat.reduceAdd, Nat.reduceSub, Nat.reduceLeDiff, Nat.zero_add, if_true, if_false, ↓reduceIte, Bool.false_eq_true, Bool.not_true, Bool.not_false, fIn_ap, fGet_ap, inT_f, inT_t, gtT_s, key_i, isS_s, isS_n, map_none, sum_int, all_b, any_b, isi_int, isi_intb, isi_list, sTry_ap, tryE_ex, tryE_nx, tryE_rt, tryC_nx, tryC_rt, tryC_f, set_ap, setS_l, vDct1_ap, vch_ap, chB_b, chE_t, chE_f, eq_str]
        · unfold ce_latch_cells_1
          show fN 1 [some (.z, .tuple [n, .tuple w, outs, h4]), some (.z, .tuple [.str k, T sr, .int nt])] = _
          simp only [runD_ap, seq_eq, then_nx, then_rt, then_ex, then_ct, then_bk, sB_ok, sB_ex, bind_ok, bind_ex, of_some, gZ_z, gB_s, gBl_l, gBl_z, gF_s, gM_s, fC_ap, fN_ap, fZ_ap, vMv_ap, fV_ap, vF_ap, oF_f, oF_l, oB_f, oB_l, osN_f, osN_l, osC_f, osC_l, o2_ap, fB_ap, fsN_ap, fsC_ap, fLst_ap, fTup_ap, fMt_ap, mtS_l, mtE_l, bB_b, bV_ap, bBo_b, bF_ap, bO_ap, bNot_ap, bAnd_ap, bOr_ap, vIf_ap, vA_b, vO_b, vAnd_ap, vOr_ap, dNot_b, fNot_ap, dNg_i, fNeg_ap, fPN_ap, dPs_i, fPS_ap, vCut_ap, fIsi_ap, rOut_ok, rOut_ex, fCall_ap, fDct0_ap, dIterL_l, dIterL_t, iLT_ap, iR1_ap, iR2_ap, iEn_ap, iZp_ap, vLR1_ap, sNx_ap, sAsg_ap, sRet_ap, sExp_ap, sIf_ap, sFor_ap, oNx_s, sTgt_ap, fzE_s, sFz_ap, sRaise_ap, res_nx, res_rt, res_ex, st0, List.map_cons, List.map_nil, List.length_cons, List.length_nil, List.replicate_succ, List.replicate_zero, List.cons_append, List.nil_append, List.append_nil, List.getElem?_cons_zero, List.getElem?_cons_succ, List.set_cons_zero, List.set_cons_succ, Option.bind_some, Option.map_some, dTru, at_t0, at_t1, at_t2, at_t3, at_l0, at_l1, at_l2, at_l3, eq_int, ne_int, lt_int, gt_int, le_int, ge_int, add_int, sub_int, int_int, int_bool, len_l, len_t, len_scr, dListOf, dTupOf, decide_eq_true_eq, List.length_map, Nat.reduceAdd, Nat.reduceSub, Nat.reduceLeDiff, Nat.zero_add, if_true, if_false, ↓reduceIte, Bool.false_eq_true, Bool.not_true, Bool.not_false, fIn_ap, fGet_ap, inT_f, inT_t, gtT_s, key_i, isS_s, isS_n, map_none, sum_int, all_b, any_b, isi_int, isi_intb, isi_list, sTry_ap, tryE_ex, tryE_nx, tryE_rt, tryC_nx, tryC_rt, tryC_f, set_ap, setS_l, vDct1_ap, vch_ap, chB_b, chE_t, chE_f]
          rfl)
      rw [filt, List.map_id] at this
      exact this
  generalize (lats cs).map cellD = z at *
  generalize cs.map cellD = w at *
  unfold F_latch_cells fb_latch_cells
  simp only [runD_ap, seq_eq, then_nx, then_rt, then_ex, then_ct, then_bk, sB_ok, sB_ex, bind_ok, bind_ex, of_some, gZ_z, gB_s, gBl_l, gBl_z, gF_s, gM_s, fC_ap, fN_ap, fZ_ap, vMv_ap, fV_ap, vF_ap, oF_f, oF_l, oB_f, oB_l, osN_f, osN_l, osC_f, osC_l, o2_ap, fB_ap, fsN_ap, fsC_ap, fLst_ap, fTup_ap, fMt_ap, mtS_l, mtE_l, bB_b, bV_ap, bBo_b, bF_ap, bO_ap, bNot_ap, bAnd_ap, bOr_ap, vIf_ap, vA_b, vO_b, vAnd_ap, vOr_ap, dNot_b, fNot_ap, dNg_i, fNeg_ap, fPN_ap, dPs_i, fPS_ap, vCut_ap, fIsi_ap, rOut_ok, rOut_ex, fCall_ap, fDct0_ap, dIterL_l, dIterL_t, iLT_ap, iR1_ap, iR2_ap, iEn_ap, iZp_ap, vLR1_ap, sNx_ap, sAsg_ap, sRet_ap, sExp_ap, sIf_ap, sFor_ap, oNx_s, sTgt_ap, fzE_s, sFz_ap, sRaise_ap, res_nx, res_rt, res_ex, st0, List.map_cons, List.map_nil, List.length_cons, List.length_nil, List.replicate_succ, List.replicate_zero, List.cons_append, List.nil_append, List.append_nil, List.getElem?_cons_zero, List.getElem?_cons_succ, List.set_cons_zero, List.set_cons_succ, Option.bind_some, Option.map_some, dTru, at_t0, at_t1, at_t2, at_t3, at_l0, at_l1, at_l2, at_l3, eq_int, ne_int, lt_int, gt_int, le_int, ge_int, add_int, sub_int, int_int, int_bool, len_l, len_t, len_scr, dListOf, dTupOf, decide_eq_true_eq, List.length_map, Nat.reduceAdd, Nat.reduceSub, Nat.reduceLeDiff, Nat.zero_add, if_true, if_false, ↓reduceIte, Bool.false_eq_true, Bool.not_true, Bool.not_false, fIn_ap, fGet_ap, inT_f, inT_t, gtT_s, key_i, isS_s, isS_n, map_none, sum_int, all_b, any_b, isi_int, isi_intb, isi_list, sTry_ap, tryE_ex, tryE_nx, tryE_rt, tryC_nx, tryC_rt, tryC_f, set_ap, setS_l, vDct1_ap, vch_ap, chB_b, chE_t, chE_f, e]
theorem nlat_eq (cs : List Cell) : ((lats cs).map cellD).length = nlat cs := List.length_map _
theorem comp_range {i : Nat} {c : Ev → Out Bool} {fe : Ev → Out D} {Γ : Ev} (f : Nat → D) (m : Nat) (h0 : Γ.set i none = Γ) (hc : ∀ n < m, c (Γ.set i (some (.z, .int (n : Nat)))) = .ok true (Γ.set i (some (.z, .int (n : Nat))))) (hf : ∀ n < m, fe (Γ.set i (some (.z, .int (n : Nat)))) = .ok (f n) (Γ.set i (some (.z, .int (n : Nat))))) : compL [i] (gN i) c fe (rangeL 0 m) Γ = some ((List.range m).map f, Γ) := by
  rw [range_L, comp_ints (fun n => f n.toNat) _ h0 (fun n hn => ?_) fun n hn => ?_, List.map_map]
  · exact congrArg (fun x => some (x, Γ)) (List.map_congr_left fun k _ => by simp)
  · obtain ⟨k, hk, rfl⟩ := List.mem_map.mp hn
    exact hc k (List.mem_range.mp hk)
  · obtain ⟨k, hk, rfl⟩ := List.mem_map.mp hn
    rw [Int.toNat_natCast]
    exact hf k (List.mem_range.mp hk)
/-! the program's answers -/
def cbits (b c : Nat) : List Int := (List.range b).map fun k => ((c / 2 ^ k % 2 : Nat) : Int)
theorem cbits_len (b c : Nat) : (cbits b c).length = b := by
  unfold cbits
  rw [List.length_map, List.length_range]
theorem cbits01 (b c : Nat) : B01 (cbits b c) := fun x hx => by
  unfold cbits at hx
  obtain ⟨k, _, rfl⟩ := List.mem_map.mp hx
  omega
theorem shl_ok {b : Nat} (h : b ≤ 60) : dShl (.int 1) (.int b) = some (.z, .int ((2 ^ b : Nat) : Int)) := by
  unfold dShl
  dsimp only
  rw [if_pos ⟨by omega, by omega, by decide⟩, Int.toNat_natCast, Int.one_mul]
  congr 3
theorem shr_ok {c k : Nat} : dShr (.int c) (.int k) = some (.z, .int ((c / 2 ^ k : Nat) : Int)) := by
  unfold dShr
  dsimp only
  rw [if_pos (by omega), Int.toNat_natCast]
  congr 3
theorem and1_ok {x : Nat} : dAnd (.int x) (.int 1) = some (.z, .int ((x % 2 : Nat) : Int)) := by
  unfold dAnd
  dsimp only
  rw [band1]
theorem bit_count_ok (n outs h4 : D) (ni : Int) (hn : n = .int ni) (cs : List Cell) (hl : cs.length ≤ 1000) : F_bit_count [.tuple [n, .tuple (cs.map cellD), outs, h4]] = .ok (.z, .int (ni + (nlat cs : Nat))) := by
  subst hn
  have e := latch_cells_ok (.int ni) outs h4 cs hl
  rw [← nlat_eq]
  generalize (lats cs).map cellD = y at *
  generalize cs.map cellD = w at *
  unfold F_bit_count fb_bit_count
  simp only [runD_ap, seq_eq, then_nx, then_rt, then_ex, then_ct, then_bk, sB_ok, sB_ex, bind_ok, bind_ex, of_some, gZ_z, gB_s, gBl_l, gBl_z, gF_s, gM_s, fC_ap, fN_ap, fZ_ap, vMv_ap, fV_ap, vF_ap, oF_f, oF_l, oB_f, oB_l, osN_f, osN_l, osC_f, osC_l, o2_ap, fB_ap, fsN_ap, fsC_ap, fLst_ap, fTup_ap, fMt_ap, mtS_l, mtE_l, bB_b, bV_ap, bBo_b, bF_ap, bO_ap, bNot_ap, bAnd_ap, bOr_ap, vIf_ap, vA_b, vO_b, vAnd_ap, vOr_ap, dNot_b, fNot_ap, dNg_i, fNeg_ap, fPN_ap, dPs_i, fPS_ap, vCut_ap, fIsi_ap, rOut_ok, rOut_ex, fCall_ap, fDct0_ap, dIterL_l, dIterL_t, iLT_ap, iR1_ap, iR2_ap, iEn_ap, iZp_ap, vLR1_ap, sNx_ap, sAsg_ap, sRet_ap, sExp_ap, sIf_ap, sFor_ap, oNx_s, sTgt_ap, fzE_s, sFz_ap, sRaise_ap, res_nx, res_rt, res_ex, st0, List.map_cons, List.map_nil, List.length_cons, List.length_nil, List.replicate_succ, List.replicate_zero, List.cons_append, List.nil_append, List.append_nil, List.getElem?_cons_zero, List.getElem?_cons_succ, List.set_cons_zero, List.set_cons_succ, Option.bind_some, Option.map_some, dTru, at_t0, at_t1, at_t2, at_t3, at_l0, at_l1, at_l2, at_l3, eq_int, ne_int, lt_int, gt_int, le_int, ge_int, add_int, sub_int, int_int, int_bool, len_l, len_t, len_scr, dListOf, dTupOf, decide_eq_true_eq, List.length_map, Nat.reduceAdd, Nat.reduceSub, Nat.reduceLeDiff, Nat.zero_add, if_true, if_false, ↓reduceIte, Bool.false_eq_true, Bool.not_true, Bool.not_false, fIn_ap, fGet_ap, inT_f, inT_t, gtT_s, key_i, isS_s, isS_n, map_none, sum_int, all_b, any_b, isi_int, isi_intb, isi_list, sTry_ap, tryE_ex, tryE_nx, tryE_rt, tryC_nx, tryC_rt, tryC_f, set_ap, setS_l, vDct1_ap, vch_ap, chB_b, chE_t, chE_f, e]
theorem case_count_ok (outs h4 : D) (n : Nat) (cs : List Cell) (hl : cs.length ≤ 30) (hn : n ≤ 30) (hla : nlat cs ≤ 30) : F_case_count [.tuple [.int n, .tuple (cs.map cellD), outs, h4]] = .ok (.z, .int ((2 ^ (n + nlat cs) : Nat) : Int)) := by
  have e := bit_count_ok (.int n) outs h4 n rfl cs (by omega)
  have e2 : dShl (.int 1) (.int ((n : Int) + (nlat cs : Nat))) = some (.z, .int ((2 ^ (n + nlat cs) : Nat) : Int)) := by
    rw [show ((n : Int) + (nlat cs : Nat)) = ((n + nlat cs : Nat) : Int) by omega]
    exact shl_ok (by omega)
  generalize ((2 ^ (n + nlat cs) : Nat) : Int) = z at *
  generalize ((n : Int) + (nlat cs : Nat)) = t at *
  generalize cs.map cellD = w at *
  unfold F_case_count fb_case_count
  simp only [runD_ap, seq_eq, then_nx, then_rt, then_ex, then_ct, then_bk, sB_ok, sB_ex, bind_ok, bind_ex, of_some, gZ_z, gB_s, gBl_l, gBl_z, gF_s, gM_s, fC_ap, fN_ap, fZ_ap, vMv_ap, fV_ap, vF_ap, oF_f, oF_l, oB_f, oB_l, osN_f, osN_l, osC_f, osC_l, o2_ap, fB_ap, fsN_ap, fsC_ap, fLst_ap, fTup_ap, fMt_ap, mtS_l, mtE_l, bB_b, bV_ap, bBo_b, bF_ap, bO_ap, bNot_ap, bAnd_ap, bOr_ap, vIf_ap, vA_b, vO_b, vAnd_ap, vOr_ap, dNot_b, fNot_ap, dNg_i, fNeg_ap, fPN_ap, dPs_i, fPS_ap, vCut_ap, fIsi_ap, rOut_ok, rOut_ex, fCall_ap, fDct0_ap, dIterL_l, dIterL_t, iLT_ap, iR1_ap, iR2_ap, iEn_ap, iZp_ap, vLR1_ap, sNx_ap, sAsg_ap, sRet_ap, sExp_ap, sIf_ap, sFor_ap, oNx_s, sTgt_ap, fzE_s, sFz_ap, sRaise_ap, res_nx, res_rt, res_ex, st0, List.map_cons, List.map_nil, List.length_cons, List.length_nil, List.replicate_succ, List.replicate_zero, List.cons_append, List.nil_append, List.append_nil, List.getElem?_cons_zero, List.getElem?_cons_succ, List.set_cons_zero, List.set_cons_succ, Option.bind_some, Option.map_some, dTru, at_t0, at_t1, at_t2, at_t3, at_l0, at_l1, at_l2, at_l3, eq_int, ne_int, lt_int, gt_int, le_int, ge_int, add_int, sub_int, int_int, int_bool, len_l, len_t, len_scr, dListOf, dTupOf, decide_eq_true_eq, List.length_map, Nat.reduceAdd, Nat.reduceSub, Nat.reduceLeDiff, Nat.zero_add, if_true, if_false, ↓reduceIte, Bool.false_eq_true, Bool.not_true, Bool.not_false, fIn_ap, fGet_ap, inT_f, inT_t, gtT_s, key_i, isS_s, isS_n, map_none, sum_int, all_b, any_b, isi_int, isi_intb, isi_list, sTry_ap, tryE_ex, tryE_nx, tryE_rt, tryC_nx, tryC_rt, tryC_f, set_ap, setS_l, vDct1_ap, vch_ap, chB_b, chE_t, chE_f, e, e2]
theorem cb_comp (p : D) (c b : Nat) (hb : b ≤ 60) (e : F_bit_count [p] = .ok (.z, .int b)) : vComp [3] (iR1 (fsC (fV (fCall 1 F_bit_count (fsC (fN 0) fsN))) fsN)) (gN 3) bYes ce_case_bits_1 [some (.z, p), some (.z, .int c), none, none] = .ok (.l .z, L (cbits b c)) [some (.z, p), some (.z, .int c), none, none] := by
  have e0 : L (cbits b c) = .list ((List.range b).map fun k => .int ((c / 2 ^ k % 2 : Nat) : Int)) := by
    unfold L cbits
    rw [List.map_map]
    rfl
  rw [e0]
  refine comp_ok (ds := rangeL 0 b) ?_ (by rw [range_len]; omega) ?_ rfl
  · simp (disch := omega) only [runD_ap, seq_eq, then_nx, then_rt, then_ex, then_ct, then_bk, sB_ok, sB_ex, bind_ok, bind_ex, of_some, gZ_z, gB_s, gBl_l, gBl_z, gF_s, gM_s, fC_ap, fN_ap, fZ_ap, vMv_ap, fV_ap, vF_ap, oF_f, oF_l, oB_f, oB_l, osN_f, osN_l, osC_f, osC_l, o2_ap, fB_ap, fsN_ap, fsC_ap, fLst_ap, fTup_ap, fMt_ap, mtS_l, mtE_l, bB_b, bV_ap, bBo_b, bF_ap, bO_ap, bNot_ap, bAnd_ap, bOr_ap, vIf_ap, vA_b, vO_b, vAnd_ap, vOr_ap, dNot_b, fNot_ap, dNg_i, fNeg_ap, fPN_ap, dPs_i, fPS_ap, vCut_ap, fIsi_ap, rOut_ok, rOut_ex, fCall_ap, fDct0_ap, dIterL_l, dIterL_t, iLT_ap, iR1_ap, iR2_ap, iEn_ap, iZp_ap, vLR1_ap, sNx_ap, sAsg_ap, sRet_ap, sExp_ap, sIf_ap, sFor_ap, oNx_s, sTgt_ap, fzE_s, sFz_ap, sRaise_ap, res_nx, res_rt, res_ex, st0, List.map_cons, List.map_nil, List.length_cons, List.length_nil, List.replicate_succ, List.replicate_zero, List.cons_append, List.nil_append, List.append_nil, List.getElem?_cons_zero, List.getElem?_cons_succ, List.set_cons_zero, List.set_cons_succ, Option.bind_some, Option.map_some, dTru, at_t0, at_t1, at_t2, at_t3, at_l0, at_l1, at_l2, at_l3, eq_int, ne_int, lt_int, gt_int, le_int, ge_int, add_int, sub_int, int_int, int_bool, len_l, len_t, len_scr, dListOf, dTupOf, decide_eq_true_eq, List.length_map, Nat.reduceAdd, Nat.reduceSub, Nat.reduceLeDiff, Nat.zero_add, if_true, if_false, ↓reduceIte, Bool.false_eq_true, Bool.not_true, Bool.not_false, fIn_ap, fGet_ap, inT_f, inT_t, gtT_s, key_i, isS_s, isS_n, map_none, sum_int, all_b, any_b, isi_int, isi_intb, isi_list, sTry_ap, tryE_ex, tryE_nx, tryE_rt, tryC_nx, tryC_rt, tryC_f, set_ap, setS_l, vDct1_ap, vch_ap, chB_b, chE_t, chE_f, e, if_pos, Int.toNat_natCast]
  · refine comp_range _ b rfl (fun _ _ => rfl) fun k hk => ?_
    have e1 := shr_ok (c := c) (k := k)
    have e2 := and1_ok (x := c / 2 ^ k)
    generalize ((c / 2 ^ k % 2 : Nat) : Int) = z at *
    generalize ((c / 2 ^ k : Nat) : Int) = y at *
    unfold ce_case_bits_1
    simp only [runD_ap, seq_eq, then_nx, then_rt, then_ex, then_ct, then_bk, sB_ok, sB_ex, bind_ok, bind_ex, of_some, gZ_z, gB_s, gBl_l, gBl_z, gF_s, gM_s, fC_ap, fN_ap, fZ_ap, vMv_ap, fV_ap, vF_ap, oF_f, oF_l, oB_f, oB_l, osN_f, osN_l, osC_f, osC_l, o2_ap, fB_ap, fsN_ap, fsC_ap, fLst_ap, fTup_ap, fMt_ap, mtS_l, mtE_l, bB_b, bV_ap, bBo_b, bF_ap, bO_ap, bNot_ap, bAnd_ap, bOr_ap, vIf_ap, vA_b, vO_b, vAnd_ap, vOr_ap, dNot_b, fNot_ap, dNg_i, fNeg_ap, fPN_ap, dPs_i, fPS_ap, vCut_ap, fIsi_ap, rOut_ok, rOut_ex, fCall_ap, fDct0_ap, dIterL_l, dIterL_t, iLT_ap, iR1_ap, iR2_ap, iEn_ap, iZp_ap, vLR1_ap, sNx_ap, sAsg_ap, sRet_ap, sExp_ap, sIf_ap, sFor_ap, oNx_s, sTgt_ap, fzE_s, sFz_ap, sRaise_ap, res_nx, res_rt, res_ex, st0, List.map_cons, List.map_nil, List.length_cons, List.length_nil, List.replicate_succ, List.replicate_zero, List.cons_append, List.nil_append, List.append_nil, List.getElem?_cons_zero, List.getElem?_cons_succ, List.set_cons_zero, List.set_cons_succ, Option.bind_some, Option.map_some, dTru, at_t0, at_t1, at_t2, at_t3, at_l0, at_l1, at_l2, at_l3, eq_int, ne_int, lt_int, gt_int, le_int, ge_int, add_int, sub_int, int_int, int_bool, len_l, len_t, len_scr, dListOf, dTupOf, decide_eq_true_eq, List.length_map, Nat.reduceAdd, Nat.reduceSub, Nat.reduceLeDiff, Nat.zero_add, if_true, if_false, ↓reduceIte, Bool.false_eq_true, Bool.not_true, Bool.not_false, fIn_ap, fGet_ap, inT_f, inT_t, gtT_s, key_i, isS_s, isS_n, map_none, sum_int, all_b, any_b, isi_int, isi_intb, isi_list, sTry_ap, tryE_ex, tryE_nx, tryE_rt, tryC_nx, tryC_rt, tryC_f, set_ap, setS_l, vDct1_ap, vch_ap, chB_b, chE_t, chE_f, wipeG, e1, e2]
theorem case_bits_ev (n w outs h4 : D) (ni c b C : Nat) (ins st : List Int) (hn : n = .int ni) (e1 : F_case_count [.tuple [n, w, outs, h4]] = .ok (.z, .int C)) (hc : c < C) (bs : List Int) (hbs : bs.length = b) (hni : ni ≤ b)
    (e2 : vComp [3] (iR1 (fsC (fV (fCall 1 F_bit_count (fsC (fN 0) fsN))) fsN)) (gN 3) bYes ce_case_bits_1 [some (.z, .tuple [n, w, outs, h4]), some (.z, .int c), none, none] = .ok (.l .z, L bs) [some (.z, .tuple [n, w, outs, h4]), some (.z, .int c), none, none]) (e3 : (bs.map PyData.int).take ni = ins.map .int) (e4 : (bs.map PyData.int).drop ni = st.map .int) :
    F_case_bits [.tuple [n, w, outs, h4], .int c] = .ok (.z, .tuple [L ins, L st]) := by
  subst hn
  have h1 : decide ((0 : Int) ≤ (c : Int)) = true := decide_eq_true (by omega)
  have h2 : decide ((c : Int) < (C : Int)) = true := decide_eq_true (by omega)
  unfold F_case_bits fb_case_bits
  simp (disch := decide) only [runD_ap, seq_eq, then_nx, then_rt, then_ex, then_ct, then_bk, sB_ok, sB_ex, bind_ok, bind_ex, of_some, gZ_z, gB_s, gBl_l, gBl_z, gF_s, gM_s, fC_ap, fN_ap, fZ_ap, vMv_ap, fV_ap, vF_ap, oF_f, oF_l, oB_f, oB_l, osN_f, osN_l, osC_f, osC_l, o2_ap, fB_ap, fsN_ap, fsC_ap, fLst_ap, fTup_ap, fMt_ap, mtS_l, mtE_l, bB_b, bV_ap, bBo_b, bF_ap, bO_ap, bNot_ap, bAnd_ap, bOr_ap, vIf_ap, vA_b, vO_b, vAnd_ap, vOr_ap, dNot_b, fNot_ap, dNg_i, fNeg_ap, fPN_ap, dPs_i, fPS_ap, vCut_ap, fIsi_ap, rOut_ok, rOut_ex, fCall_ap, fDct0_ap, dIterL_l, dIterL_t, iLT_ap, iR1_ap, iR2_ap, iEn_ap, iZp_ap, vLR1_ap, sNx_ap, sAsg_ap, sRet_ap, sExp_ap, sIf_ap, sFor_ap, oNx_s, sTgt_ap, fzE_s, sFz_ap, sRaise_ap, res_nx, res_rt, res_ex, st0, List.map_cons, List.map_nil, List.length_cons, List.length_nil, List.replicate_succ, List.replicate_zero, List.cons_append, List.nil_append, List.append_nil, List.getElem?_cons_zero, List.getElem?_cons_succ, List.set_cons_zero, List.set_cons_succ, Option.bind_some, Option.map_some, dTru, at_t0, at_t1, at_t2, at_t3, at_l0, at_l1, at_l2, at_l3, eq_int, ne_int, lt_int, gt_int, le_int, ge_int, add_int, sub_int, int_int, int_bool, len_l, len_t, len_scr, dListOf, dTupOf, decide_eq_true_eq, List.length_map, Nat.reduceAdd, Nat.reduceSub, Nat.reduceLeDiff, Nat.zero_add, if_true, if_false, ↓reduceIte, Bool.false_eq_true, Bool.not_true, Bool.not_false, fIn_ap, fGet_ap, inT_f, inT_t, gtT_s, key_i, isS_s, isS_n, map_none, sum_int, all_b, any_b, isi_int, isi_intb, isi_list, sTry_ap, tryE_ex, tryE_nx, tryE_rt, tryC_nx, tryC_rt, tryC_f, set_ap, setS_l, vDct1_ap, vch_ap, chB_b, chE_t, chE_f, e1, e2, h1, h2, cut_l, cut_to, cut_from, e3, e4, if_pos]
end K09
namespace K09
open PySem PV
def nsrc (cs : List Cell) : List Int := (lats cs).map fun c => c.2.1.headD 0
def sD (d : D) : D := match d with | .tuple [_, .tuple (.int s :: _), _] => .int s | _ => .none
theorem nsrc_eq (tot : Nat) (cs : List Cell) (i : Nat) (h : CellsOk i tot cs) : ((lats cs).map cellD).map sD = (nsrc cs).map .int := by
  unfold nsrc
  rw [List.map_map, List.map_map]
  refine List.map_congr_left fun c hc => ?_
  obtain ⟨hm, hq⟩ := List.mem_filter.mp hc
  obtain ⟨s, e, _⟩ := cells_latch h c hm (of_decide_eq_true hq)
  obtain ⟨k, sr, nt⟩ := c
  dsimp only at e
  subst e
  rfl
theorem an_comp1 (n outs h4 : D) (cs : List Cell) (tot i : Nat) (h : CellsOk i tot cs) (hl : cs.length ≤ 1000) (a b c d e f : Option Va) :
    vComp [8] (iLT (fV (fCall 1 F_latch_cells (fsC (fN 0) fsN)))) (gN 8) bYes ce_answers_1 [some (.z, .tuple [n, .tuple (cs.map cellD), outs, h4]), a, b, c, d, e, f, none, none] = .ok (.l .z, L (nsrc cs)) [some (.z, .tuple [n, .tuple (cs.map cellD), outs, h4]), a, b, c, d, e, f, none, none] := by
  have e0 := latch_cells_ok n outs h4 cs hl
  have e1 := nsrc_eq tot cs i h
  unfold L
  rw [← e1]
  have hlen : ((lats cs).map cellD).length ≤ 16777216 := by
    rw [List.length_map]
    have := List.length_filter_le (fun c : Cell => decide (c.1 = S "latch")) cs
    show (cs.filter fun c => decide (c.1 = S "latch")).length ≤ _
    omega
  refine comp_ok (ds := (lats cs).map cellD) ?_ hlen ?_ rfl
  · generalize (lats cs).map cellD = y at *
    generalize cs.map cellD = w at *
    simp only [runD_ap, seq_eq, then_nx, then_rt, then_ex, then_ct, then_bk, sB_ok, sB_ex, bind_ok, bind_ex, of_some, gZ_z, gB_s, gBl_l, gBl_z, gF_s, gM_s, fC_ap, fN_ap, fZ_ap, vMv_ap, fV_ap, vF_ap, oF_f, oF_l, oB_f, oB_l, osN_f, osN_l, osC_f, osC_l, o2_ap, fB_ap, fsN_ap, fsC_ap, fLst_ap, fTup_ap, fMt_ap, mtS_l, mtE_l, bB_b, bV_ap, bBo_b, bF_ap, bO_ap, bNot_ap, bAnd_ap, bOr_ap, vIf_ap, vA_b, vO_b, vAnd_ap, vOr_ap, dNot_b, fNot_ap, dNg_i, fNeg_ap, fPN_ap, dPs_i, fPS_ap, vCut_ap, fIsi_ap, rOut_ok, rOut_ex, fCall_ap, fDct0_ap, dIterL_l, dIterL_t, iLT_ap, iR1_ap, iR2_ap, iEn_ap, iZp_ap, vLR1_ap, sNx_ap, sAsg_ap, sRet_ap, sExp_ap, sIf_ap, sFor_ap, oNx_s, sTgt_ap, fzE_s, sFz_ap, sRaise_ap, res_nx, res_rt, res_ex, st0, List.map_cons, List.map_nil, List.length_cons, List.length_nil, List.replicate_succ, List.replicate_zero, List.cons_append, List.nil_append, List.append_nil, List.getElem?_cons_zero, List.getElem?_cons_succ, List.set_cons_zero, List.set_cons_succ, Option.bind_some, Option.map_some, dTru, at_t0, at_t1, at_t2, at_t3, at_l0, at_l1, at_l2, at_l3, eq_int, ne_int, lt_int, gt_int, le_int, ge_int, add_int, sub_int, int_int, int_bool, len_l, len_t, len_scr, dListOf, dTupOf, decide_eq_true_eq, List.length_map, Nat.reduceAdd, Nat.reduceSub, Nat.reduceLeDiff, Nat.zero_add, if_true, if_false, ↓reduceIte, Bool.false_eq_true, Bool.not_true, Bool.not_false, fIn_ap, fGet_ap, inT_f, inT_t, gtT_s, key_i, isS_s, isS_n, map_none, sum_int, all_b, any_b, isi_int, isi_intb, isi_list, sTry_ap, tryE_ex, tryE_nx, tryE_rt, tryC_nx, tryC_rt, tryC_f, set_ap, setS_l, vDct1_ap, vch_ap, chB_b, chE_t, chE_f, gT_t, gsC_c, gsN_n, gN_ap, e0]
  · have := comp_gen (is := [8]) (t := gN 8) (c := bYes) (fe := ce_answers_1) (Γ := [some (.z, .tuple [n, .tuple (cs.map cellD), outs, h4]), a, b, c, d, e, f, none, none]) sD (fun _ => true) ((lats cs).map cellD) (fun dd hd => by
        obtain ⟨c0, hc, rfl⟩ := List.mem_map.mp hd
        obtain ⟨hm, hq⟩ := List.mem_filter.mp hc
        obtain ⟨s, es, hs⟩ := cells_latch h c0 hm (of_decide_eq_true hq)
        obtain ⟨k, sr, nt⟩ := c0
        dsimp only at es
        subst es
        generalize cs.map cellD = w
        refine ⟨_, rfl, rfl, fun _ => ?_, rfl⟩
        unfold ce_answers_1
        show fV _ [some (.z, .tuple [n, .tuple w, outs, h4]), a, b, c, d, e, f, none, some (.z, .tuple [.str k, .tuple [.int s], .int nt])] = .ok (.int s) [some (.z, .tuple [n, .tuple w, outs, h4]), a, b, c, d, e, f, none, some (.z, .tuple [.str k, .tuple [.int s], .int nt])]
        simp only [runD_ap, seq_eq, then_nx, then_rt, then_ex, then_ct, then_bk, sB_ok, sB_ex, bind_ok, bind_ex, of_some, gZ_z, gB_s, gBl_l, gBl_z, gF_s, gM_s, fC_ap, fN_ap, fZ_ap, vMv_ap, fV_ap, vF_ap, oF_f, oF_l, oB_f, oB_l, osN_f, osN_l, osC_f, osC_l, o2_ap, fB_ap, fsN_ap, fsC_ap, fLst_ap, fTup_ap, fMt_ap, mtS_l, mtE_l, bB_b, bV_ap, bBo_b, bF_ap, bO_ap, bNot_ap, bAnd_ap, bOr_ap, vIf_ap, vA_b, vO_b, vAnd_ap, vOr_ap, dNot_b, fNot_ap, dNg_i, fNeg_ap, fPN_ap, dPs_i, fPS_ap, vCut_ap, fIsi_ap, rOut_ok, rOut_ex, fCall_ap, fDct0_ap, dIterL_l, dIterL_t, iLT_ap, iR1_ap, iR2_ap, iEn_ap, iZp_ap, vLR1_ap, sNx_ap, sAsg_ap, sRet_ap, sExp_ap, sIf_ap, sFor_ap, oNx_s, sTgt_ap, fzE_s, sFz_ap, sRaise_ap, res_nx, res_rt, res_ex, st0, List.map_cons, List.map_nil, List.length_cons, List.length_nil, List.replicate_succ, List.replicate_zero, List.cons_append, List.nil_append, List.append_nil, List.getElem?_cons_zero, List.getElem?_cons_succ, List.set_cons_zero, List.set_cons_succ, Option.bind_some, Option.map_some, dTru, at_t0, at_t1, at_t2, at_t3, at_l0, at_l1, at_l2, at_l3, eq_int, ne_int, lt_int, gt_int, le_int, ge_int, add_int, sub_int, int_int, int_bool, len_l, len_t, len_scr, dListOf, dTupOf, decide_eq_true_eq, List.length_map, Nat.reduceAdd, Nat.reduceSub, Nat.reduceLeDiff, Nat.zero_add, if_true, if_false, ↓reduceIte, Bool.false_eq_true, Bool.not_true, Bool.not_false, fIn_ap, fGet_ap, inT_f, inT_t, gtT_s, key_i, isS_s, isS_n, map_none, sum_int, all_b, any_b, isi_int, isi_intb, isi_list, sTry_ap, tryE_ex, tryE_nx, tryE_rt, tryC_nx, tryC_rt, tryC_f, set_ap, setS_l, vDct1_ap, vch_ap, chB_b, chE_t, chE_f, gT_t, gsC_c, gsN_n, gN_ap])
    rw [List.filter_eq_self.mpr fun _ _ => rfl] at this
    exact this
theorem an_comp2 (a b c d e g : Option Va) (V ends : List Int) (h : ∀ x ∈ ends, 0 ≤ x ∧ x < V.length) (hl : ends.length ≤ 1000) :
    vComp [7] (iLT (fN 6)) (gN 7) bYes ce_answers_2 [a, b, c, d, e, some (.z, L V), some (.z, L ends), none, g] = .ok (.l .z, L (look V ends)) [a, b, c, d, e, some (.z, L V), some (.z, L ends), none, g] := by
  have e0 : L (look V ends) = .list (ends.map fun x => .int (V.getD x.toNat 0)) := by
    unfold L look
    rw [List.map_map]
    rfl
  rw [e0]
  refine comp_ok (ds := ends.map .int) ?_ (by rw [List.length_map]; omega) ?_ rfl
  · simp only [runD_ap, seq_eq, then_nx, then_rt, then_ex, then_ct, then_bk, sB_ok, sB_ex, bind_ok, bind_ex, of_some, gZ_z, gB_s, gBl_l, gBl_z, gF_s, gM_s, fC_ap, fN_ap, fZ_ap, vMv_ap, fV_ap, vF_ap, oF_f, oF_l, oB_f, oB_l, osN_f, osN_l, osC_f, osC_l, o2_ap, fB_ap, fsN_ap, fsC_ap, fLst_ap, fTup_ap, fMt_ap, mtS_l, mtE_l, bB_b, bV_ap, bBo_b, bF_ap, bO_ap, bNot_ap, bAnd_ap, bOr_ap, vIf_ap, vA_b, vO_b, vAnd_ap, vOr_ap, dNot_b, fNot_ap, dNg_i, fNeg_ap, fPN_ap, dPs_i, fPS_ap, vCut_ap, fIsi_ap, rOut_ok, rOut_ex, fCall_ap, fDct0_ap, dIterL_l, dIterL_t, iLT_ap, iR1_ap, iR2_ap, iEn_ap, iZp_ap, vLR1_ap, sNx_ap, sAsg_ap, sRet_ap, sExp_ap, sIf_ap, sFor_ap, oNx_s, sTgt_ap, fzE_s, sFz_ap, sRaise_ap, res_nx, res_rt, res_ex, st0, List.map_cons, List.map_nil, List.length_cons, List.length_nil, List.replicate_succ, List.replicate_zero, List.cons_append, List.nil_append, List.append_nil, List.getElem?_cons_zero, List.getElem?_cons_succ, List.set_cons_zero, List.set_cons_succ, Option.bind_some, Option.map_some, dTru, at_t0, at_t1, at_t2, at_t3, at_l0, at_l1, at_l2, at_l3, eq_int, ne_int, lt_int, gt_int, le_int, ge_int, add_int, sub_int, int_int, int_bool, len_l, len_t, len_scr, dListOf, dTupOf, decide_eq_true_eq, List.length_map, Nat.reduceAdd, Nat.reduceSub, Nat.reduceLeDiff, Nat.zero_add, if_true, if_false, ↓reduceIte, Bool.false_eq_true, Bool.not_true, Bool.not_false, fIn_ap, fGet_ap, inT_f, inT_t, gtT_s, key_i, isS_s, isS_n, map_none, sum_int, all_b, any_b, isi_int, isi_intb, isi_list, sTry_ap, tryE_ex, tryE_nx, tryE_rt, tryC_nx, tryC_rt, tryC_f, set_ap, setS_l, vDct1_ap, vch_ap, chB_b, chE_t, chE_f, gT_t, gsC_c, gsN_n, gN_ap]
  · refine comp_ints (fun x => .int (V.getD x.toNat 0)) ends rfl (fun _ _ => rfl) fun x hx => ?_
    have := getD_at (h x hx)
    unfold ce_answers_2
    simp only [runD_ap, seq_eq, then_nx, then_rt, then_ex, then_ct, then_bk, sB_ok, sB_ex, bind_ok, bind_ex, of_some, gZ_z, gB_s, gBl_l, gBl_z, gF_s, gM_s, fC_ap, fN_ap, fZ_ap, vMv_ap, fV_ap, vF_ap, oF_f, oF_l, oB_f, oB_l, osN_f, osN_l, osC_f, osC_l, o2_ap, fB_ap, fsN_ap, fsC_ap, fLst_ap, fTup_ap, fMt_ap, mtS_l, mtE_l, bB_b, bV_ap, bBo_b, bF_ap, bO_ap, bNot_ap, bAnd_ap, bOr_ap, vIf_ap, vA_b, vO_b, vAnd_ap, vOr_ap, dNot_b, fNot_ap, dNg_i, fNeg_ap, fPN_ap, dPs_i, fPS_ap, vCut_ap, fIsi_ap, rOut_ok, rOut_ex, fCall_ap, fDct0_ap, dIterL_l, dIterL_t, iLT_ap, iR1_ap, iR2_ap, iEn_ap, iZp_ap, vLR1_ap, sNx_ap, sAsg_ap, sRet_ap, sExp_ap, sIf_ap, sFor_ap, oNx_s, sTgt_ap, fzE_s, sFz_ap, sRaise_ap, res_nx, res_rt, res_ex, st0, List.map_cons, List.map_nil, List.length_cons, List.length_nil, List.replicate_succ, List.replicate_zero, List.cons_append, List.nil_append, List.append_nil, List.getElem?_cons_zero, List.getElem?_cons_succ, List.set_cons_zero, List.set_cons_succ, Option.bind_some, Option.map_some, dTru, at_t0, at_t1, at_t2, at_t3, at_l0, at_l1, at_l2, at_l3, eq_int, ne_int, lt_int, gt_int, le_int, ge_int, add_int, sub_int, int_int, int_bool, len_l, len_t, len_scr, dListOf, dTupOf, decide_eq_true_eq, List.length_map, Nat.reduceAdd, Nat.reduceSub, Nat.reduceLeDiff, Nat.zero_add, if_true, if_false, ↓reduceIte, Bool.false_eq_true, Bool.not_true, Bool.not_false, fIn_ap, fGet_ap, inT_f, inT_t, gtT_s, key_i, isS_s, isS_n, map_none, sum_int, all_b, any_b, isi_int, isi_intb, isi_list, sTry_ap, tryE_ex, tryE_nx, tryE_rt, tryC_nx, tryC_rt, tryC_f, set_ap, setS_l, vDct1_ap, vch_ap, chB_b, chE_t, chE_f, gT_t, gsC_c, gsN_n, gN_ap, wipeG, this]
theorem answers_ev (n w h4 stuck : D) (c : Int) (outs src V ins st : List Int) (ho : outs.length + src.length ≤ 1000) (hb : ∀ x ∈ outs ++ src, 0 ≤ x ∧ x < V.length)
    (e1 : F_case_bits [.tuple [n, w, T outs, h4], .int c] = .ok (.z, .tuple [L ins, L st])) (e2 : F_settled_values [.tuple [n, w, T outs, h4], L ins, L st, stuck] = .ok (.l .z, L V))
    (e3 : ∀ a b c d e f, vComp [8] (iLT (fV (fCall 1 F_latch_cells (fsC (fN 0) fsN)))) (gN 8) bYes ce_answers_1 [some (.z, .tuple [n, w, T outs, h4]), a, b, c, d, e, f, none, none] = .ok (.l .z, L src) [some (.z, .tuple [n, w, T outs, h4]), a, b, c, d, e, f, none, none]) :
    F_answers [.tuple [n, w, T outs, h4], .int c, stuck] = .ok (.l .z, L (look V (outs ++ src))) := by
  have e4 := fun a b c d e g => an_comp2 a b c d e g V (outs ++ src) hb (by rw [List.length_append]; exact ho)
  have e5 : dAdd (.list (outs.map .int)) (.list (src.map .int)) = some (.l .z, .list ((outs ++ src).map .int)) := by
    rw [cat_l (by rw [List.length_map, List.length_map]; omega), List.map_append]
  generalize look V (outs ++ src) = z at *
  generalize outs ++ src = ends at *
  unfold F_answers fb_answers
  simp only [runD_ap, seq_eq, then_nx, then_rt, then_ex, then_ct, then_bk, sB_ok, sB_ex, bind_ok, bind_ex, of_some, gZ_z, gB_s, gBl_l, gBl_z, gF_s, gM_s, fC_ap, fN_ap, fZ_ap, vMv_ap, fV_ap, vF_ap, oF_f, oF_l, oB_f, oB_l, osN_f, osN_l, osC_f, osC_l, o2_ap, fB_ap, fsN_ap, fsC_ap, fLst_ap, fTup_ap, fMt_ap, mtS_l, mtE_l, bB_b, bV_ap, bBo_b, bF_ap, bO_ap, bNot_ap, bAnd_ap, bOr_ap, vIf_ap, vA_b, vO_b, vAnd_ap, vOr_ap, dNot_b, fNot_ap, dNg_i, fNeg_ap, fPN_ap, dPs_i, fPS_ap, vCut_ap, fIsi_ap, rOut_ok, rOut_ex, fCall_ap, fDct0_ap, dIterL_l, dIterL_t, iLT_ap, iR1_ap, iR2_ap, iEn_ap, iZp_ap, vLR1_ap, sNx_ap, sAsg_ap, sRet_ap, sExp_ap, sIf_ap, sFor_ap, oNx_s, sTgt_ap, fzE_s, sFz_ap, sRaise_ap, res_nx, res_rt, res_ex, st0, List.map_cons, List.map_nil, List.length_cons, List.length_nil, List.replicate_succ, List.replicate_zero, List.cons_append, List.nil_append, List.append_nil, List.getElem?_cons_zero, List.getElem?_cons_succ, List.set_cons_zero, List.set_cons_succ, Option.bind_some, Option.map_some, dTru, at_t0, at_t1, at_t2, at_t3, at_l0, at_l1, at_l2, at_l3, eq_int, ne_int, lt_int, gt_int, le_int, ge_int, add_int, sub_int, int_int, int_bool, len_l, len_t, len_scr, dListOf, dTupOf, decide_eq_true_eq, List.length_map, Nat.reduceAdd, Nat.reduceSub, Nat.reduceLeDiff, Nat.zero_add, if_true, if_false, ↓reduceIte, Bool.false_eq_true, Bool.not_true, Bool.not_false, fIn_ap, fGet_ap, inT_f, inT_t, gtT_s, key_i, isS_s, isS_n, map_none, sum_int, all_b, any_b, isi_int, isi_intb, isi_list, sTry_ap, tryE_ex, tryE_nx, tryE_rt, tryC_nx, tryC_rt, tryC_f, set_ap, setS_l, vDct1_ap, vch_ap, chB_b, chE_t, chE_f, gT_t, gsC_c, gsN_n, gN_ap, e1, e2, e3, e4, e5]
abbrev noSuch : Exc := ⟨S "NoSuchThing", []⟩
theorem check_flaw_ev (n : Int) (ws : List D) (outs h4 : D) (a v : Int) : F_check_flaw [.tuple [.int n, .tuple ws, outs, h4], .tuple [.int a, .int v]] = if (0 ≤ a ∧ a < n + ws.length) ∧ (v = 0 ∨ v = 1) then .ok (.z, .none) else .ex noSuch := by
  unfold F_check_flaw fb_check_flaw
  by_cases h0 : 0 ≤ a
  · by_cases h1 : a < n + ws.length
    · by_cases h2 : v = 0
      · rw [if_pos ⟨⟨h0, h1⟩, .inl h2⟩]
        simp (disch := decide) only [runD_ap, seq_eq, then_nx, then_rt, then_ex, then_ct, then_bk, sB_ok, sB_ex, bind_ok, bind_ex, of_some, gZ_z, gB_s, gBl_l, gBl_z, gF_s, gM_s, fC_ap, fN_ap, fZ_ap, vMv_ap, fV_ap, vF_ap, oF_f, oF_l, oB_f, oB_l, osN_f, osN_l, osC_f, osC_l, o2_ap, fB_ap, fsN_ap, fsC_ap, fLst_ap, fTup_ap, fMt_ap, mtS_l, mtE_l, bB_b, bV_ap, bBo_b, bF_ap, bO_ap, bNot_ap, bAnd_ap, bOr_ap, vIf_ap, vA_b, vO_b, vAnd_ap, vOr_ap, dNot_b, fNot_ap, dNg_i, fNeg_ap, fPN_ap, dPs_i, fPS_ap, vCut_ap, fIsi_ap, rOut_ok, rOut_ex, fCall_ap, fDct0_ap, dIterL_l, dIterL_t, iLT_ap, iR1_ap, iR2_ap, iEn_ap, iZp_ap, vLR1_ap, sNx_ap, sAsg_ap, sRet_ap, sExp_ap, sIf_ap, sFor_ap, oNx_s, sTgt_ap, fzE_s, sFz_ap, sRaise_ap, res_nx, res_rt, res_ex, st0, List.map_cons, List.map_nil, List.length_cons, List.length_nil, List.replicate_succ, List.replicate_zero, List.cons_append, List.nil_append, List.append_nil, List.getElem?_cons_zero, List.getElem?_cons_succ, List.set_cons_zero, List.set_cons_succ, Option.bind_some, Option.map_some, dTru, at_t0, at_t1, at_t2, at_t3, at_l0, at_l1, at_l2, at_l3, eq_int, ne_int, lt_int, gt_int, le_int, ge_int, add_int, sub_int, int_int, int_bool, len_l, len_t, len_scr, dListOf, dTupOf, decide_eq_true_eq, List.length_map, Nat.reduceAdd, Nat.reduceSub, Nat.reduceLeDiff, Nat.zero_add, if_true, if_false, ↓reduceIte, Bool.false_eq_true, Bool.not_true, Bool.not_false, fIn_ap, fGet_ap, inT_f, inT_t, gtT_s, key_i, isS_s, isS_n, map_none, sum_int, all_b, any_b, isi_int, isi_intb, isi_list, sTry_ap, tryE_ex, tryE_nx, tryE_rt, tryC_nx, tryC_rt, tryC_f, set_ap, setS_l, vDct1_ap, vch_ap, chB_b, chE_t, chE_f, gT_t, gsC_c, gsN_n, gN_ap, decide_eq_true h0, decide_eq_true h1, nin01, decide_eq_true h2, Bool.true_or, if_pos]
      · by_cases h3 : v = 1
        · rw [if_pos ⟨⟨h0, h1⟩, .inr h3⟩]
          simp (disch := decide) only [runD_ap, seq_eq, then_nx, then_rt, then_ex, then_ct, then_bk, sB_ok, sB_ex, bind_ok, bind_ex, of_some, gZ_z, gB_s, gBl_l, gBl_z, gF_s, gM_s, fC_ap, fN_ap, fZ_ap, vMv_ap, fV_ap, vF_ap, oF_f, oF_l, oB_f, oB_l, osN_f, osN_l, osC_f, osC_l, o2_ap, fB_ap, fsN_ap, fsC_ap, fLst_ap, fTup_ap, fMt_ap, mtS_l, mtE_l, bB_b, bV_ap, bBo_b, bF_ap, bO_ap, bNot_ap, bAnd_ap, bOr_ap, vIf_ap, vA_b, vO_b, vAnd_ap, vOr_ap, dNot_b, fNot_ap, dNg_i, fNeg_ap, fPN_ap, dPs_i, fPS_ap, vCut_ap, fIsi_ap, rOut_ok, rOut_ex, fCall_ap, fDct0_ap, dIterL_l, dIterL_t, iLT_ap, iR1_ap, iR2_ap, iEn_ap, iZp_ap, vLR1_ap, sNx_ap, sAsg_ap, sRet_ap, sExp_ap, sIf_ap, sFor_ap, oNx_s, sTgt_ap, fzE_s, sFz_ap, sRaise_ap, res_nx, res_rt, res_ex, st0, List.map_cons, List.map_nil, List.length_cons, List.length_nil, List.replicate_succ, List.replicate_zero, List.cons_append, List.nil_append, List.append_nil, List.getElem?_cons_zero, List.getElem?_cons_succ, List.set_cons_zero, List.set_cons_succ, Option.bind_some, Option.map_some, dTru, at_t0, at_t1, at_t2, at_t3, at_l0, at_l1, at_l2, at_l3, eq_int, ne_int, lt_int, gt_int, le_int, ge_int, add_int, sub_int, int_int, int_bool, len_l, len_t, len_scr, dListOf, dTupOf, decide_eq_true_eq, List.length_map, Nat.reduceAdd, Nat.reduceSub, Nat.reduceLeDiff, Nat.zero_add, if_true, if_false, ↓reduceIte, Bool.false_eq_true, Bool.not_true, Bool.not_false, fIn_ap, fGet_ap, inT_f, inT_t, gtT_s, key_i, isS_s, isS_n, map_none, sum_int, all_b, any_b, isi_int, isi_intb, isi_list, sTry_ap, tryE_ex, tryE_nx, tryE_rt, tryC_nx, tryC_rt, tryC_f, set_ap, setS_l, vDct1_ap, vch_ap, chB_b, chE_t, chE_f, gT_t, gsC_c, gsN_n, gN_ap, decide_eq_true h0, decide_eq_true h1, nin01, decide_eq_true h3, Bool.or_true, if_pos]
        · rw [if_neg fun z => z.2.elim h2 h3]
          simp (disch := decide) only [runD_ap, seq_eq, then_nx, then_rt, then_ex, then_ct, then_bk, sB_ok, sB_ex, bind_ok, bind_ex, of_some, gZ_z, gB_s, gBl_l, gBl_z, gF_s, gM_s, fC_ap, fN_ap, fZ_ap, vMv_ap, fV_ap, vF_ap, oF_f, oF_l, oB_f, oB_l, osN_f, osN_l, osC_f, osC_l, o2_ap, fB_ap, fsN_ap, fsC_ap, fLst_ap, fTup_ap, fMt_ap, mtS_l, mtE_l, bB_b, bV_ap, bBo_b, bF_ap, bO_ap, bNot_ap, bAnd_ap, bOr_ap, vIf_ap, vA_b, vO_b, vAnd_ap, vOr_ap, dNot_b, fNot_ap, dNg_i, fNeg_ap, fPN_ap, dPs_i, fPS_ap, vCut_ap, fIsi_ap, rOut_ok, rOut_ex, fCall_ap, fDct0_ap, dIterL_l, dIterL_t, iLT_ap, iR1_ap, iR2_ap, iEn_ap, iZp_ap, vLR1_ap, sNx_ap, sAsg_ap, sRet_ap, sExp_ap, sIf_ap, sFor_ap, oNx_s, sTgt_ap, fzE_s, sFz_ap, sRaise_ap, res_nx, res_rt, res_ex, st0, List.map_cons, List.map_nil, List.length_cons, List.length_nil, List.replicate_succ, List.replicate_zero, List.cons_append, List.nil_append, List.append_nil, List.getElem?_cons_zero, List.getElem?_cons_succ, List.set_cons_zero, List.set_cons_succ, Option.bind_some, Option.map_some, dTru, at_t0, at_t1, at_t2, at_t3, at_l0, at_l1, at_l2, at_l3, eq_int, ne_int, lt_int, gt_int, le_int, ge_int, add_int, sub_int, int_int, int_bool, len_l, len_t, len_scr, dListOf, dTupOf, decide_eq_true_eq, List.length_map, Nat.reduceAdd, Nat.reduceSub, Nat.reduceLeDiff, Nat.zero_add, if_true, if_false, ↓reduceIte, Bool.false_eq_true, Bool.not_true, Bool.not_false, fIn_ap, fGet_ap, inT_f, inT_t, gtT_s, key_i, isS_s, isS_n, map_none, sum_int, all_b, any_b, isi_int, isi_intb, isi_list, sTry_ap, tryE_ex, tryE_nx, tryE_rt, tryC_nx, tryC_rt, tryC_f, set_ap, setS_l, vDct1_ap, vch_ap, chB_b, chE_t, chE_f, gT_t, gsC_c, gsN_n, gN_ap, decide_eq_true h0, decide_eq_true h1, nin01, decide_eq_false h2, decide_eq_false h3, Bool.or_false, if_pos]
    · rw [if_neg fun z => h1 z.1.2]
      simp (disch := decide) only [runD_ap, seq_eq, then_nx, then_rt, then_ex, then_ct, then_bk, sB_ok, sB_ex, bind_ok, bind_ex, of_some, gZ_z, gB_s, gBl_l, gBl_z, gF_s, gM_s, fC_ap, fN_ap, fZ_ap, vMv_ap, fV_ap, vF_ap, oF_f, oF_l, oB_f, oB_l, osN_f, osN_l, osC_f, osC_l, o2_ap, fB_ap, fsN_ap, fsC_ap, fLst_ap, fTup_ap, fMt_ap, mtS_l, mtE_l, bB_b, bV_ap, bBo_b, bF_ap, bO_ap, bNot_ap, bAnd_ap, bOr_ap, vIf_ap, vA_b, vO_b, vAnd_ap, vOr_ap, dNot_b, fNot_ap, dNg_i, fNeg_ap, fPN_ap, dPs_i, fPS_ap, vCut_ap, fIsi_ap, rOut_ok, rOut_ex, fCall_ap, fDct0_ap, dIterL_l, dIterL_t, iLT_ap, iR1_ap, iR2_ap, iEn_ap, iZp_ap, vLR1_ap, sNx_ap, sAsg_ap, sRet_ap, sExp_ap, sIf_ap, sFor_ap, oNx_s, sTgt_ap, fzE_s, sFz_ap, sRaise_ap, res_nx, res_rt, res_ex, st0, List.map_cons, List.map_nil, List.length_cons, List.length_nil, List.replicate_succ, List.replicate_zero, List.cons_append, List.nil_append, List.append_nil, List.getElem?_cons_zero, List.getElem?_cons_succ, List.set_cons_zero, List.set_cons_succ, Option.bind_some, Option.map_some, dTru, at_t0, at_t1, at_t2, at_t3, at_l0, at_l1, at_l2, at_l3, eq_int, ne_int, lt_int, gt_int, le_int, ge_int, add_int, sub_int, int_int, int_bool, len_l, len_t, len_scr, dListOf, dTupOf, decide_eq_true_eq, List.length_map, Nat.reduceAdd, Nat.reduceSub, Nat.reduceLeDiff, Nat.zero_add, if_true, if_false, ↓reduceIte, Bool.false_eq_true, Bool.not_true, Bool.not_false, fIn_ap, fGet_ap, inT_f, inT_t, gtT_s, key_i, isS_s, isS_n, map_none, sum_int, all_b, any_b, isi_int, isi_intb, isi_list, sTry_ap, tryE_ex, tryE_nx, tryE_rt, tryC_nx, tryC_rt, tryC_f, set_ap, setS_l, vDct1_ap, vch_ap, chB_b, chE_t, chE_f, gT_t, gsC_c, gsN_n, gN_ap, decide_eq_true h0, decide_eq_false h1, if_pos]
  · rw [if_neg fun z => h0 z.1.1]
    simp (disch := decide) only [runD_ap, seq_eq, then_nx, then_rt, then_ex, then_ct, then_bk, sB_ok, sB_ex, bind_ok, bind_ex, of_some, gZ_z, gB_s, gBl_l, gBl_z, gF_s, gM_s, fC_ap, fN_ap, fZ_ap, vMv_ap, fV_ap, vF_ap, oF_f, oF_l, oB_f, oB_l, osN_f, osN_l, osC_f, osC_l, o2_ap, fB_ap, fsN_ap, fsC_ap, fLst_ap, fTup_ap, fMt_ap, mtS_l, mtE_l, bB_b, bV_ap, bBo_b, bF_ap, bO_ap, bNot_ap, bAnd_ap, bOr_ap, vIf_ap, vA_b, vO_b, vAnd_ap, vOr_ap, dNot_b, fNot_ap, dNg_i, fNeg_ap, fPN_ap, dPs_i, fPS_ap, vCut_ap, fIsi_ap, rOut_ok, rOut_ex, fCall_ap, fDct0_ap, dIterL_l, dIterL_t, iLT_ap, iR1_ap, iR2_ap, iEn_ap, iZp_ap, vLR1_ap, sNx_ap, sAsg_ap, sRet_ap, sExp_ap, sIf_ap, sFor_ap, oNx_s, sTgt_ap, fzE_s, sFz_ap, sRaise_ap, res_nx, res_rt, res_ex, st0, List.map_cons, List.map_nil, List.length_cons, List.length_nil, List.replicate_succ, List.replicate_zero, List.cons_append, List.nil_append, List.append_nil, List.getElem?_cons_zero, List.getElem?_cons_succ, List.set_cons_zero, List.set_cons_succ, Option.bind_some, Option.map_some, dTru, at_t0, at_t1, at_t2, at_t3, at_l0, at_l1, at_l2, at_l3, eq_int, ne_int, lt_int, gt_int, le_int, ge_int, add_int, sub_int, int_int, int_bool, len_l, len_t, len_scr, dListOf, dTupOf, decide_eq_true_eq, List.length_map, Nat.reduceAdd, Nat.reduceSub, Nat.reduceLeDiff, Nat.zero_add, if_true, if_false, ↓reduceIte, Bool.false_eq_true, Bool.not_true, Bool.not_false, fIn_ap, fGet_ap, inT_f, inT_t, gtT_s, key_i, isS_s, isS_n, map_none, sum_int, all_b, any_b, isi_int, isi_intb, isi_list, sTry_ap, tryE_ex, tryE_nx, tryE_rt, tryC_nx, tryC_rt, tryC_f, set_ap, setS_l, vDct1_ap, vch_ap, chB_b, chE_t, chE_f, gT_t, gsC_c, gsN_n, gN_ap, decide_eq_false h0, if_pos]
theorem shows_ev (p : D) (a v : Int) (c : Int) (x y : List Int) (e0 : F_check_flaw [p, .tuple [.int a, .int v]] = .ok (.z, .none)) (e1 : F_answers [p, .int c, .dict [(.int a, .int v)]] = .ok (.l .z, L x)) (e2 : F_answers [p, .int c, .dict []] = .ok (.l .z, L y)) :
    F_shows [p, .tuple [.int a, .int v], .int c] = .ok (.z, .bool !(decide (x = y))) := by
  unfold F_shows fb_shows
  simp only [runD_ap, seq_eq, then_nx, then_rt, then_ex, then_ct, then_bk, sB_ok, sB_ex, bind_ok, bind_ex, of_some, gZ_z, gB_s, gBl_l, gBl_z, gF_s, gM_s, fC_ap, fN_ap, fZ_ap, vMv_ap, fV_ap, vF_ap, oF_f, oF_l, oB_f, oB_l, osN_f, osN_l, osC_f, osC_l, o2_ap, fB_ap, fsN_ap, fsC_ap, fLst_ap, fTup_ap, fMt_ap, mtS_l, mtE_l, bB_b, bV_ap, bBo_b, bF_ap, bO_ap, bNot_ap, bAnd_ap, bOr_ap, vIf_ap, vA_b, vO_b, vAnd_ap, vOr_ap, dNot_b, fNot_ap, dNg_i, fNeg_ap, fPN_ap, dPs_i, fPS_ap, vCut_ap, fIsi_ap, rOut_ok, rOut_ex, fCall_ap, fDct0_ap, dIterL_l, dIterL_t, iLT_ap, iR1_ap, iR2_ap, iEn_ap, iZp_ap, vLR1_ap, sNx_ap, sAsg_ap, sRet_ap, sExp_ap, sIf_ap, sFor_ap, oNx_s, sTgt_ap, fzE_s, sFz_ap, sRaise_ap, res_nx, res_rt, res_ex, st0, List.map_cons, List.map_nil, List.length_cons, List.length_nil, List.replicate_succ, List.replicate_zero, List.cons_append, List.nil_append, List.append_nil, List.getElem?_cons_zero, List.getElem?_cons_succ, List.set_cons_zero, List.set_cons_succ, Option.bind_some, Option.map_some, dTru, at_t0, at_t1, at_t2, at_t3, at_l0, at_l1, at_l2, at_l3, eq_int, ne_int, lt_int, gt_int, le_int, ge_int, add_int, sub_int, int_int, int_bool, len_l, len_t, len_scr, dListOf, dTupOf, decide_eq_true_eq, List.length_map, Nat.reduceAdd, Nat.reduceSub, Nat.reduceLeDiff, Nat.zero_add, if_true, if_false, ↓reduceIte, Bool.false_eq_true, Bool.not_true, Bool.not_false, fIn_ap, fGet_ap, inT_f, inT_t, gtT_s, key_i, isS_s, isS_n, map_none, sum_int, all_b, any_b, isi_int, isi_intb, isi_list, sTry_ap, tryE_ex, tryE_nx, tryE_rt, tryC_nx, tryC_rt, tryC_f, set_ap, setS_l, vDct1_ap, vch_ap, chB_b, chE_t, chE_f, gT_t, gsC_c, gsN_n, gN_ap, e0, e1, e2, ne_L]
theorem check_size_ev (p : D) (C : Nat) (h : C ≤ 64) (e : F_case_count [p] = .ok (.z, .int C)) : F_check_size [p] = .ok (.z, .none) := by
  unfold F_check_size fb_check_size kd_MOST_CASES
  simp only [runD_ap, seq_eq, then_nx, then_rt, then_ex, then_ct, then_bk, sB_ok, sB_ex, bind_ok, bind_ex, of_some, gZ_z, gB_s, gBl_l, gBl_z, gF_s, gM_s, fC_ap, fN_ap, fZ_ap, vMv_ap, fV_ap, vF_ap, oF_f, oF_l, oB_f, oB_l, osN_f, osN_l, osC_f, osC_l, o2_ap, fB_ap, fsN_ap, fsC_ap, fLst_ap, fTup_ap, fMt_ap, mtS_l, mtE_l, bB_b, bV_ap, bBo_b, bF_ap, bO_ap, bNot_ap, bAnd_ap, bOr_ap, vIf_ap, vA_b, vO_b, vAnd_ap, vOr_ap, dNot_b, fNot_ap, dNg_i, fNeg_ap, fPN_ap, dPs_i, fPS_ap, vCut_ap, fIsi_ap, rOut_ok, rOut_ex, fCall_ap, fDct0_ap, dIterL_l, dIterL_t, iLT_ap, iR1_ap, iR2_ap, iEn_ap, iZp_ap, vLR1_ap, sNx_ap, sAsg_ap, sRet_ap, sExp_ap, sIf_ap, sFor_ap, oNx_s, sTgt_ap, fzE_s, sFz_ap, sRaise_ap, res_nx, res_rt, res_ex, st0, List.map_cons, List.map_nil, List.length_cons, List.length_nil, List.replicate_succ, List.replicate_zero, List.cons_append, List.nil_append, List.append_nil, List.getElem?_cons_zero, List.getElem?_cons_succ, List.set_cons_zero, List.set_cons_succ, Option.bind_some, Option.map_some, dTru, at_t0, at_t1, at_t2, at_t3, at_l0, at_l1, at_l2, at_l3, eq_int, ne_int, lt_int, gt_int, le_int, ge_int, add_int, sub_int, int_int, int_bool, len_l, len_t, len_scr, dListOf, dTupOf, decide_eq_true_eq, List.length_map, Nat.reduceAdd, Nat.reduceSub, Nat.reduceLeDiff, Nat.zero_add, if_true, if_false, ↓reduceIte, Bool.false_eq_true, Bool.not_true, Bool.not_false, fIn_ap, fGet_ap, inT_f, inT_t, gtT_s, key_i, isS_s, isS_n, map_none, sum_int, all_b, any_b, isi_int, isi_intb, isi_list, sTry_ap, tryE_ex, tryE_nx, tryE_rt, tryC_nx, tryC_rt, tryC_f, set_ap, setS_l, vDct1_ap, vch_ap, chB_b, chE_t, chE_f, gT_t, gsC_c, gsN_n, gN_ap, e, decide_eq_false (show ¬ (64 : Int) < (C : Int) by omega)]
end K09
namespace K09
open PySem PV
def optD (o : Option Nat) : D := match o with | some k => .int (k : Nat) | none => .none
theorem range_N (n : Nat) : rangeL 0 n = (List.range n).map fun k => PyData.int ((k : Nat) : Int) := by
  unfold rangeL
  exact List.map_congr_left fun k _ => by simp
theorem fc_turn (p f : D) (k : Nat) (b : Bool) (e : F_shows [p, f, .int k] = .ok (.z, .bool b)) : lb_first_case_1 [some (.z, p), some (.z, f), some (.z, .int k)] = if b = true then .rt (.z, .int k) [some (.z, p), some (.z, f), some (.z, .int k)] else .nx [some (.z, p), some (.z, f), some (.z, .int k)] := by
  unfold lb_first_case_1
  cases b <;> simp only [runD_ap, seq_eq, then_nx, then_rt, then_ex, then_ct, then_bk, sB_ok, sB_ex, bind_ok, bind_ex, of_some, gZ_z, gB_s, gBl_l, gBl_z, gF_s, gM_s, fC_ap, fN_ap, fZ_ap, vMv_ap, fV_ap, vF_ap, oF_f, oF_l, oB_f, oB_l, osN_f, osN_l, osC_f, osC_l, o2_ap, fB_ap, fsN_ap, fsC_ap, fLst_ap, fTup_ap, fMt_ap, mtS_l, mtE_l, bB_b, bV_ap, bBo_b, bF_ap, bO_ap, bNot_ap, bAnd_ap, bOr_ap, vIf_ap, vA_b, vO_b, vAnd_ap, vOr_ap, dNot_b, fNot_ap, dNg_i, fNeg_ap, fPN_ap, dPs_i, fPS_ap, vCut_ap, fIsi_ap, rOut_ok, rOut_ex, fCall_ap, fDct0_ap, dIterL_l, dIterL_t, iLT_ap, iR1_ap, iR2_ap, iEn_ap, iZp_ap, vLR1_ap, sNx_ap, sAsg_ap, sRet_ap, sExp_ap, sIf_ap, sFor_ap, oNx_s, sTgt_ap, fzE_s, sFz_ap, sRaise_ap, res_nx, res_rt, res_ex, st0, List.map_cons, List.map_nil, List.length_cons, List.length_nil, List.replicate_succ, List.replicate_zero, List.cons_append, List.nil_append, List.append_nil, List.getElem?_cons_zero, List.getElem?_cons_succ, List.set_cons_zero, List.set_cons_succ, Option.bind_some, Option.map_some, dTru, at_t0, at_t1, at_t2, at_t3, at_l0, at_l1, at_l2, at_l3, eq_int, ne_int, lt_int, gt_int, le_int, ge_int, add_int, sub_int, int_int, int_bool, len_l, len_t, len_scr, dListOf, dTupOf, decide_eq_true_eq, List.length_map, Nat.reduceAdd, Nat.reduceSub, Nat.reduceLeDiff, Nat.zero_add, if_true, if_false, ↓reduceIte, Bool.false_eq_true, Bool.not_true, Bool.not_false, fIn_ap, fGet_ap, inT_f, inT_t, gtT_s, key_i, isS_s, isS_n, map_none, sum_int, all_b, any_b, isi_int, isi_intb, isi_list, sTry_ap, tryE_ex, tryE_nx, tryE_rt, tryC_nx, tryC_rt, tryC_f, set_ap, setS_l, vDct1_ap, vch_ap, chB_b, chE_t, chE_f, gT_t, gsC_c, gsN_n, gN_ap, e]
theorem fc_loop (p f : D) (P : Nat → Bool) : ∀ (ks : List Nat) (x : Option Va), (∀ k ∈ ks, F_shows [p, f, .int k] = .ok (.z, .bool (P k))) →
    (∃ k Γ', ks.find? P = some k ∧ sForL (gN 2) lb_first_case_1 (ks.map fun k => PyData.int ((k : Nat) : Int)) [some (.z, p), some (.z, f), x] = .rt (.z, .int k) Γ') ∨ (∃ x', ks.find? P = none ∧ sForL (gN 2) lb_first_case_1 (ks.map fun k => PyData.int ((k : Nat) : Int)) [some (.z, p), some (.z, f), x] = .nx [some (.z, p), some (.z, f), x'])
  | [], x, _ => .inr ⟨x, rfl, rfl⟩
  | k :: ks, x, h => by
    have e := h k (List.mem_cons_self ..)
    have t := fc_turn p f k (P k) e
    rw [List.map_cons]
    unfold sForL
    rw [show gN 2 (.int ((k : Nat) : Int)) [some (.z, p), some (.z, f), x] = some [some (.z, p), some (.z, f), some (.z, .int k)] from rfl]
    dsimp only
    rw [t]
    cases hp : P k with
    | true =>
      rw [if_pos rfl]
      exact .inl ⟨k, _, by rw [List.find?_cons, hp], rfl⟩
    | false =>
      rw [if_neg Bool.false_ne_true, List.find?_cons, hp]
      exact fc_loop p f P ks _ fun k hk => h k (List.mem_cons_of_mem _ hk)
theorem first_case_ev (p f : D) (C : Nat) (P : Nat → Bool) (hC : C ≤ 64) (e1 : F_check_size [p] = .ok (.z, .none)) (e2 : F_check_flaw [p, f] = .ok (.z, .none)) (e3 : F_case_count [p] = .ok (.z, .int C)) (e4 : ∀ k < C, F_shows [p, f, .int k] = .ok (.z, .bool (P k))) :
    F_first_case [p, f] = .ok (.z, optD ((List.range C).find? P)) := by
  have hl := fc_loop p f P (List.range C) none fun k hk => e4 k (List.mem_range.mp hk)
  rw [← range_N] at hl
  rcases hl with ⟨k, Γ', h1, h2⟩ | ⟨x', h1, h2⟩
  · rw [h1]
    unfold F_first_case fb_first_case optD
    simp (disch := omega) only [runD_ap, seq_eq, then_nx, then_rt, then_ex, then_ct, then_bk, sB_ok, sB_ex, bind_ok, bind_ex, of_some, gZ_z, gB_s, gBl_l, gBl_z, gF_s, gM_s, fC_ap, fN_ap, fZ_ap, vMv_ap, fV_ap, vF_ap, oF_f, oF_l, oB_f, oB_l, osN_f, osN_l, osC_f, osC_l, o2_ap, fB_ap, fsN_ap, fsC_ap, fLst_ap, fTup_ap, fMt_ap, mtS_l, mtE_l, bB_b, bV_ap, bBo_b, bF_ap, bO_ap, bNot_ap, bAnd_ap, bOr_ap, vIf_ap, vA_b, vO_b, vAnd_ap, vOr_ap, dNot_b, fNot_ap, dNg_i, fNeg_ap, fPN_ap, dPs_i, fPS_ap, vCut_ap, fIsi_ap, rOut_ok, rOut_ex, fCall_ap, fDct0_ap, dIterL_l, dIterL_t, iLT_ap, iR1_ap, iR2_ap, iEn_ap, iZp_ap, vLR1_ap, sNx_ap, sAsg_ap, sRet_ap, sExp_ap, sIf_ap, sFor_ap, oNx_s, sTgt_ap, fzE_s, sFz_ap, sRaise_ap, res_nx, res_rt, res_ex, st0, List.map_cons, List.map_nil, List.length_cons, List.length_nil, List.replicate_succ, List.replicate_zero, List.cons_append, List.nil_append, List.append_nil, List.getElem?_cons_zero, List.getElem?_cons_succ, List.set_cons_zero, List.set_cons_succ, Option.bind_some, Option.map_some, dTru, at_t0, at_t1, at_t2, at_t3, at_l0, at_l1, at_l2, at_l3, eq_int, ne_int, lt_int, gt_int, le_int, ge_int, add_int, sub_int, int_int, int_bool, len_l, len_t, len_scr, dListOf, dTupOf, decide_eq_true_eq, List.length_map, Nat.reduceAdd, Nat.reduceSub, Nat.reduceLeDiff, Nat.zero_add, if_true, if_false, ↓reduceIte, Bool.false_eq_true, Bool.not_true, Bool.not_false, fIn_ap, fGet_ap, inT_f, inT_t, gtT_s, key_i, isS_s, isS_n, map_none, sum_int, all_b, any_b, isi_int, isi_intb, isi_list, sTry_ap, tryE_ex, tryE_nx, tryE_rt, tryC_nx, tryC_rt, tryC_f, set_ap, setS_l, vDct1_ap, vch_ap, chB_b, chE_t, chE_f, gT_t, gsC_c, gsN_n, gN_ap, e1, e2, e3, if_pos, Int.toNat_natCast, h2]
  · rw [h1]
    unfold F_first_case fb_first_case optD
    simp (disch := omega) only [runD_ap, seq_eq, then_nx, then_rt, then_ex, then_ct, then_bk, sB_ok, sB_ex, bind_ok, bind_ex, of_some, gZ_z, gB_s, gBl_l, gBl_z, gF_s, gM_s, fC_ap, fN_ap, fZ_ap, vMv_ap, fV_ap, vF_ap, oF_f, oF_l, oB_f, oB_l, osN_f, osN_l, osC_f, osC_l, o2_ap, fB_ap, fsN_ap, fsC_ap, fLst_ap, fTup_ap, fMt_ap, mtS_l, mtE_l, bB_b, bV_ap, bBo_b, bF_ap, bO_ap, bNot_ap, bAnd_ap, bOr_ap, vIf_ap, vA_b, vO_b, vAnd_ap, vOr_ap, dNot_b, fNot_ap, dNg_i, fNeg_ap, fPN_ap, dPs_i, fPS_ap, vCut_ap, fIsi_ap, rOut_ok, rOut_ex, fCall_ap, fDct0_ap, dIterL_l, dIterL_t, iLT_ap, iR1_ap, iR2_ap, iEn_ap, iZp_ap, vLR1_ap, sNx_ap, sAsg_ap, sRet_ap, sExp_ap, sIf_ap, sFor_ap, oNx_s, sTgt_ap, fzE_s, sFz_ap, sRaise_ap, res_nx, res_rt, res_ex, st0, List.map_cons, List.map_nil, List.length_cons, List.length_nil, List.replicate_succ, List.replicate_zero, List.cons_append, List.nil_append, List.append_nil, List.getElem?_cons_zero, List.getElem?_cons_succ, List.set_cons_zero, List.set_cons_succ, Option.bind_some, Option.map_some, dTru, at_t0, at_t1, at_t2, at_t3, at_l0, at_l1, at_l2, at_l3, eq_int, ne_int, lt_int, gt_int, le_int, ge_int, add_int, sub_int, int_int, int_bool, len_l, len_t, len_scr, dListOf, dTupOf, decide_eq_true_eq, List.length_map, Nat.reduceAdd, Nat.reduceSub, Nat.reduceLeDiff, Nat.zero_add, if_true, if_false, ↓reduceIte, Bool.false_eq_true, Bool.not_true, Bool.not_false, fIn_ap, fGet_ap, inT_f, inT_t, gtT_s, key_i, isS_s, isS_n, map_none, sum_int, all_b, any_b, isi_int, isi_intb, isi_list, sTry_ap, tryE_ex, tryE_nx, tryE_rt, tryC_nx, tryC_rt, tryC_f, set_ap, setS_l, vDct1_ap, vch_ap, chB_b, chE_t, chE_f, gT_t, gsC_c, gsN_n, gN_ap, e1, e2, e3, if_pos, Int.toNat_natCast, h2]
theorem first_case_bad (p f : D) (e1 : F_check_size [p] = .ok (.z, .none)) (e2 : F_check_flaw [p, f] = .ex noSuch) : F_first_case [p, f] = .ex noSuch := by
  unfold F_first_case fb_first_case
  simp only [runD_ap, seq_eq, then_nx, then_rt, then_ex, then_ct, then_bk, sB_ok, sB_ex, bind_ok, bind_ex, of_some, gZ_z, gB_s, gBl_l, gBl_z, gF_s, gM_s, fC_ap, fN_ap, fZ_ap, vMv_ap, fV_ap, vF_ap, oF_f, oF_l, oB_f, oB_l, osN_f, osN_l, osC_f, osC_l, o2_ap, fB_ap, fsN_ap, fsC_ap, fLst_ap, fTup_ap, fMt_ap, mtS_l, mtE_l, bB_b, bV_ap, bBo_b, bF_ap, bO_ap, bNot_ap, bAnd_ap, bOr_ap, vIf_ap, vA_b, vO_b, vAnd_ap, vOr_ap, dNot_b, fNot_ap, dNg_i, fNeg_ap, fPN_ap, dPs_i, fPS_ap, vCut_ap, fIsi_ap, rOut_ok, rOut_ex, fCall_ap, fDct0_ap, dIterL_l, dIterL_t, iLT_ap, iR1_ap, iR2_ap, iEn_ap, iZp_ap, vLR1_ap, sNx_ap, sAsg_ap, sRet_ap, sExp_ap, sIf_ap, sFor_ap, oNx_s, sTgt_ap, fzE_s, sFz_ap, sRaise_ap, res_nx, res_rt, res_ex, st0, List.map_cons, List.map_nil, List.length_cons, List.length_nil, List.replicate_succ, List.replicate_zero, List.cons_append, List.nil_append, List.append_nil, List.getElem?_cons_zero, List.getElem?_cons_succ, List.set_cons_zero, List.set_cons_succ, Option.bind_some, Option.map_some, dTru, at_t0, at_t1, at_t2, at_t3, at_l0, at_l1, at_l2, at_l3, eq_int, ne_int, lt_int, gt_int, le_int, ge_int, add_int, sub_int, int_int, int_bool, len_l, len_t, len_scr, dListOf, dTupOf, decide_eq_true_eq, List.length_map, Nat.reduceAdd, Nat.reduceSub, Nat.reduceLeDiff, Nat.zero_add, if_true, if_false, ↓reduceIte, Bool.false_eq_true, Bool.not_true, Bool.not_false, fIn_ap, fGet_ap, inT_f, inT_t, gtT_s, key_i, isS_s, isS_n, map_none, sum_int, all_b, any_b, isi_int, isi_intb, isi_list, sTry_ap, tryE_ex, tryE_nx, tryE_rt, tryC_nx, tryC_rt, tryC_f, set_ap, setS_l, vDct1_ap, vch_ap, chB_b, chE_t, chE_f, gT_t, gsC_c, gsN_n, gN_ap, e1, e2]
/-! all flaws -/
abbrev flD (f : Int × Int) : D := .tuple [.int f.1, .int f.2]
def flaws (m : Nat) : List (Int × Int) := (List.range m).flatMap fun n => [((n : Nat), 0), ((n : Nat), 1)]
theorem comp2_gen {is : List Nat} {t : D → Ev → Option Ev} {c : Ev → Out Bool} {f1 : Ev → Out (List D)} {is1 : List Nat} {t1 : D → Ev → Option Ev} {c1 : Ev → Out Bool} {fe : Ev → Out D} {Γ : Ev} (es : D → List D) : ∀ ds : List D,
    (∀ d ∈ ds, ∃ Γd ds1 Γe, t d Γ = some Γd ∧ c Γd = .ok true Γd ∧ f1 Γd = .ok ds1 Γd ∧ compL is1 t1 c1 fe ds1 (wipeG Γd is1) = some (es d, Γe) ∧ wipeG Γe is = Γ) → compL2 is t c f1 is1 t1 c1 fe ds Γ = some (ds.flatMap es, Γ)
  | [], _ => rfl
  | d :: ds, h => by
    obtain ⟨Γd, ds1, Γe, h1, h2, h3, h4, h5⟩ := h d (List.mem_cons_self ..)
    have ih := comp2_gen es ds fun d hd => h d (List.mem_cons_of_mem _ hd)
    unfold compL2
    rw [h1]
    dsimp only
    rw [h2]
    dsimp only
    rw [h3]
    dsimp only
    rw [h4]
    dsimp only
    rw [h5, ih, List.flatMap_cons]
    rfl
theorem all_flaws_ev (n : Int) (ws : List D) (outs h4 : D) (m : Nat) (hm : n + ws.length = m) (hl : m ≤ 1000) : F_all_flaws [.tuple [.int n, .tuple ws, outs, h4]] = .ok (.l .z, .list ((flaws m).map flD)) := by
  have e1 : compL2 [1, 2] (gN 1) bYes ci_all_flaws_1 [2] (gN 2) bYes ce_all_flaws_1 (rangeL 0 m) [some (.z, .tuple [.int n, .tuple ws, outs, h4]), none, none] = some ((flaws m).map flD, [some (.z, .tuple [.int n, .tuple ws, outs, h4]), none, none]) := by
    have e0 : (flaws m).map flD = (rangeL 0 m).flatMap fun d => [.tuple [d, .int 0], .tuple [d, .int 1]] := by
      unfold flaws
      rw [range_N, List.map_flatMap, List.flatMap_map]
      rfl
    rw [e0]
    refine comp2_gen _ _ fun d hd => ?_
    rw [range_N] at hd
    obtain ⟨k, _, rfl⟩ := List.mem_map.mp hd
    refine ⟨[some (.z, .tuple [.int n, .tuple ws, outs, h4]), some (.z, .int k), none], [.int 0, .int 1], [some (.z, .tuple [.int n, .tuple ws, outs, h4]), some (.z, .int k), none], rfl, rfl, ?_, ?_, rfl⟩
    · unfold ci_all_flaws_1
      simp (disch := decide) only [runD_ap, seq_eq, then_nx, then_rt, then_ex, then_ct, then_bk, sB_ok, sB_ex, bind_ok, bind_ex, of_some, gZ_z, gB_s, gBl_l, gBl_z, gF_s, gM_s, fC_ap, fN_ap, fZ_ap, vMv_ap, fV_ap, vF_ap, oF_f, oF_l, oB_f, oB_l, osN_f, osN_l, osC_f, osC_l, o2_ap, fB_ap, fsN_ap, fsC_ap, fLst_ap, fTup_ap, fMt_ap, mtS_l, mtE_l, bB_b, bV_ap, bBo_b, bF_ap, bO_ap, bNot_ap, bAnd_ap, bOr_ap, vIf_ap, vA_b, vO_b, vAnd_ap, vOr_ap, dNot_b, fNot_ap, dNg_i, fNeg_ap, fPN_ap, dPs_i, fPS_ap, vCut_ap, fIsi_ap, rOut_ok, rOut_ex, fCall_ap, fDct0_ap, dIterL_l, dIterL_t, iLT_ap, iR1_ap, iR2_ap, iEn_ap, iZp_ap, vLR1_ap, sNx_ap, sAsg_ap, sRet_ap, sExp_ap, sIf_ap, sFor_ap, oNx_s, sTgt_ap, fzE_s, sFz_ap, sRaise_ap, res_nx, res_rt, res_ex, st0, List.map_cons, List.map_nil, List.length_cons, List.length_nil, List.replicate_succ, List.replicate_zero, List.cons_append, List.nil_append, List.append_nil, List.getElem?_cons_zero, List.getElem?_cons_succ, List.set_cons_zero, List.set_cons_succ, Option.bind_some, Option.map_some, dTru, at_t0, at_t1, at_t2, at_t3, at_l0, at_l1, at_l2, at_l3, eq_int, ne_int, lt_int, gt_int, le_int, ge_int, add_int, sub_int, int_int, int_bool, len_l, len_t, len_scr, dListOf, dTupOf, decide_eq_true_eq, List.length_map, Nat.reduceAdd, Nat.reduceSub, Nat.reduceLeDiff, Nat.zero_add, if_true, if_false, ↓reduceIte, Bool.false_eq_true, Bool.not_true, Bool.not_false, fIn_ap, fGet_ap, inT_f, inT_t, gtT_s, key_i, isS_s, isS_n, map_none, sum_int, all_b, any_b, isi_int, isi_intb, isi_list, sTry_ap, tryE_ex, tryE_nx, tryE_rt, tryC_nx, tryC_rt, tryC_f, set_ap, setS_l, vDct1_ap, vch_ap, chB_b, chE_t, chE_f, gT_t, gsC_c, gsN_n, gN_ap, if_pos]
    · have h1 : ∀ v : Int, ce_all_flaws_1 [some (.z, .tuple [.int n, .tuple ws, outs, h4]), some (.z, .int k), some (.z, .int v)] = .ok (.tuple [.int k, .int v]) [some (.z, .tuple [.int n, .tuple ws, outs, h4]), some (.z, .int k), some (.z, .int v)] := fun v => by
        unfold ce_all_flaws_1
        simp (disch := decide) only [runD_ap, seq_eq, then_nx, then_rt, then_ex, then_ct, then_bk, sB_ok, sB_ex, bind_ok, bind_ex, of_some, gZ_z, gB_s, gBl_l, gBl_z, gF_s, gM_s, fC_ap, fN_ap, fZ_ap, vMv_ap, fV_ap, vF_ap, oF_f, oF_l, oB_f, oB_l, osN_f, osN_l, osC_f, osC_l, o2_ap, fB_ap, fsN_ap, fsC_ap, fLst_ap, fTup_ap, fMt_ap, mtS_l, mtE_l, bB_b, bV_ap, bBo_b, bF_ap, bO_ap, bNot_ap, bAnd_ap, bOr_ap, vIf_ap, vA_b, vO_b, vAnd_ap, vOr_ap, dNot_b, fNot_ap, dNg_i, fNeg_ap, fPN_ap, dPs_i, fPS_ap, vCut_ap, fIsi_ap, rOut_ok, rOut_ex, fCall_ap, fDct0_ap, dIterL_l, dIterL_t, iLT_ap, iR1_ap, iR2_ap, iEn_ap, iZp_ap, vLR1_ap, sNx_ap, sAsg_ap, sRet_ap, sExp_ap, sIf_ap, sFor_ap, oNx_s, sTgt_ap, fzE_s, sFz_ap, sRaise_ap, res_nx, res_rt, res_ex, st0, List.map_cons, List.map_nil, List.length_cons, List.length_nil, List.replicate_succ, List.replicate_zero, List.cons_append, List.nil_append, List.append_nil, List.getElem?_cons_zero, List.getElem?_cons_succ, List.set_cons_zero, List.set_cons_succ, Option.bind_some, Option.map_some, dTru, at_t0, at_t1, at_t2, at_t3, at_l0, at_l1, at_l2, at_l3, eq_int, ne_int, lt_int, gt_int, le_int, ge_int, add_int, sub_int, int_int, int_bool, len_l, len_t, len_scr, dListOf, dTupOf, decide_eq_true_eq, List.length_map, Nat.reduceAdd, Nat.reduceSub, Nat.reduceLeDiff, Nat.zero_add, if_true, if_false, ↓reduceIte, Bool.false_eq_true, Bool.not_true, Bool.not_false, fIn_ap, fGet_ap, inT_f, inT_t, gtT_s, key_i, isS_s, isS_n, map_none, sum_int, all_b, any_b, isi_int, isi_intb, isi_list, sTry_ap, tryE_ex, tryE_nx, tryE_rt, tryC_nx, tryC_rt, tryC_f, set_ap, setS_l, vDct1_ap, vch_ap, chB_b, chE_t, chE_f, gT_t, gsC_c, gsN_n, gN_ap, if_pos]
      exact comp_ints (fun v => .tuple [.int k, .int v]) [0, 1] rfl (fun _ _ => rfl) fun v _ => h1 v
  have hfl : ((flaws m).map flD).length ≤ 16777216 := by
    rw [List.length_map]
    unfold flaws
    rw [List.length_flatMap]
    have : ((List.range m).map fun n => ([((n : Nat), 0), ((n : Nat), 1)] : List (Int × Int)).length) = List.replicate m 2 := by
      show List.map (fun _ => 2) (List.range m) = _
      rw [List.map_const', List.length_range]
    rw [this, List.sum_replicate_nat]
    omega
  have e2 : vComp2 [1, 2] (iR1 (fsC (fV (o2 dAdd (oF (fV (o2 dAt (oF (fN 0)) (oF (fC (.int 0)))))) (oF (fV (fB dLen (osC (oF (fV (o2 dAt (oF (fN 0)) (oF (fC (.int 1)))))) osN)))))) fsN)) (gN 1) bYes ci_all_flaws_1 [2] (gN 2) bYes ce_all_flaws_1 [some (.z, .tuple [.int n, .tuple ws, outs, h4]), none, none] = .ok (.l .z, .list ((flaws m).map flD)) [some (.z, .tuple [.int n, .tuple ws, outs, h4]), none, none] := by
    unfold vComp2
    have e3 : iR1 (fsC (fV (o2 dAdd (oF (fV (o2 dAt (oF (fN 0)) (oF (fC (.int 0)))))) (oF (fV (fB dLen (osC (oF (fV (o2 dAt (oF (fN 0)) (oF (fC (.int 1)))))) osN)))))) fsN) [some (.z, .tuple [.int n, .tuple ws, outs, h4]), none, none] = .ok (rangeL 0 m) [some (.z, .tuple [.int n, .tuple ws, outs, h4]), none, none] := by
      simp (disch := omega) only [runD_ap, seq_eq, then_nx, then_rt, then_ex, then_ct, then_bk, sB_ok, sB_ex, bind_ok, bind_ex, of_some, gZ_z, gB_s, gBl_l, gBl_z, gF_s, gM_s, fC_ap, fN_ap, fZ_ap, vMv_ap, fV_ap, vF_ap, oF_f, oF_l, oB_f, oB_l, osN_f, osN_l, osC_f, osC_l, o2_ap, fB_ap, fsN_ap, fsC_ap, fLst_ap, fTup_ap, fMt_ap, mtS_l, mtE_l, bB_b, bV_ap, bBo_b, bF_ap, bO_ap, bNot_ap, bAnd_ap, bOr_ap, vIf_ap, vA_b, vO_b, vAnd_ap, vOr_ap, dNot_b, fNot_ap, dNg_i, fNeg_ap, fPN_ap, dPs_i, fPS_ap, vCut_ap, fIsi_ap, rOut_ok, rOut_ex, fCall_ap, fDct0_ap, dIterL_l, dIterL_t, iLT_ap, iR1_ap, iR2_ap, iEn_ap, iZp_ap, vLR1_ap, sNx_ap, sAsg_ap, sRet_ap, sExp_ap, sIf_ap, sFor_ap, oNx_s, sTgt_ap, fzE_s, sFz_ap, sRaise_ap, res_nx, res_rt, res_ex, st0, List.map_cons, List.map_nil, List.length_cons, List.length_nil, List.replicate_succ, List.replicate_zero, List.cons_append, List.nil_append, List.append_nil, List.getElem?_cons_zero, List.getElem?_cons_succ, List.set_cons_zero, List.set_cons_succ, Option.bind_some, Option.map_some, dTru, at_t0, at_t1, at_t2, at_t3, at_l0, at_l1, at_l2, at_l3, eq_int, ne_int, lt_int, gt_int, le_int, ge_int, add_int, sub_int, int_int, int_bool, len_l, len_t, len_scr, dListOf, dTupOf, decide_eq_true_eq, List.length_map, Nat.reduceAdd, Nat.reduceSub, Nat.reduceLeDiff, Nat.zero_add, if_true, if_false, ↓reduceIte, Bool.false_eq_true, Bool.not_true, Bool.not_false, fIn_ap, fGet_ap, inT_f, inT_t, gtT_s, key_i, isS_s, isS_n, map_none, sum_int, all_b, any_b, isi_int, isi_intb, isi_list, sTry_ap, tryE_ex, tryE_nx, tryE_rt, tryC_nx, tryC_rt, tryC_f, set_ap, setS_l, vDct1_ap, vch_ap, chB_b, chE_t, chE_f, gT_t, gsC_c, gsN_n, gN_ap, hm, if_pos, Int.toNat_natCast]
    rw [e3, bind_ok]
    show (match compL2 [1, 2] (gN 1) bYes ci_all_flaws_1 [2] (gN 2) bYes ce_all_flaws_1 (rangeL 0 m) [some (.z, .tuple [.int n, .tuple ws, outs, h4]), none, none] with | some (es, Γ2) => if es.length ≤ 16777216 then Out.ok (Sh.l .z, PyData.list es) (restG _ Γ2 [1, 2]) else .st | none => .st) = _
    rw [e1]
    dsimp only
    rw [if_pos hfl]
    rfl
  generalize (flaws m).map flD = z at *
  unfold F_all_flaws fb_all_flaws
  simp only [runD_ap, seq_eq, then_nx, then_rt, then_ex, then_ct, then_bk, sB_ok, sB_ex, bind_ok, bind_ex, of_some, gZ_z, gB_s, gBl_l, gBl_z, gF_s, gM_s, fC_ap, fN_ap, fZ_ap, vMv_ap, fV_ap, vF_ap, oF_f, oF_l, oB_f, oB_l, osN_f, osN_l, osC_f, osC_l, o2_ap, fB_ap, fsN_ap, fsC_ap, fLst_ap, fTup_ap, fMt_ap, mtS_l, mtE_l, bB_b, bV_ap, bBo_b, bF_ap, bO_ap, bNot_ap, bAnd_ap, bOr_ap, vIf_ap, vA_b, vO_b, vAnd_ap, vOr_ap, dNot_b, fNot_ap, dNg_i, fNeg_ap, fPN_ap, dPs_i, fPS_ap, vCut_ap, fIsi_ap, rOut_ok, rOut_ex, fCall_ap, fDct0_ap, dIterL_l, dIterL_t, iLT_ap, iR1_ap, iR2_ap, iEn_ap, iZp_ap, vLR1_ap, sNx_ap, sAsg_ap, sRet_ap, sExp_ap, sIf_ap, sFor_ap, oNx_s, sTgt_ap, fzE_s, sFz_ap, sRaise_ap, res_nx, res_rt, res_ex, st0, List.map_cons, List.map_nil, List.length_cons, List.length_nil, List.replicate_succ, List.replicate_zero, List.cons_append, List.nil_append, List.append_nil, List.getElem?_cons_zero, List.getElem?_cons_succ, List.set_cons_zero, List.set_cons_succ, Option.bind_some, Option.map_some, dTru, at_t0, at_t1, at_t2, at_t3, at_l0, at_l1, at_l2, at_l3, eq_int, ne_int, lt_int, gt_int, le_int, ge_int, add_int, sub_int, int_int, int_bool, len_l, len_t, len_scr, dListOf, dTupOf, decide_eq_true_eq, List.length_map, Nat.reduceAdd, Nat.reduceSub, Nat.reduceLeDiff, Nat.zero_add, if_true, if_false, ↓reduceIte, Bool.false_eq_true, Bool.not_true, Bool.not_false, fIn_ap, fGet_ap, inT_f, inT_t, gtT_s, key_i, isS_s, isS_n, map_none, sum_int, all_b, any_b, isi_int, isi_intb, isi_list, sTry_ap, tryE_ex, tryE_nx, tryE_rt, tryC_nx, tryC_rt, tryC_f, set_ap, setS_l, vDct1_ap, vch_ap, chB_b, chE_t, chE_f, gT_t, gsC_c, gsN_n, gN_ap, e2]
end K09
namespace K09
open PySem PV
abbrev p7 : List D := [.int 1, .int 2, .int 4, .int 8, .int 16, .int 32, .int 64]
abbrev q7 : List D := [.int 2, .int 4, .int 8, .int 16, .int 32, .int 64, .int 128]
theorem pw1 {k : Nat} (h : k < 7) : dAt (.list p7) (.int k) = some (.z, .int ((2 ^ k : Nat) : Int)) := by
  have : k = 0 ∨ k = 1 ∨ k = 2 ∨ k = 3 ∨ k = 4 ∨ k = 5 ∨ k = 6 := by omega
  rcases this with rfl | rfl | rfl | rfl | rfl | rfl | rfl <;> exact at_list rfl
theorem pw2 {k : Nat} (h : k < 7) : dAt (.list q7) (.int k) = some (.z, .int ((2 ^ (k + 1) : Nat) : Int)) := by
  have : k = 0 ∨ k = 1 ∨ k = 2 ∨ k = 3 ∨ k = 4 ∨ k = 5 ∨ k = 6 := by omega
  rcases this with rfl | rfl | rfl | rfl | rfl | rfl | rfl <;> exact at_list rfl
theorem dv {c k : Nat} (h : k ≤ 7) : dDiv (.int c) (.int ((2 ^ k : Nat) : Int)) = some (.z, .int ((c / 2 ^ k : Nat) : Int)) := by
  have h1 : 0 < 2 ^ k := Nat.pow_pos (by decide)
  have h2 : 2 ^ k ≤ 2 ^ 7 := Nat.pow_le_pow_right (by decide) h
  rw [div_ok ⟨by omega, by omega⟩]
  congr 3
theorem bit_eq (c k : Nat) : ((c / 2 ^ k : Nat) : Int) - ((c / 2 ^ (k + 1) : Nat) : Int) * 2 = ((c / 2 ^ k % 2 : Nat) : Int) := by
  have : c / 2 ^ (k + 1) = c / 2 ^ k / 2 := by rw [Nat.div_div_eq_div_mul, Nat.pow_succ]
  rw [this]
  omega
theorem la_ev1 (p n0 v5 : D) (c k x y z : Int) (net v r2 w : D) (vs : List Int) (a7 a8 a9 a10 : Option Va) (hv : vs.length ≤ 1000) (e1 : dAt (.list p7) (.int k) = some (.z, .int x)) (e2 : dAt (.list q7) (.int k) = some (.z, .int y)) (z1 z2 : Int) (e3 : dDiv (.int c) (.int x) = some (.z, .int z1)) (e4 : dDiv (.int c) (.int y) = some (.z, .int z2)) (e5 : dMul (.int z2) (.int 2) = some (.z, .int (z2 * 2))) (e6 : z1 - z2 * 2 = z) :
    lb_law_answers_1 [some (.z, p), some (.z, .int c), some (.z, net), some (.z, v), some (.l .z, L vs), some (.z, v5), some (.z, .int k), a7, a8, a9, a10] = .nx [some (.z, p), some (.z, .int c), some (.z, net), some (.z, v), some (.l .z, L (vs ++ [z])), some (.z, v5), some (.z, .int k), a7, a8, a9, a10] := by
  subst e6
  unfold lb_law_answers_1
  simp (disch := first | decide | omega) only [runD_ap, seq_eq, then_nx, then_rt, then_ex, then_ct, then_bk, sB_ok, sB_ex, bind_ok, bind_ex, of_some, gZ_z, gB_s, gBl_l, gBl_z, gF_s, gM_s, fC_ap, fN_ap, fZ_ap, vMv_ap, fV_ap, vF_ap, oF_f, oF_l, oB_f, oB_l, osN_f, osN_l, osC_f, osC_l, o2_ap, fB_ap, fsN_ap, fsC_ap, fLst_ap, fTup_ap, fMt_ap, mtS_l, mtE_l, bB_b, bV_ap, bBo_b, bF_ap, bO_ap, bNot_ap, bAnd_ap, bOr_ap, vIf_ap, vA_b, vO_b, vAnd_ap, vOr_ap, dNot_b, fNot_ap, dNg_i, fNeg_ap, fPN_ap, dPs_i, fPS_ap, vCut_ap, fIsi_ap, rOut_ok, rOut_ex, fCall_ap, fDct0_ap, dIterL_l, dIterL_t, iLT_ap, iR1_ap, iR2_ap, iEn_ap, iZp_ap, vLR1_ap, sNx_ap, sAsg_ap, sRet_ap, sExp_ap, sIf_ap, sFor_ap, oNx_s, sTgt_ap, fzE_s, sFz_ap, sRaise_ap, res_nx, res_rt, res_ex, st0, List.map_cons, List.map_nil, List.length_cons, List.length_nil, List.replicate_succ, List.replicate_zero, List.cons_append, List.nil_append, List.append_nil, List.getElem?_cons_zero, List.getElem?_cons_succ, List.set_cons_zero, List.set_cons_succ, Option.bind_some, Option.map_some, dTru, at_t0, at_t1, at_t2, at_t3, at_l0, at_l1, at_l2, at_l3, eq_int, ne_int, lt_int, gt_int, le_int, ge_int, add_int, sub_int, int_int, int_bool, len_l, len_t, len_scr, dListOf, dTupOf, decide_eq_true_eq, List.length_map, Nat.reduceAdd, Nat.reduceSub, Nat.reduceLeDiff, Nat.zero_add, if_true, if_false, ↓reduceIte, Bool.false_eq_true, Bool.not_true, Bool.not_false, fIn_ap, fGet_ap, inT_f, inT_t, gtT_s, key_i, isS_s, isS_n, map_none, sum_int, all_b, any_b, isi_int, isi_intb, isi_list, sTry_ap, tryE_ex, tryE_nx, tryE_rt, tryC_nx, tryC_rt, tryC_f, set_ap, setS_l, vDct1_ap, vch_ap, chB_b, chE_t, chE_f, gT_t, gsC_c, gsN_n, gN_ap, if_pos, e1, e2, e3, e4, e5, app_int]
theorem cbits_succ (j c : Nat) : cbits (j + 1) c = cbits j c ++ [((c / 2 ^ j % 2 : Nat) : Int)] := by
  unfold cbits
  rw [List.range_succ, List.map_append]
  rfl
theorem la_loop1 (p : D) (c n : Nat) (hn : n ≤ 6) (net v : D) : ∃ kv, sForL (gN 6) lb_law_answers_1 (rangeL 0 n) [some (.z, p), some (.z, .int c), some (.z, net), some (.z, v), some (.l .z, .list []), some (.z, .int n), none, none, none, none, none] = .nx [some (.z, p), some (.z, .int c), some (.z, net), some (.z, v), some (.l .z, L (cbits n c)), some (.z, .int n), kv, none, none, none, none] := by
  have hh : ∃ Γ', sForL (gN 6) lb_law_answers_1 (rangeL 0 n) [some (.z, p), some (.z, .int c), some (.z, net), some (.z, v), some (.l .z, .list []), some (.z, .int n), none, none, none, none, none] = .nx Γ' ∧ ∃ kv, Γ' = [some (.z, p), some (.z, .int c), some (.z, net), some (.z, v), some (.l .z, L (cbits (0 + (rangeL 0 n).length) c)), some (.z, .int n), kv, none, none, none, none] :=
    forL_inv (fun j Γ => ∃ kv, Γ = [some (.z, p), some (.z, .int c), some (.z, net), some (.z, v), some (.l .z, L (cbits j c)), some (.z, .int n), kv, none, none, none, none]) (rangeL 0 n) 0 _ ⟨none, rfl⟩ (by
      rintro i d Γ hd ⟨kv, rfl⟩
      obtain ⟨hi, rfl⟩ := range0_get hd
      rw [Nat.zero_add]
      refine ⟨_, _, rfl, .inl (la_ev1 p p (.int n) c i _ _ _ net v v v (cbits i c) none none none none (by rw [cbits_len]; omega) (pw1 (by omega)) (pw2 (by omega)) _ _ (dv (by omega)) (dv (by omega)) (mul_ok (.inr (by decide))) (bit_eq c i)), some (.z, .int i), ?_⟩
      rw [cbits_succ])
  obtain ⟨Γ', e, kv, rfl⟩ := hh
  rw [range_len, Nat.zero_add] at e
  exact ⟨kv, e⟩
theorem ini_get (a w : Int) (vs : List Int) (j : Nat) : (ini a w vs)[j]? = (vs[j]?).map fun x => fav a w (j : Nat) x := by
  unfold ini
  rw [List.getElem?_map, List.getElem?_zipIdx]
  cases vs[j]? with
  | none => rfl
  | some x => simp
theorem ini_set (a w : Int) (vs : List Int) : ini a w vs = if 0 ≤ a ∧ a < vs.length then vs.set a.toNat w else vs := by
  apply List.ext_getElem?
  intro j
  rw [ini_get]
  by_cases h : 0 ≤ a ∧ a < vs.length
  · rw [if_pos h]
    by_cases e : a.toNat = j
    · subst e
      rw [List.getElem?_set_self (by omega), List.getElem?_eq_getElem (by omega)]
      unfold fav
      rw [Option.map_some, if_pos (by omega)]
    · rw [List.getElem?_set_ne e]
      cases hq : vs[j]? with
      | none => rfl
      | some x =>
        unfold fav
        rw [Option.map_some, if_neg (by omega)]
  · rw [if_neg h]
    cases hq : vs[j]? with
    | none => rfl
    | some x =>
      have hj := (List.getElem?_eq_some_iff.mp hq).1
      unfold fav
      rw [Option.map_some, if_neg (by omega)]
/-! the cells -/
theorem la_comp (a0 a1 a2 a3 a5 a6 a8 a9 : Option Va) (vs ss : List Int) (k n : D) (h : ∀ x ∈ ss, 0 ≤ x ∧ x < vs.length) (hl : ss.length ≤ 3) :
    vComp [10] (iLT (fV (o2 dAt (oF (fN 7)) (oF (fC (.int 1)))))) (gN 10) bYes ce_law_answers_1 [a0, a1, a2, a3, some (.l .z, L vs), a5, a6, some (.z, .tuple [k, T ss, n]), a8, a9, none] = .ok (.l .z, L (look vs ss)) [a0, a1, a2, a3, some (.l .z, L vs), a5, a6, some (.z, .tuple [k, T ss, n]), a8, a9, none] := by
  have e : L (look vs ss) = .list (ss.map fun x => .int (vs.getD x.toNat 0)) := by
    unfold L look
    rw [List.map_map]
    rfl
  rw [e]
  refine comp_ok (ds := ss.map .int) ?_ (by rw [List.length_map]; omega) ?_ rfl
  · simp only [runD_ap, seq_eq, then_nx, then_rt, then_ex, then_ct, then_bk, sB_ok, sB_ex, bind_ok, bind_ex, of_some, gZ_z, gB_s, gBl_l, gBl_z, gF_s, gM_s, fC_ap, fN_ap, fZ_ap, vMv_ap, fV_ap, vF_ap, oF_f, oF_l, oB_f, oB_l, osN_f, osN_l, osC_f, osC_l, o2_ap, fB_ap, fsN_ap, fsC_ap, fLst_ap, fTup_ap, fMt_ap, mtS_l, mtE_l, bB_b, bV_ap, bBo_b, bF_ap, bO_ap, bNot_ap, bAnd_ap, bOr_ap, vIf_ap, vA_b, vO_b, vAnd_ap, vOr_ap, dNot_b, fNot_ap, dNg_i, fNeg_ap, fPN_ap, dPs_i, fPS_ap, vCut_ap, fIsi_ap, rOut_ok, rOut_ex, fCall_ap, fDct0_ap, dIterL_l, dIterL_t, iLT_ap, iR1_ap, iR2_ap, iEn_ap, iZp_ap, vLR1_ap, sNx_ap, sAsg_ap, sRet_ap, sExp_ap, sIf_ap, sFor_ap, oNx_s, sTgt_ap, fzE_s, sFz_ap, sRaise_ap, res_nx, res_rt, res_ex, st0, List.map_cons, List.map_nil, List.length_cons, List.length_nil, List.replicate_succ, List.replicate_zero, List.cons_append, List.nil_append, List.append_nil, List.getElem?_cons_zero, List.getElem?_cons_succ, List.set_cons_zero, List.set_cons_succ, Option.bind_some, Option.map_some, dTru, at_t0, at_t1, at_t2, at_t3, at_l0, at_l1, at_l2, at_l3, eq_int, ne_int, lt_int, gt_int, le_int, ge_int, add_int, sub_int, int_int, int_bool, len_l, len_t, len_scr, dListOf, dTupOf, decide_eq_true_eq, List.length_map, Nat.reduceAdd, Nat.reduceSub, Nat.reduceLeDiff, Nat.zero_add, if_true, if_false, ↓reduceIte, Bool.false_eq_true, Bool.not_true, Bool.not_false, fIn_ap, fGet_ap, inT_f, inT_t, gtT_s, key_i, isS_s, isS_n, map_none, sum_int, all_b, any_b, isi_int, isi_intb, isi_list, sTry_ap, tryE_ex, tryE_nx, tryE_rt, tryC_nx, tryC_rt, tryC_f, set_ap, setS_l, vDct1_ap, vch_ap, chB_b, chE_t, chE_f, gT_t, gsC_c, gsN_n, gN_ap]
  · refine comp_ints (fun x => .int (vs.getD x.toNat 0)) ss rfl (fun _ _ => rfl) fun x hx => ?_
    have := getD_at (h x hx)
    unfold ce_law_answers_1
    simp only [runD_ap, seq_eq, then_nx, then_rt, then_ex, then_ct, then_bk, sB_ok, sB_ex, bind_ok, bind_ex, of_some, gZ_z, gB_s, gBl_l, gBl_z, gF_s, gM_s, fC_ap, fN_ap, fZ_ap, vMv_ap, fV_ap, vF_ap, oF_f, oF_l, oB_f, oB_l, osN_f, osN_l, osC_f, osC_l, o2_ap, fB_ap, fsN_ap, fsC_ap, fLst_ap, fTup_ap, fMt_ap, mtS_l, mtE_l, bB_b, bV_ap, bBo_b, bF_ap, bO_ap, bNot_ap, bAnd_ap, bOr_ap, vIf_ap, vA_b, vO_b, vAnd_ap, vOr_ap, dNot_b, fNot_ap, dNg_i, fNeg_ap, fPN_ap, dPs_i, fPS_ap, vCut_ap, fIsi_ap, rOut_ok, rOut_ex, fCall_ap, fDct0_ap, dIterL_l, dIterL_t, iLT_ap, iR1_ap, iR2_ap, iEn_ap, iZp_ap, vLR1_ap, sNx_ap, sAsg_ap, sRet_ap, sExp_ap, sIf_ap, sFor_ap, oNx_s, sTgt_ap, fzE_s, sFz_ap, sRaise_ap, res_nx, res_rt, res_ex, st0, List.map_cons, List.map_nil, List.length_cons, List.length_nil, List.replicate_succ, List.replicate_zero, List.cons_append, List.nil_append, List.append_nil, List.getElem?_cons_zero, List.getElem?_cons_succ, List.set_cons_zero, List.set_cons_succ, Option.bind_some, Option.map_some, dTru, at_t0, at_t1, at_t2, at_t3, at_l0, at_l1, at_l2, at_l3, eq_int, ne_int, lt_int, gt_int, le_int, ge_int, add_int, sub_int, int_int, int_bool, len_l, len_t, len_scr, dListOf, dTupOf, decide_eq_true_eq, List.length_map, Nat.reduceAdd, Nat.reduceSub, Nat.reduceLeDiff, Nat.zero_add, if_true, if_false, ↓reduceIte, Bool.false_eq_true, Bool.not_true, Bool.not_false, fIn_ap, fGet_ap, inT_f, inT_t, gtT_s, key_i, isS_s, isS_n, map_none, sum_int, all_b, any_b, isi_int, isi_intb, isi_list, sTry_ap, tryE_ex, tryE_nx, tryE_rt, tryC_nx, tryC_rt, tryC_f, set_ap, setS_l, vDct1_ap, vch_ap, chB_b, chE_t, chE_f, gT_t, gsC_c, gsN_n, gN_ap, wipeG, this]
/-- the stuck net's value is put behind the append -/
theorem la_put (a0 a1 a5 a6 a7 a8 a9 a10 : Option Va) (vs : List Int) (y a w nt : Int) (hnt : nt = (vs.length : Nat)) (t : D) (k : D) :
    sIf (bV (o2 dEq (oF (fV (o2 dAt (oF (fN 7)) (oF (fC (.int 2)))))) (oF (fN 2)))) (sSet 4 (fN 3) (fN 2)) sNx [a0, a1, some (.z, .int a), some (.z, .int w), some (.l .z, L (vs ++ [y])), a5, a6, some (.z, .tuple [k, t, .int nt]), a8, a9, a10] = .nx [a0, a1, some (.z, .int a), some (.z, .int w), some (.l .z, L (vs ++ [fav a w nt y])), a5, a6, some (.z, .tuple [k, t, .int nt]), a8, a9, a10] := by
  by_cases e : nt = a
  · have hx : L2.ixN ((vs ++ [y]).map PyData.int).length a = some vs.length := by
      unfold L2.ixN
      rw [List.length_map, List.length_append, List.length_singleton, if_pos (by omega), if_pos (by omega)]
      congr 1
      omega
    have hs : ((vs ++ [y]).map PyData.int).set vs.length (.int w) = (vs ++ [w]).map .int := by
      rw [← List.map_set, List.set_append_right _ _ (Nat.le_refl _), Nat.sub_self]
      rfl
    have hf : fav a w nt y = w := if_pos e
    rw [hf]
    simp only [runD_ap, seq_eq, then_nx, then_rt, then_ex, then_ct, then_bk, sB_ok, sB_ex, bind_ok, bind_ex, of_some, gZ_z, gB_s, gBl_l, gBl_z, gF_s, gM_s, fC_ap, fN_ap, fZ_ap, vMv_ap, fV_ap, vF_ap, oF_f, oF_l, oB_f, oB_l, osN_f, osN_l, osC_f, osC_l, o2_ap, fB_ap, fsN_ap, fsC_ap, fLst_ap, fTup_ap, fMt_ap, mtS_l, mtE_l, bB_b, bV_ap, bBo_b, bF_ap, bO_ap, bNot_ap, bAnd_ap, bOr_ap, vIf_ap, vA_b, vO_b, vAnd_ap, vOr_ap, dNot_b, fNot_ap, dNg_i, fNeg_ap, fPN_ap, dPs_i, fPS_ap, vCut_ap, fIsi_ap, rOut_ok, rOut_ex, fCall_ap, fDct0_ap, dIterL_l, dIterL_t, iLT_ap, iR1_ap, iR2_ap, iEn_ap, iZp_ap, vLR1_ap, sNx_ap, sAsg_ap, sRet_ap, sExp_ap, sIf_ap, sFor_ap, oNx_s, sTgt_ap, fzE_s, sFz_ap, sRaise_ap, res_nx, res_rt, res_ex, st0, List.map_cons, List.map_nil, List.length_cons, List.length_nil, List.replicate_succ, List.replicate_zero, List.cons_append, List.nil_append, List.append_nil, List.getElem?_cons_zero, List.getElem?_cons_succ, List.set_cons_zero, List.set_cons_succ, Option.bind_some, Option.map_some, dTru, at_t0, at_t1, at_t2, at_t3, at_l0, at_l1, at_l2, at_l3, eq_int, ne_int, lt_int, gt_int, le_int, ge_int, add_int, sub_int, int_int, int_bool, len_l, len_t, len_scr, dListOf, dTupOf, decide_eq_true_eq, List.length_map, Nat.reduceAdd, Nat.reduceSub, Nat.reduceLeDiff, Nat.zero_add, if_true, if_false, ↓reduceIte, Bool.false_eq_true, Bool.not_true, Bool.not_false, fIn_ap, fGet_ap, inT_f, inT_t, gtT_s, key_i, isS_s, isS_n, map_none, sum_int, all_b, any_b, isi_int, isi_intb, isi_list, sTry_ap, tryE_ex, tryE_nx, tryE_rt, tryC_nx, tryC_rt, tryC_f, set_ap, setS_l, vDct1_ap, vch_ap, chB_b, chE_t, chE_f, gT_t, gsC_c, gsN_n, gN_ap, decide_eq_true e, setE_l hx, hs]
  · have hf : fav a w nt y = y := if_neg e
    rw [hf]
    simp only [runD_ap, seq_eq, then_nx, then_rt, then_ex, then_ct, then_bk, sB_ok, sB_ex, bind_ok, bind_ex, of_some, gZ_z, gB_s, gBl_l, gBl_z, gF_s, gM_s, fC_ap, fN_ap, fZ_ap, vMv_ap, fV_ap, vF_ap, oF_f, oF_l, oB_f, oB_l, osN_f, osN_l, osC_f, osC_l, o2_ap, fB_ap, fsN_ap, fsC_ap, fLst_ap, fTup_ap, fMt_ap, mtS_l, mtE_l, bB_b, bV_ap, bBo_b, bF_ap, bO_ap, bNot_ap, bAnd_ap, bOr_ap, vIf_ap, vA_b, vO_b, vAnd_ap, vOr_ap, dNot_b, fNot_ap, dNg_i, fNeg_ap, fPN_ap, dPs_i, fPS_ap, vCut_ap, fIsi_ap, rOut_ok, rOut_ex, fCall_ap, fDct0_ap, dIterL_l, dIterL_t, iLT_ap, iR1_ap, iR2_ap, iEn_ap, iZp_ap, vLR1_ap, sNx_ap, sAsg_ap, sRet_ap, sExp_ap, sIf_ap, sFor_ap, oNx_s, sTgt_ap, fzE_s, sFz_ap, sRaise_ap, res_nx, res_rt, res_ex, st0, List.map_cons, List.map_nil, List.length_cons, List.length_nil, List.replicate_succ, List.replicate_zero, List.cons_append, List.nil_append, List.append_nil, List.getElem?_cons_zero, List.getElem?_cons_succ, List.set_cons_zero, List.set_cons_succ, Option.bind_some, Option.map_some, dTru, at_t0, at_t1, at_t2, at_t3, at_l0, at_l1, at_l2, at_l3, eq_int, ne_int, lt_int, gt_int, le_int, ge_int, add_int, sub_int, int_int, int_bool, len_l, len_t, len_scr, dListOf, dTupOf, decide_eq_true_eq, List.length_map, Nat.reduceAdd, Nat.reduceSub, Nat.reduceLeDiff, Nat.zero_add, if_true, if_false, ↓reduceIte, Bool.false_eq_true, Bool.not_true, Bool.not_false, fIn_ap, fGet_ap, inT_f, inT_t, gtT_s, key_i, isS_s, isS_n, map_none, sum_int, all_b, any_b, isi_int, isi_intb, isi_list, sTry_ap, tryE_ex, tryE_nx, tryE_rt, tryC_nx, tryC_rt, tryC_f, set_ap, setS_l, vDct1_ap, vch_ap, chB_b, chE_t, chE_f, gT_t, gsC_c, gsN_n, gN_ap, decide_eq_false e]
end K09
namespace K09
open PySem PV
def laA : Ev → SO := (sIf (bV (o2 dEq (oF (fV (o2 dAt (oF (fN 7)) (oF (fC (.int 0)))))) (oF (fC (.str (S "latch"))))))
  (sSeq (sExp (fMt 4 mAppend (fsC (fV (o2 dSub (oF (fV (o2 dDiv (oF (fN 1)) (oF (fV (o2 dAt (oF (fV (fLst (fsC (fC (.int 1)) (fsC (fC (.int 2)) (fsC (fC (.int 4)) (fsC (fC (.int 8)) (fsC (fC (.int 16)) (fsC (fC (.int 32)) (fsC (fC (.int 64)) fsN)))))))))) (oF (fN 5)))))))) (oF (fV (o2 dMul (oF (fV (o2 dDiv (oF (fN 1)) (oF (fV (o2 dAt (oF (fV (fLst (fsC (fC (.int 2)) (fsC (fC (.int 4)) (fsC (fC (.int 8)) (fsC (fC (.int 16)) (fsC (fC (.int 32)) (fsC (fC (.int 64)) (fsC (fC (.int 128)) fsN)))))))))) (oF (fN 5)))))))) (oF (fC (.int 2)))))))) fsN)))
  (sAsg 5 (vF (fV (o2 dAdd (oF (fN 5)) (oF (fC (.int 1))))))))
  (sExp (fMt 4 mAppend (fsC (fV (fCall 2 F_law_value (fsC (fV (o2 dAt (oF (fN 7)) (oF (fC (.int 0))))) (fsC (fV (vComp [10] (iLT (fV (o2 dAt (oF (fN 7)) (oF (fC (.int 1)))))) (gN 10) bYes ce_law_answers_1)) fsN)))) fsN))))
def laB : Ev → SO := (sIf (bV (o2 dEq (oF (fV (o2 dAt (oF (fN 7)) (oF (fC (.int 2)))))) (oF (fN 2))))
  (sSet 4 (fN 3) (fN 2))
  sNx)
theorem la_lb : lb_law_answers_2 = sSeq laA laB := rfl
theorem laA_gate (a0 a1 a2 a3 a5 a6 a8 a9 : Option Va) (k : Str) (n : D) (y : Int) (vs ss : List Int) (hq : dEq (.str k) (.str (S "latch")) = some (.z, .bool false)) (h : ∀ x ∈ ss, 0 ≤ x ∧ x < vs.length) (hl : ss.length ≤ 3) (hv : vs.length ≤ 1000) (e2 : F_law_value [.str k, L (look vs ss)] = .ok (.z, .int y)) :
    laA [a0, a1, a2, a3, some (.l .z, L vs), a5, a6, some (.z, .tuple [.str k, T ss, n]), a8, a9, none] = .nx [a0, a1, a2, a3, some (.l .z, L (vs ++ [y])), a5, a6, some (.z, .tuple [.str k, T ss, n]), a8, a9, none] := by
  have e1 := la_comp a0 a1 a2 a3 a5 a6 a8 a9 vs ss (.str k) n h hl
  unfold laA
  simp (disch := omega) only [runD_ap, seq_eq, then_nx, then_rt, then_ex, then_ct, then_bk, sB_ok, sB_ex, bind_ok, bind_ex, of_some, gZ_z, gB_s, gBl_l, gBl_z, gF_s, gM_s, fC_ap, fN_ap, fZ_ap, vMv_ap, fV_ap, vF_ap, oF_f, oF_l, oB_f, oB_l, osN_f, osN_l, osC_f, osC_l, o2_ap, fB_ap, fsN_ap, fsC_ap, fLst_ap, fTup_ap, fMt_ap, mtS_l, mtE_l, bB_b, bV_ap, bBo_b, bF_ap, bO_ap, bNot_ap, bAnd_ap, bOr_ap, vIf_ap, vA_b, vO_b, vAnd_ap, vOr_ap, dNot_b, fNot_ap, dNg_i, fNeg_ap, fPN_ap, dPs_i, fPS_ap, vCut_ap, fIsi_ap, rOut_ok, rOut_ex, fCall_ap, fDct0_ap, dIterL_l, dIterL_t, iLT_ap, iR1_ap, iR2_ap, iEn_ap, iZp_ap, vLR1_ap, sNx_ap, sAsg_ap, sRet_ap, sExp_ap, sIf_ap, sFor_ap, oNx_s, sTgt_ap, fzE_s, sFz_ap, sRaise_ap, res_nx, res_rt, res_ex, st0, List.map_cons, List.map_nil, List.length_cons, List.length_nil, List.replicate_succ, List.replicate_zero, List.cons_append, List.nil_append, List.append_nil, List.getElem?_cons_zero, List.getElem?_cons_succ, List.set_cons_zero, List.set_cons_succ, Option.bind_some, Option.map_some, dTru, at_t0, at_t1, at_t2, at_t3, at_l0, at_l1, at_l2, at_l3, eq_int, ne_int, lt_int, gt_int, le_int, ge_int, add_int, sub_int, int_int, int_bool, len_l, len_t, len_scr, dListOf, dTupOf, decide_eq_true_eq, List.length_map, Nat.reduceAdd, Nat.reduceSub, Nat.reduceLeDiff, Nat.zero_add, if_true, if_false, ↓reduceIte, Bool.false_eq_true, Bool.not_true, Bool.not_false, fIn_ap, fGet_ap, inT_f, inT_t, gtT_s, key_i, isS_s, isS_n, map_none, sum_int, all_b, any_b, isi_int, isi_intb, isi_list, sTry_ap, tryE_ex, tryE_nx, tryE_rt, tryC_nx, tryC_rt, tryC_f, set_ap, setS_l, vDct1_ap, vch_ap, chB_b, chE_t, chE_f, gT_t, gsC_c, gsN_n, gN_ap, hq, e1, e2, app_int]
theorem laA_latch (a0 a2 a3 a6 a8 a9 a10 : Option Va) (c la x y z : Int) (t n : D) (vs : List Int) (hv : vs.length ≤ 1000) (e1 : dAt (.list p7) (.int la) = some (.z, .int x)) (e2 : dAt (.list q7) (.int la) = some (.z, .int y)) (z1 z2 : Int) (e3 : dDiv (.int c) (.int x) = some (.z, .int z1)) (e4 : dDiv (.int c) (.int y) = some (.z, .int z2)) (e5 : dMul (.int z2) (.int 2) = some (.z, .int (z2 * 2))) (e6 : z1 - z2 * 2 = z) :
    laA [a0, some (.z, .int c), a2, a3, some (.l .z, L vs), some (.z, .int la), a6, some (.z, .tuple [.str (S "latch"), t, n]), a8, a9, a10] = .nx [a0, some (.z, .int c), a2, a3, some (.l .z, L (vs ++ [z])), some (.z, .int (la + 1)), a6, some (.z, .tuple [.str (S "latch"), t, n]), a8, a9, a10] := by
  subst e6
  unfold laA
  simp (disch := first | decide | omega) only [runD_ap, seq_eq, then_nx, then_rt, then_ex, then_ct, then_bk, sB_ok, sB_ex, bind_ok, bind_ex, of_some, gZ_z, gB_s, gBl_l, gBl_z, gF_s, gM_s, fC_ap, fN_ap, fZ_ap, vMv_ap, fV_ap, vF_ap, oF_f, oF_l, oB_f, oB_l, osN_f, osN_l, osC_f, osC_l, o2_ap, fB_ap, fsN_ap, fsC_ap, fLst_ap, fTup_ap, fMt_ap, mtS_l, mtE_l, bB_b, bV_ap, bBo_b, bF_ap, bO_ap, bNot_ap, bAnd_ap, bOr_ap, vIf_ap, vA_b, vO_b, vAnd_ap, vOr_ap, dNot_b, fNot_ap, dNg_i, fNeg_ap, fPN_ap, dPs_i, fPS_ap, vCut_ap, fIsi_ap, rOut_ok, rOut_ex, fCall_ap, fDct0_ap, dIterL_l, dIterL_t, iLT_ap, iR1_ap, iR2_ap, iEn_ap, iZp_ap, vLR1_ap, sNx_ap, sAsg_ap, sRet_ap, sExp_ap, sIf_ap, sFor_ap, oNx_s, sTgt_ap, fzE_s, sFz_ap, sRaise_ap, res_nx, res_rt, res_ex, st0, List.map_cons, List.map_nil, List.length_cons, List.length_nil, List.replicate_succ, List.replicate_zero, List.cons_append, List.nil_append, List.append_nil, List.getElem?_cons_zero, List.getElem?_cons_succ, List.set_cons_zero, List.set_cons_succ, Option.bind_some, Option.map_some, dTru, at_t0, at_t1, at_t2, at_t3, at_l0, at_l1, at_l2, at_l3, eq_int, ne_int, lt_int, gt_int, le_int, ge_int, add_int, sub_int, int_int, int_bool, len_l, len_t, len_scr, dListOf, dTupOf, decide_eq_true_eq, List.length_map, Nat.reduceAdd, Nat.reduceSub, Nat.reduceLeDiff, Nat.zero_add, if_true, if_false, ↓reduceIte, Bool.false_eq_true, Bool.not_true, Bool.not_false, fIn_ap, fGet_ap, inT_f, inT_t, gtT_s, key_i, isS_s, isS_n, map_none, sum_int, all_b, any_b, isi_int, isi_intb, isi_list, sTry_ap, tryE_ex, tryE_nx, tryE_rt, tryC_nx, tryC_rt, tryC_f, set_ap, setS_l, vDct1_ap, vch_ap, chB_b, chE_t, chE_f, gT_t, gsC_c, gsN_n, gN_ap, q_latch_latch, qn_latch_latch, q_latch_not, qn_latch_not, iw_latch, it_latch, in_latch, q_tie0_latch, qn_tie0_latch, q_tie0_not, qn_tie0_not, iw_tie0, it_tie0, in_tie0, lk_tie0, ct_tie0, la_tie0, l3_tie0, q_tie1_latch, qn_tie1_latch, q_tie1_not, qn_tie1_not, iw_tie1, it_tie1, in_tie1, lk_tie1, ct_tie1, la_tie1, l3_tie1, q_not_latch, qn_not_latch, q_not_not, qn_not_not, iw_not, it_not, in_not, lk_not, ct_not, q_nand2_latch, qn_nand2_latch, q_nand2_not, qn_nand2_not, iw_nand2, it_nand2, in_nand2, lk_nand2, ct_nand2, la_nand2, q_nand3_latch, qn_nand3_latch, q_nand3_not, qn_nand3_not, iw_nand3, it_nand3, in_nand3, lk_nand3, ct_nand3, la_nand3, q_nor2_latch, qn_nor2_latch, q_nor2_not, qn_nor2_not, iw_nor2, it_nor2, in_nor2, lk_nor2, ct_nor2, la_nor2, q_nor3_latch, qn_nor3_latch, q_nor3_not, qn_nor3_not, iw_nor3, it_nor3, in_nor3, lk_nor3, ct_nor3, la_nor3, p_tie_tie, p_tie_nor, p_nan_tie, p_nan_nor, p_nor_tie, p_nor_nor, p_not_tie, p_not_nor, n_0, n_1, n_2, n_3, if_pos, e1, e2, e3, e4, e5, app_int]
theorem la_loop2 (tot b c : Nat) (hb : b ≤ 7) (a w : Int) (hw : w = 0 ∨ w = 1) (p : D) (kv : Option Va) : ∀ (cs : List Cell) (vs st : List Int) (la : Nat) (c7 : Option D), CellsOk vs.length tot cs → nlat cs ≤ st.length → vs.length + cs.length ≤ 100 → B01 vs → st = (cbits b c).drop la →
    ∃ la' c', sForL (gN 7) lb_law_answers_2 (cs.map cellD) [some (.z, p), some (.z, .int c), some (.z, .int a), some (.z, .int w), some (.l .z, L vs), some (.z, .int la), kv, c7.map fun d => (.z, d), none, none, none] = .nx [some (.z, p), some (.z, .int c), some (.z, .int a), some (.z, .int w), some (.l .z, L (vals a w vs cs st)), la', kv, Option.map (fun d => ((.z, d) : Va)) c', none, none, none]
  | [], vs, st, la, c7, _, _, _, _, _ => ⟨_, c7, rfl⟩
  | (kd, sr, nt) :: cs, vs, st, la, c7, h1, h2, h3, h4, h6 => by
    obtain ⟨⟨hk, hla, hga, hsl, hnt⟩, hr⟩ := h1
    dsimp only at hk hla hga hsl hnt
    rw [List.length_cons] at h3
    have ht : gN 7 (cellD (kd, sr, nt)) [some (.z, p), some (.z, .int c), some (.z, .int a), some (.z, .int w), some (.l .z, L vs), some (.z, .int la), kv, c7.map fun d => (.z, d), none, none, none] = some [some (.z, p), some (.z, .int c), some (.z, .int a), some (.z, .int w), some (.l .z, L vs), some (.z, .int la), kv, some (.z, .tuple [.str kd, T sr, .int nt]), none, none, none] := rfl
    rw [List.map_cons]
    unfold sForL
    rw [ht]
    dsimp only
    rw [la_lb, seq_eq]
    by_cases q : kd = S "latch"
    · subst q
      have hn : nlat ((S "latch", sr, nt) :: cs) = nlat cs + 1 := by
        unfold nlat
        rw [List.filter_cons, if_pos (decide_eq_true rfl), List.length_cons]
      cases st with
      | nil => rw [hn] at h2; exact absurd h2 (by simp)
      | cons x st =>
        have hx : (cbits b c)[la]? = some x := by
          have := congrArg (·[0]?) h6
          rw [List.getElem?_drop] at this
          exact this.symm
        have hlb : la < b := by
          have := (List.getElem?_eq_some_iff.mp hx).1
          rwa [cbits_len] at this
        have hxe : x = ((c / 2 ^ la % 2 : Nat) : Int) := by
          unfold cbits at hx
          rw [List.getElem?_map, List.getElem?_range hlb] at hx
          exact (Option.some.inj hx).symm
        rw [laA_latch _ _ _ _ _ _ _ _ _ _ _ x _ _ _ (by omega) (pw1 (by omega)) (pw2 (by omega)) _ _ (dv (by omega)) (dv (by omega)) (mul_ok (.inr (by decide))) (by rw [bit_eq, hxe]), then_nx]
        have hp := la_put (some (.z, p)) (some (.z, .int c)) (some (.z, .int ((la : Int) + 1))) kv none none none none vs x a w nt hnt (T sr) (.str (S "latch"))
        unfold laB
        rw [hp]
        dsimp only
        have e : vals a w vs ((S "latch", sr, nt) :: cs) (x :: st) = vals a w (vs ++ [fav a w nt x]) cs st := by
          rw [vals, if_pos rfl]
          rfl
        rw [e]
        exact la_loop2 tot b c hb a w hw p kv cs _ _ (la + 1) (some _) (by rw [List.length_append]; exact hr) (by rw [hn, List.length_cons] at h2; omega) (by rw [List.length_append, List.length_cons, List.length_nil]; omega) (app01 h4 (fav01 hw (by rw [hxe]; omega))) (by
          have := congrArg List.tail h6
          rw [List.tail_drop] at this
          exact this)
    · have hn : nlat ((kd, sr, nt) :: cs) = nlat cs := by
        unfold nlat
        rw [List.filter_cons, if_neg (by simpa using q)]
      rw [laA_gate _ _ _ _ _ _ _ _ kd _ (gate kd (look vs sr)) _ _ (not_latch hk q) (hga q) hsl (by omega) (law_value_ok kd hk q _ (look01 h4)), then_nx]
      have hp := la_put (some (.z, p)) (some (.z, .int c)) (some (.z, .int (la : Int))) kv none none none none vs (gate kd (look vs sr)) a w nt hnt (T sr) (.str kd)
      unfold laB
      rw [hp]
      dsimp only
      have e : vals a w vs ((kd, sr, nt) :: cs) st = vals a w (vs ++ [fav a w nt (gate kd (look vs sr))]) cs st := by
        rw [vals, if_neg q]
      rw [e]
      exact la_loop2 tot b c hb a w hw p kv cs _ _ la (some _) (by rw [List.length_append]; exact hr) (by omega) (by rw [List.length_append, List.length_cons, List.length_nil]; omega) (app01 h4 (fav01 hw (gate01 ..))) h6
end K09
namespace K09
open PySem PV
theorem la_comp3 (n outs h4 : D) (cs : List Cell) (tot i : Nat) (h : CellsOk i tot cs) (hl : cs.length ≤ 1000) (a1 a2 a3 a4 a5 a6 : Option Va) (c7 : Option D) :
    vComp [7] (iLT (fV (o2 dAt (oF (fN 0)) (oF (fC (.int 1)))))) (gN 7) cc_law_answers_1 ce_law_answers_2 [some (.z, .tuple [n, .tuple (cs.map cellD), outs, h4]), a1, a2, a3, a4, a5, a6, c7.map fun d => (.z, d), none, none, none] = .ok (.l .z, L (nsrc cs)) [some (.z, .tuple [n, .tuple (cs.map cellD), outs, h4]), a1, a2, a3, a4, a5, a6, c7.map fun d => (.z, d), none, none, none] := by
  have e := nsrc_eq tot cs i h
  unfold L
  rw [← e]
  refine comp_ok (ds := cs.map cellD) ?_ (by rw [List.length_map]; omega) ?_ (by cases c7 <;> rfl)
  · generalize cs.map cellD = w at *
    simp only [runD_ap, seq_eq, then_nx, then_rt, then_ex, then_ct, then_bk, sB_ok, sB_ex, bind_ok, bind_ex, of_some, gZ_z, gB_s, gBl_l, gBl_z, gF_s, gM_s, fC_ap, fN_ap, fZ_ap, vMv_ap, fV_ap, vF_ap, oF_f, oF_l, oB_f, oB_l, osN_f, osN_l, osC_f, osC_l, o2_ap, fB_ap, fsN_ap, fsC_ap, fLst_ap, fTup_ap, fMt_ap, mtS_l, mtE_l, bB_b, bV_ap, bBo_b, bF_ap, bO_ap, bNot_ap, bAnd_ap, bOr_ap, vIf_ap, vA_b, vO_b, vAnd_ap, vOr_ap, dNot_b, fNot_ap, dNg_i, fNeg_ap, fPN_ap, dPs_i, fPS_ap, vCut_ap, fIsi_ap, rOut_ok, rOut_ex, fCall_ap, fDct0_ap, dIterL_l, dIterL_t, iLT_ap, iR1_ap, iR2_ap, iEn_ap, iZp_ap, vLR1_ap, sNx_ap, sAsg_ap, sRet_ap, sExp_ap, sIf_ap, sFor_ap, oNx_s, sTgt_ap, fzE_s, sFz_ap, sRaise_ap, res_nx, res_rt, res_ex, st0, List.map_cons, List.map_nil, List.length_cons, List.length_nil, List.replicate_succ, List.replicate_zero, List.cons_append, List.nil_append, List.append_nil, List.getElem?_cons_zero, List.getElem?_cons_succ, List.set_cons_zero, List.set_cons_succ, Option.bind_some, Option.map_some, dTru, at_t0, at_t1, at_t2, at_t3, at_l0, at_l1, at_l2, at_l3, eq_int, ne_int, lt_int, gt_int, le_int, ge_int, add_int, sub_int, int_int, int_bool, len_l, len_t, len_scr, dListOf, dTupOf, decide_eq_true_eq, List.length_map, Nat.reduceAdd, Nat.reduceSub, Nat.reduceLeDiff, Nat.zero_add, if_true, if_false, ↓reduceIte, Bool.false_eq_true, Bool.not_true, Bool.not_false, fIn_ap, fGet_ap, inT_f, inT_t, gtT_s, key_i, isS_s, isS_n, map_none, sum_int, all_b, any_b, isi_int, isi_intb, isi_list, sTry_ap, tryE_ex, tryE_nx, tryE_rt, tryC_nx, tryC_rt, tryC_f, set_ap, setS_l, vDct1_ap, vch_ap, chB_b, chE_t, chE_f, gT_t, gsC_c, gsN_n, gN_ap]
  · have := comp_gen (is := [7]) (t := gN 7) (c := cc_law_answers_1) (fe := ce_law_answers_2) (Γ := [some (.z, .tuple [n, .tuple (cs.map cellD), outs, h4]), a1, a2, a3, a4, a5, a6, none, none, none, none]) sD isL (cs.map cellD) (fun dd hd => by
        obtain ⟨⟨k, sr, nt⟩, hc, rfl⟩ := List.mem_map.mp hd
        have hh := cells_latch h _ hc
        generalize cs.map cellD = w
        refine ⟨_, rfl, ?_, fun q => ?_, rfl⟩
        · unfold cc_law_answers_1
          show bV _ [some (.z, .tuple [n, .tuple w, outs, h4]), a1, a2, a3, a4, a5, a6, some (.z, .tuple [.str k, T sr, .int nt]), none, none, none] = .ok (decide (k = S "latch")) [some (.z, .tuple [n, .tuple w, outs, h4]), a1, a2, a3, a4, a5, a6, some (.z, .tuple [.str k, T sr, .int nt]), none, none, none]
          simp only [runD_ap, seq_eq, then_nx, then_rt, then_ex, then_ct, then_bk, sB_ok, sB_ex, bind_ok, bind_ex, of_some, gZ_z, gB_s, gBl_l, gBl_z, gF_s, gM_s, fC_ap, fN_ap, fZ_ap, vMv_ap, fV_ap, vF_ap, oF_f, oF_l, oB_f, oB_l, osN_f, osN_l, osC_f, osC_l, o2_ap, fB_ap, fsN_ap, fsC_ap, fLst_ap, fTup_ap, fMt_ap, mtS_l, mtE_l, bB_b, bV_ap, bBo_b, bF_ap, bO_ap, bNot_ap, bAnd_ap, bOr_ap, vIf_ap, vA_b, vO_b, vAnd_ap, vOr_ap, dNot_b, fNot_ap, dNg_i, fNeg_ap, fPN_ap, dPs_i, fPS_ap, vCut_ap, fIsi_ap, rOut_ok, rOut_ex, fCall_ap, fDct0_ap, dIterL_l, dIterL_t, iLT_ap, iR1_ap, iR2_ap, iEn_ap, iZp_ap, vLR1_ap, sNx_ap, sAsg_ap, sRet_ap, sExp_ap, sIf_ap, sFor_ap, oNx_s, sTgt_ap, fzE_s, sFz_ap, sRaise_ap, res_nx, res_rt, res_ex, st0, List.map_cons, List.map_nil, List.length_cons, List.length_nil, List.replicate_succ, List.replicate_zero, List.cons_append, List.nil_append, List.append_nil, List.getElem?_cons_zero, List.getElem?_cons_succ, List.set_cons_zero, List.set_cons_succ, Option.bind_some, Option.map_some, dTru, at_t0, at_t1, at_t2, at_t3, at_l0, at_l1, at_l2, at_l3, eq_int, ne_int, lt_int, gt_int, le_int, ge_int, add_int, sub_int, int_int, int_bool, len_l, len_t, len_scr, dListOf, dTupOf, decide_eq_true_eq, List.length_map, Nat.reduceAdd, Nat.reduceSub, Nat.reduceLeDiff, Nat.zero_add, if_true, if_false, ↓reduceIte, Bool.false_eq_true, Bool.not_true, Bool.not_false, fIn_ap, fGet_ap, inT_f, inT_t, gtT_s, key_i, isS_s, isS_n, map_none, sum_int, all_b, any_b, isi_int, isi_intb, isi_list, sTry_ap, tryE_ex, tryE_nx, tryE_rt, tryC_nx, tryC_rt, tryC_f, set_ap, setS_l, vDct1_ap, vch_ap, chB_b, chE_t, chE_f, gT_t, gsC_c, gsN_n, gN_ap, eq_str]
        · obtain ⟨s, es, hs⟩ := hh (of_decide_eq_true q)
          dsimp only at es
          subst es
          unfold ce_law_answers_2
          show fV _ [some (.z, .tuple [n, .tuple w, outs, h4]), a1, a2, a3, a4, a5, a6, some (.z, .tuple [.str k, .tuple [.int s], .int nt]), none, none, none] = .ok (.int s) [some (.z, .tuple [n, .tuple w, outs, h4]), a1, a2, a3, a4, a5, a6, some (.z, .tuple [.str k, .tuple [.int s], .int nt]), none, none, none]
          simp only [runD_ap, seq_eq, then_nx, then_rt, then_ex, then_ct, then_bk, sB_ok, sB_ex, bind_ok, bind_ex, of_some, gZ_z, gB_s, gBl_l, gBl_z, gF_s, gM_s, fC_ap, fN_ap, fZ_ap, vMv_ap, fV_ap, vF_ap, oF_f, oF_l, oB_f, oB_l, osN_f, osN_l, osC_f, osC_l, o2_ap, fB_ap, fsN_ap, fsC_ap, fLst_ap, fTup_ap, fMt_ap, mtS_l, mtE_l, bB_b, bV_ap, bBo_b, bF_ap, bO_ap, bNot_ap, bAnd_ap, bOr_ap, vIf_ap, vA_b, vO_b, vAnd_ap, vOr_ap, dNot_b, fNot_ap, dNg_i, fNeg_ap, fPN_ap, dPs_i, fPS_ap, vCut_ap, fIsi_ap, rOut_ok, rOut_ex, fCall_ap, fDct0_ap, dIterL_l, dIterL_t, iLT_ap, iR1_ap, iR2_ap, iEn_ap, iZp_ap, vLR1_ap, sNx_ap, sAsg_ap, sRet_ap, sExp_ap, sIf_ap, sFor_ap, oNx_s, sTgt_ap, fzE_s, sFz_ap, sRaise_ap, res_nx, res_rt, res_ex, st0, List.map_cons, List.map_nil, List.length_cons, List.length_nil, List.replicate_succ, List.replicate_zero, List.cons_append, List.nil_append, List.append_nil, List.getElem?_cons_zero, List.getElem?_cons_succ, List.set_cons_zero, List.set_cons_succ, Option.bind_some, Option.map_some, dTru, at_t0, at_t1, at_t2, at_t3, at_l0, at_l1, at_l2, at_l3, eq_int, ne_int, lt_int, gt_int, le_int, ge_int, add_int, sub_int, int_int, int_bool, len_l, len_t, len_scr, dListOf, dTupOf, decide_eq_true_eq, List.length_map, Nat.reduceAdd, Nat.reduceSub, Nat.reduceLeDiff, Nat.zero_add, if_true, if_false, ↓reduceIte, Bool.false_eq_true, Bool.not_true, Bool.not_false, fIn_ap, fGet_ap, inT_f, inT_t, gtT_s, key_i, isS_s, isS_n, map_none, sum_int, all_b, any_b, isi_int, isi_intb, isi_list, sTry_ap, tryE_ex, tryE_nx, tryE_rt, tryC_nx, tryC_rt, tryC_f, set_ap, setS_l, vDct1_ap, vch_ap, chB_b, chE_t, chE_f, gT_t, gsC_c, gsN_n, gN_ap])
    rw [filt] at this
    exact this
theorem la_comp4 (a0 a1 a2 a3 a5 a6 a7 : Option Va) (V ends : List Int) (h : ∀ x ∈ ends, 0 ≤ x ∧ x < V.length) (hl : ends.length ≤ 1000) :
    vComp [9] (iLT (fN 8)) (gN 9) bYes ce_law_answers_3 [a0, a1, a2, a3, some (.l .z, L V), a5, a6, a7, some (.z, L ends), none, none] = .ok (.l .z, L (look V ends)) [a0, a1, a2, a3, some (.l .z, L V), a5, a6, a7, some (.z, L ends), none, none] := by
  have e0 : L (look V ends) = .list (ends.map fun x => .int (V.getD x.toNat 0)) := by
    unfold L look
    rw [List.map_map]
    rfl
  rw [e0]
  refine comp_ok (ds := ends.map .int) ?_ (by rw [List.length_map]; omega) ?_ rfl
  · simp only [runD_ap, seq_eq, then_nx, then_rt, then_ex, then_ct, then_bk, sB_ok, sB_ex, bind_ok, bind_ex, of_some, gZ_z, gB_s, gBl_l, gBl_z, gF_s, gM_s, fC_ap, fN_ap, fZ_ap, vMv_ap, fV_ap, vF_ap, oF_f, oF_l, oB_f, oB_l, osN_f, osN_l, osC_f, osC_l, o2_ap, fB_ap, fsN_ap, fsC_ap, fLst_ap, fTup_ap, fMt_ap, mtS_l, mtE_l, bB_b, bV_ap, bBo_b, bF_ap, bO_ap, bNot_ap, bAnd_ap, bOr_ap, vIf_ap, vA_b, vO_b, vAnd_ap, vOr_ap, dNot_b, fNot_ap, dNg_i, fNeg_ap, fPN_ap, dPs_i, fPS_ap, vCut_ap, fIsi_ap, rOut_ok, rOut_ex, fCall_ap, fDct0_ap, dIterL_l, dIterL_t, iLT_ap, iR1_ap, iR2_ap, iEn_ap, iZp_ap, vLR1_ap, sNx_ap, sAsg_ap, sRet_ap, sExp_ap, sIf_ap, sFor_ap, oNx_s, sTgt_ap, fzE_s, sFz_ap, sRaise_ap, res_nx, res_rt, res_ex, st0, List.map_cons, List.map_nil, List.length_cons, List.length_nil, List.replicate_succ, List.replicate_zero, List.cons_append, List.nil_append, List.append_nil, List.getElem?_cons_zero, List.getElem?_cons_succ, List.set_cons_zero, List.set_cons_succ, Option.bind_some, Option.map_some, dTru, at_t0, at_t1, at_t2, at_t3, at_l0, at_l1, at_l2, at_l3, eq_int, ne_int, lt_int, gt_int, le_int, ge_int, add_int, sub_int, int_int, int_bool, len_l, len_t, len_scr, dListOf, dTupOf, decide_eq_true_eq, List.length_map, Nat.reduceAdd, Nat.reduceSub, Nat.reduceLeDiff, Nat.zero_add, if_true, if_false, ↓reduceIte, Bool.false_eq_true, Bool.not_true, Bool.not_false, fIn_ap, fGet_ap, inT_f, inT_t, gtT_s, key_i, isS_s, isS_n, map_none, sum_int, all_b, any_b, isi_int, isi_intb, isi_list, sTry_ap, tryE_ex, tryE_nx, tryE_rt, tryC_nx, tryC_rt, tryC_f, set_ap, setS_l, vDct1_ap, vch_ap, chB_b, chE_t, chE_f, gT_t, gsC_c, gsN_n, gN_ap]
  · refine comp_ints (fun x => .int (V.getD x.toNat 0)) ends rfl (fun _ _ => rfl) fun x hx => ?_
    have := getD_at (h x hx)
    unfold ce_law_answers_3
    simp only [runD_ap, seq_eq, then_nx, then_rt, then_ex, then_ct, then_bk, sB_ok, sB_ex, bind_ok, bind_ex, of_some, gZ_z, gB_s, gBl_l, gBl_z, gF_s, gM_s, fC_ap, fN_ap, fZ_ap, vMv_ap, fV_ap, vF_ap, oF_f, oF_l, oB_f, oB_l, osN_f, osN_l, osC_f, osC_l, o2_ap, fB_ap, fsN_ap, fsC_ap, fLst_ap, fTup_ap, fMt_ap, mtS_l, mtE_l, bB_b, bV_ap, bBo_b, bF_ap, bO_ap, bNot_ap, bAnd_ap, bOr_ap, vIf_ap, vA_b, vO_b, vAnd_ap, vOr_ap, dNot_b, fNot_ap, dNg_i, fNeg_ap, fPN_ap, dPs_i, fPS_ap, vCut_ap, fIsi_ap, rOut_ok, rOut_ex, fCall_ap, fDct0_ap, dIterL_l, dIterL_t, iLT_ap, iR1_ap, iR2_ap, iEn_ap, iZp_ap, vLR1_ap, sNx_ap, sAsg_ap, sRet_ap, sExp_ap, sIf_ap, sFor_ap, oNx_s, sTgt_ap, fzE_s, sFz_ap, sRaise_ap, res_nx, res_rt, res_ex, st0, List.map_cons, List.map_nil, List.length_cons, List.length_nil, List.replicate_succ, List.replicate_zero, List.cons_append, List.nil_append, List.append_nil, List.getElem?_cons_zero, List.getElem?_cons_succ, List.set_cons_zero, List.set_cons_succ, Option.bind_some, Option.map_some, dTru, at_t0, at_t1, at_t2, at_t3, at_l0, at_l1, at_l2, at_l3, eq_int, ne_int, lt_int, gt_int, le_int, ge_int, add_int, sub_int, int_int, int_bool, len_l, len_t, len_scr, dListOf, dTupOf, decide_eq_true_eq, List.length_map, Nat.reduceAdd, Nat.reduceSub, Nat.reduceLeDiff, Nat.zero_add, if_true, if_false, ↓reduceIte, Bool.false_eq_true, Bool.not_true, Bool.not_false, fIn_ap, fGet_ap, inT_f, inT_t, gtT_s, key_i, isS_s, isS_n, map_none, sum_int, all_b, any_b, isi_int, isi_intb, isi_list, sTry_ap, tryE_ex, tryE_nx, tryE_rt, tryC_nx, tryC_rt, tryC_f, set_ap, setS_l, vDct1_ap, vch_ap, chB_b, chE_t, chE_f, gT_t, gsC_c, gsN_n, gN_ap, wipeG, this]
theorem la_set (a0 a1 a6 a7 a8 a9 a10 : Option Va) (vs : List Int) (a w : Int) (n : Nat) (hn : vs.length = n) :
    sIf (bAnd (bV (o2 dGe (oF (fN 2)) (oF (fC (.int 0))))) (bV (o2 dLt (oF (fN 2)) (oF (fN 5))))) (sSet 4 (fN 3) (fN 2)) sNx [a0, a1, some (.z, .int a), some (.z, .int w), some (.l .z, L vs), some (.z, .int n), a6, a7, a8, a9, a10] = .nx [a0, a1, some (.z, .int a), some (.z, .int w), some (.l .z, L (ini a w vs)), some (.z, .int n), a6, a7, a8, a9, a10] := by
  rw [ini_set]
  by_cases h0 : 0 ≤ a
  · by_cases h1 : a < n
    · have hx : L2.ixN (vs.map PyData.int).length a = some a.toNat := by
        unfold L2.ixN
        rw [List.length_map, if_pos h0, if_pos (by omega)]
      have hs : (vs.map PyData.int).set a.toNat (.int w) = (vs.set a.toNat w).map .int := by rw [← List.map_set]
      rw [if_pos ⟨h0, by omega⟩]
      simp only [runD_ap, seq_eq, then_nx, then_rt, then_ex, then_ct, then_bk, sB_ok, sB_ex, bind_ok, bind_ex, of_some, gZ_z, gB_s, gBl_l, gBl_z, gF_s, gM_s, fC_ap, fN_ap, fZ_ap, vMv_ap, fV_ap, vF_ap, oF_f, oF_l, oB_f, oB_l, osN_f, osN_l, osC_f, osC_l, o2_ap, fB_ap, fsN_ap, fsC_ap, fLst_ap, fTup_ap, fMt_ap, mtS_l, mtE_l, bB_b, bV_ap, bBo_b, bF_ap, bO_ap, bNot_ap, bAnd_ap, bOr_ap, vIf_ap, vA_b, vO_b, vAnd_ap, vOr_ap, dNot_b, fNot_ap, dNg_i, fNeg_ap, fPN_ap, dPs_i, fPS_ap, vCut_ap, fIsi_ap, rOut_ok, rOut_ex, fCall_ap, fDct0_ap, dIterL_l, dIterL_t, iLT_ap, iR1_ap, iR2_ap, iEn_ap, iZp_ap, vLR1_ap, sNx_ap, sAsg_ap, sRet_ap, sExp_ap, sIf_ap, sFor_ap, oNx_s, sTgt_ap, fzE_s, sFz_ap, sRaise_ap, res_nx, res_rt, res_ex, st0, List.map_cons, List.map_nil, List.length_cons, List.length_nil, List.replicate_succ, List.replicate_zero, List.cons_append, List.nil_append, List.append_nil, List.getElem?_cons_zero, List.getElem?_cons_succ, List.set_cons_zero, List.set_cons_succ, Option.bind_some, Option.map_some, dTru, at_t0, at_t1, at_t2, at_t3, at_l0, at_l1, at_l2, at_l3, eq_int, ne_int, lt_int, gt_int, le_int, ge_int, add_int, sub_int, int_int, int_bool, len_l, len_t, len_scr, dListOf, dTupOf, decide_eq_true_eq, List.length_map, Nat.reduceAdd, Nat.reduceSub, Nat.reduceLeDiff, Nat.zero_add, if_true, if_false, ↓reduceIte, Bool.false_eq_true, Bool.not_true, Bool.not_false, fIn_ap, fGet_ap, inT_f, inT_t, gtT_s, key_i, isS_s, isS_n, map_none, sum_int, all_b, any_b, isi_int, isi_intb, isi_list, sTry_ap, tryE_ex, tryE_nx, tryE_rt, tryC_nx, tryC_rt, tryC_f, set_ap, setS_l, vDct1_ap, vch_ap, chB_b, chE_t, chE_f, gT_t, gsC_c, gsN_n, gN_ap, decide_eq_true h0, decide_eq_true h1, setE_l hx, hs]
    · rw [if_neg (fun z => h1 (by omega))]
      simp only [runD_ap, seq_eq, then_nx, then_rt, then_ex, then_ct, then_bk, sB_ok, sB_ex, bind_ok, bind_ex, of_some, gZ_z, gB_s, gBl_l, gBl_z, gF_s, gM_s, fC_ap, fN_ap, fZ_ap, vMv_ap, fV_ap, vF_ap, oF_f, oF_l, oB_f, oB_l, osN_f, osN_l, osC_f, osC_l, o2_ap, fB_ap, fsN_ap, fsC_ap, fLst_ap, fTup_ap, fMt_ap, mtS_l, mtE_l, bB_b, bV_ap, bBo_b, bF_ap, bO_ap, bNot_ap, bAnd_ap, bOr_ap, vIf_ap, vA_b, vO_b, vAnd_ap, vOr_ap, dNot_b, fNot_ap, dNg_i, fNeg_ap, fPN_ap, dPs_i, fPS_ap, vCut_ap, fIsi_ap, rOut_ok, rOut_ex, fCall_ap, fDct0_ap, dIterL_l, dIterL_t, iLT_ap, iR1_ap, iR2_ap, iEn_ap, iZp_ap, vLR1_ap, sNx_ap, sAsg_ap, sRet_ap, sExp_ap, sIf_ap, sFor_ap, oNx_s, sTgt_ap, fzE_s, sFz_ap, sRaise_ap, res_nx, res_rt, res_ex, st0, List.map_cons, List.map_nil, List.length_cons, List.length_nil, List.replicate_succ, List.replicate_zero, List.cons_append, List.nil_append, List.append_nil, List.getElem?_cons_zero, List.getElem?_cons_succ, List.set_cons_zero, List.set_cons_succ, Option.bind_some, Option.map_some, dTru, at_t0, at_t1, at_t2, at_t3, at_l0, at_l1, at_l2, at_l3, eq_int, ne_int, lt_int, gt_int, le_int, ge_int, add_int, sub_int, int_int, int_bool, len_l, len_t, len_scr, dListOf, dTupOf, decide_eq_true_eq, List.length_map, Nat.reduceAdd, Nat.reduceSub, Nat.reduceLeDiff, Nat.zero_add, if_true, if_false, ↓reduceIte, Bool.false_eq_true, Bool.not_true, Bool.not_false, fIn_ap, fGet_ap, inT_f, inT_t, gtT_s, key_i, isS_s, isS_n, map_none, sum_int, all_b, any_b, isi_int, isi_intb, isi_list, sTry_ap, tryE_ex, tryE_nx, tryE_rt, tryC_nx, tryC_rt, tryC_f, set_ap, setS_l, vDct1_ap, vch_ap, chB_b, chE_t, chE_f, gT_t, gsC_c, gsN_n, gN_ap, decide_eq_true h0, decide_eq_false h1]
  · rw [if_neg (fun z => h0 z.1)]
    simp only [runD_ap, seq_eq, then_nx, then_rt, then_ex, then_ct, then_bk, sB_ok, sB_ex, bind_ok, bind_ex, of_some, gZ_z, gB_s, gBl_l, gBl_z, gF_s, gM_s, fC_ap, fN_ap, fZ_ap, vMv_ap, fV_ap, vF_ap, oF_f, oF_l, oB_f, oB_l, osN_f, osN_l, osC_f, osC_l, o2_ap, fB_ap, fsN_ap, fsC_ap, fLst_ap, fTup_ap, fMt_ap, mtS_l, mtE_l, bB_b, bV_ap, bBo_b, bF_ap, bO_ap, bNot_ap, bAnd_ap, bOr_ap, vIf_ap, vA_b, vO_b, vAnd_ap, vOr_ap, dNot_b, fNot_ap, dNg_i, fNeg_ap, fPN_ap, dPs_i, fPS_ap, vCut_ap, fIsi_ap, rOut_ok, rOut_ex, fCall_ap, fDct0_ap, dIterL_l, dIterL_t, iLT_ap, iR1_ap, iR2_ap, iEn_ap, iZp_ap, vLR1_ap, sNx_ap, sAsg_ap, sRet_ap, sExp_ap, sIf_ap, sFor_ap, oNx_s, sTgt_ap, fzE_s, sFz_ap, sRaise_ap, res_nx, res_rt, res_ex, st0, List.map_cons, List.map_nil, List.length_cons, List.length_nil, List.replicate_succ, List.replicate_zero, List.cons_append, List.nil_append, List.append_nil, List.getElem?_cons_zero, List.getElem?_cons_succ, List.set_cons_zero, List.set_cons_succ, Option.bind_some, Option.map_some, dTru, at_t0, at_t1, at_t2, at_t3, at_l0, at_l1, at_l2, at_l3, eq_int, ne_int, lt_int, gt_int, le_int, ge_int, add_int, sub_int, int_int, int_bool, len_l, len_t, len_scr, dListOf, dTupOf, decide_eq_true_eq, List.length_map, Nat.reduceAdd, Nat.reduceSub, Nat.reduceLeDiff, Nat.zero_add, if_true, if_false, ↓reduceIte, Bool.false_eq_true, Bool.not_true, Bool.not_false, fIn_ap, fGet_ap, inT_f, inT_t, gtT_s, key_i, isS_s, isS_n, map_none, sum_int, all_b, any_b, isi_int, isi_intb, isi_list, sTry_ap, tryE_ex, tryE_nx, tryE_rt, tryC_nx, tryC_rt, tryC_f, set_ap, setS_l, vDct1_ap, vch_ap, chB_b, chE_t, chE_f, gT_t, gsC_c, gsN_n, gN_ap, decide_eq_false h0]
theorem law_answers_ev (w' h4 : D) (c a w : Int) (n : Nat) (outs src ins V : List Int) (la' kv : Option Va) (c7 : Option D) (hin : ins.length = n) (hn : n ≤ 1000) (ho : outs.length + src.length ≤ 1000) (hb : ∀ x ∈ outs ++ src, 0 ≤ x ∧ x < V.length)
    (e1 : sForL (gN 6) lb_law_answers_1 (rangeL 0 n) [some (.z, .tuple [.int n, w', T outs, h4]), some (.z, .int c), some (.z, .int a), some (.z, .int w), some (.l .z, .list []), some (.z, .int n), none, none, none, none, none] = .nx [some (.z, .tuple [.int n, w', T outs, h4]), some (.z, .int c), some (.z, .int a), some (.z, .int w), some (.l .z, L ins), some (.z, .int n), kv, none, none, none, none])
    (ws : List D) (hw : w' = .tuple ws)
    (e2 : sForL (gN 7) lb_law_answers_2 ws [some (.z, .tuple [.int n, w', T outs, h4]), some (.z, .int c), some (.z, .int a), some (.z, .int w), some (.l .z, L (ini a w ins)), some (.z, .int n), kv, none, none, none, none] = .nx [some (.z, .tuple [.int n, w', T outs, h4]), some (.z, .int c), some (.z, .int a), some (.z, .int w), some (.l .z, L V), la', kv, c7.map fun d => (.z, d), none, none, none])
    (e3 : vComp [7] (iLT (fV (o2 dAt (oF (fN 0)) (oF (fC (.int 1)))))) (gN 7) cc_law_answers_1 ce_law_answers_2 [some (.z, .tuple [.int n, w', T outs, h4]), some (.z, .int c), some (.z, .int a), some (.z, .int w), some (.l .z, L V), la', kv, c7.map fun d => (.z, d), none, none, none] = .ok (.l .z, L src) [some (.z, .tuple [.int n, w', T outs, h4]), some (.z, .int c), some (.z, .int a), some (.z, .int w), some (.l .z, L V), la', kv, c7.map fun d => (.z, d), none, none, none]) :
    F_law_answers [.tuple [.int n, w', T outs, h4], .int c, .int a, .int w] = .ok (.l .z, L (look V (outs ++ src))) := by
  subst hw
  have e4 := la_comp4 (some (.z, .tuple [.int n, .tuple ws, T outs, h4])) (some (.z, .int c)) (some (.z, .int a)) (some (.z, .int w)) la' kv (c7.map fun d => (.z, d)) V (outs ++ src) hb (by rw [List.length_append]; exact ho)
  have e5 : dAdd (.list (outs.map .int)) (.list (src.map .int)) = some (.l .z, .list ((outs ++ src).map .int)) := by
    rw [cat_l (by rw [List.length_map, List.length_map]; omega), List.map_append]
  have e6 := la_set (some (.z, .tuple [.int n, .tuple ws, T outs, h4])) (some (.z, .int c)) kv none none none none ins a w n hin
  generalize look V (outs ++ src) = z at *
  generalize outs ++ src = ends at *
  generalize ini a w ins = ii at *
  generalize (c7.map fun d => ((.z, d) : Va)) = c7' at *
  generalize hX : sIf (bAnd (bV (o2 dGe (oF (fN 2)) (oF (fC (.int 0))))) (bV (o2 dLt (oF (fN 2)) (oF (fN 5))))) (sSet 4 (fN 3) (fN 2)) sNx = X at *
  unfold F_law_answers fb_law_answers
  rw [hX]
  simp (disch := omega) only [runD_ap, seq_eq, then_nx, then_rt, then_ex, then_ct, then_bk, sB_ok, sB_ex, bind_ok, bind_ex, of_some, gZ_z, gB_s, gBl_l, gBl_z, gF_s, gM_s, fC_ap, fN_ap, fZ_ap, vMv_ap, fV_ap, vF_ap, oF_f, oF_l, oB_f, oB_l, osN_f, osN_l, osC_f, osC_l, o2_ap, fB_ap, fsN_ap, fsC_ap, fLst_ap, fTup_ap, fMt_ap, mtS_l, mtE_l, bB_b, bV_ap, bBo_b, bF_ap, bO_ap, bNot_ap, bAnd_ap, bOr_ap, vIf_ap, vA_b, vO_b, vAnd_ap, vOr_ap, dNot_b, fNot_ap, dNg_i, fNeg_ap, fPN_ap, dPs_i, fPS_ap, vCut_ap, fIsi_ap, rOut_ok, rOut_ex, fCall_ap, fDct0_ap, dIterL_l, dIterL_t, iLT_ap, iR1_ap, iR2_ap, iEn_ap, iZp_ap, vLR1_ap, sNx_ap, sAsg_ap, sRet_ap, sExp_ap, sIf_ap, sFor_ap, oNx_s, sTgt_ap, fzE_s, sFz_ap, sRaise_ap, res_nx, res_rt, res_ex, st0, List.map_cons, List.map_nil, List.length_cons, List.length_nil, List.replicate_succ, List.replicate_zero, List.cons_append, List.nil_append, List.append_nil, List.getElem?_cons_zero, List.getElem?_cons_succ, List.set_cons_zero, List.set_cons_succ, Option.bind_some, Option.map_some, dTru, at_t0, at_t1, at_t2, at_t3, at_l0, at_l1, at_l2, at_l3, eq_int, ne_int, lt_int, gt_int, le_int, ge_int, add_int, sub_int, int_int, int_bool, len_l, len_t, len_scr, dListOf, dTupOf, decide_eq_true_eq, List.length_map, Nat.reduceAdd, Nat.reduceSub, Nat.reduceLeDiff, Nat.zero_add, if_true, if_false, ↓reduceIte, Bool.false_eq_true, Bool.not_true, Bool.not_false, fIn_ap, fGet_ap, inT_f, inT_t, gtT_s, key_i, isS_s, isS_n, map_none, sum_int, all_b, any_b, isi_int, isi_intb, isi_list, sTry_ap, tryE_ex, tryE_nx, tryE_rt, tryC_nx, tryC_rt, tryC_f, set_ap, setS_l, vDct1_ap, vch_ap, chB_b, chE_t, chE_f, gT_t, gsC_c, gsN_n, gN_ap, if_pos, Int.toNat_natCast, e1, e6, e2, e3, e4, e5]
/-- the two answers are one -/
def ans (a w : Int) (n b c : Nat) (cs : List Cell) (outs : List Int) : List Int := look (vals a w (ini a w (cbits n c)) cs ((cbits b c).drop n)) (outs ++ nsrc cs)
theorem cbits_take {n b : Nat} (h : n ≤ b) (c : Nat) : (cbits b c).take n = cbits n c := by
  unfold cbits
  rw [← List.map_take, List.take_range, Nat.min_eq_left h]
theorem law_answers_ok (h4 : D) (c n : Nat) (a w : Int) (hw : w = 0 ∨ w = 1) (cs : List Cell) (outs : List Int) (h1 : CellsOk n (n + cs.length) cs) (hn : n ≤ 3) (hla : nlat cs ≤ 4) (hc : cs.length ≤ 40) (ho : outs.length ≤ 10) (hos : ∀ x ∈ outs, 0 ≤ x ∧ x < n + cs.length) :
    F_law_answers [.tuple [.int n, .tuple (cs.map cellD), T outs, h4], .int c, .int a, .int w] = .ok (.l .z, L (ans a w n (n + nlat cs) c cs outs)) := by
  obtain ⟨kv, e1⟩ := la_loop1 (.tuple [.int n, .tuple (cs.map cellD), T outs, h4]) c n (by omega) (.int a) (.int w)
  have hst : ((cbits (n + nlat cs) c).drop n).length = nlat cs := by rw [List.length_drop, cbits_len]; omega
  have hi : (ini a w (cbits n c)).length = n := by rw [ini_len, cbits_len]
  have hi01 : B01 (ini a w (cbits n c)) := by
    intro x hx
    unfold ini at hx
    obtain ⟨p, hp, rfl⟩ := List.mem_map.mp hx
    have h2 := (List.mem_zipIdx hp).2.2
    exact fav01 hw (cbits01 n c _ (h2 ▸ List.getElem_mem _))
  obtain ⟨la', c', e2⟩ := la_loop2 (n + cs.length) (n + nlat cs) c (by omega) a w hw (.tuple [.int n, .tuple (cs.map cellD), T outs, h4]) kv cs (ini a w (cbits n c)) ((cbits (n + nlat cs) c).drop n) n none (by rw [hi]; exact h1) (by omega) (by omega) hi01 rfl
  have hV : (vals a w (ini a w (cbits n c)) cs ((cbits (n + nlat cs) c).drop n)).length = n + cs.length := by rw [vals_len, hi]
  have hsrc : (nsrc cs).length = nlat cs := List.length_map _
  have hb : ∀ x ∈ outs ++ nsrc cs, 0 ≤ x ∧ x < ((vals a w (ini a w (cbits n c)) cs ((cbits (n + nlat cs) c).drop n)).length : Int) := by
    intro x hx
    rw [hV]
    rcases List.mem_append.mp hx with hx | hx
    · have := hos x hx; omega
    · unfold nsrc at hx
      obtain ⟨c0, hc0, rfl⟩ := List.mem_map.mp hx
      obtain ⟨hm, hq⟩ := List.mem_filter.mp hc0
      obtain ⟨s, es, h0, hs⟩ := cells_latch h1 c0 hm (of_decide_eq_true hq)
      rw [es]
      exact ⟨h0, by show s < _; omega⟩
  exact law_answers_ev (.tuple (cs.map cellD)) h4 c a w n outs (nsrc cs) (cbits n c) _ la' kv c' (cbits_len ..) (by omega) (by omega) hb e1 (cs.map cellD) rfl e2 (la_comp3 _ _ _ cs _ _ h1 (by omega) _ _ _ _ _ _ c')
theorem answers_ok (h4 : D) (c n : Nat) (a w : Int) (rs : List (D × D)) (hr : RsOk rs a w) (hw : w = 0 ∨ w = 1) (cs : List Cell) (outs : List Int) (h1 : CellsOk n (n + cs.length) cs) (hn : n ≤ 3) (hla : nlat cs ≤ 4) (hcl : cs.length ≤ 30) (ho : outs.length ≤ 10) (hos : ∀ x ∈ outs, 0 ≤ x ∧ x < n + cs.length) (hc : c < 2 ^ (n + nlat cs)) :
    F_answers [.tuple [.int n, .tuple (cs.map cellD), T outs, h4], .int c, .dict rs] = .ok (.l .z, L (ans a w n (n + nlat cs) c cs outs)) := by
  have e0 := case_count_ok (T outs) h4 n cs hcl (by omega) (by omega)
  have eb := bit_count_ok (.int n) (T outs) h4 n rfl cs (by omega)
  rw [show ((n : Int) + (nlat cs : Nat)) = ((n + nlat cs : Nat) : Int) by omega] at eb
  have ec := cb_comp (.tuple [.int n, .tuple (cs.map cellD), T outs, h4]) c (n + nlat cs) (by omega) eb
  have e1 := case_bits_ev (.int n) (.tuple (cs.map cellD)) (T outs) h4 n c (n + nlat cs) (2 ^ (n + nlat cs)) (cbits n c) ((cbits (n + nlat cs) c).drop n) rfl e0 hc (cbits (n + nlat cs) c) (cbits_len ..) (by omega) ec (by rw [← List.map_take, cbits_take (by omega)]) (by rw [← List.map_drop])
  have hi : (ini a w (cbits n c)).length = n := by rw [ini_len, cbits_len]
  have e2 := settled_ok (.int n) h4 (T outs) (n + cs.length) cs (cbits n c) ((cbits (n + nlat cs) c).drop n) a w rs hr (by rw [cbits_len]; exact h1) (by rw [List.length_drop, cbits_len]; omega) (by rw [cbits_len]; omega)
  have hV : (vals a w (ini a w (cbits n c)) cs ((cbits (n + nlat cs) c).drop n)).length = n + cs.length := by rw [vals_len, hi]
  have hsrc : (nsrc cs).length = nlat cs := List.length_map _
  have hb : ∀ x ∈ outs ++ nsrc cs, 0 ≤ x ∧ x < ((vals a w (ini a w (cbits n c)) cs ((cbits (n + nlat cs) c).drop n)).length : Int) := by
    intro x hx
    rw [hV]
    rcases List.mem_append.mp hx with hx | hx
    · have := hos x hx; omega
    · unfold nsrc at hx
      obtain ⟨c0, hc0, rfl⟩ := List.mem_map.mp hx
      obtain ⟨hm, hq⟩ := List.mem_filter.mp hc0
      obtain ⟨s, es, h0, hs⟩ := cells_latch h1 c0 hm (of_decide_eq_true hq)
      rw [es]
      exact ⟨h0, by show s < _; omega⟩
  exact answers_ev (.int n) (.tuple (cs.map cellD)) h4 (.dict rs) c outs (nsrc cs) _ _ _ (by omega) hb e1 e2 (fun a b c d e f => an_comp1 _ _ _ cs _ _ h1 (by omega) a b c d e f)
end K09
namespace K09
open PySem PV
abbrev circ (n : Int) (cs : List Cell) (outs : List Int) (h4 : D) : D := .tuple [.int n, .tuple (cs.map cellD), T outs, h4]
structure WF (d : D) (n : Nat) (cs : List Cell) (outs : List Int) (h4 : List D) : Prop where
  eq : d = circ n cs outs (.tuple h4)
  n6 : n ≤ 3
  ok : CellsOk n (n + cs.length) cs
  l4 : nlat cs ≤ 2
  h4 : h4.length = nlat cs
  c40 : cs.length ≤ 8
  o10 : outs.length ≤ 10
  os : ∀ x ∈ outs, 0 ≤ x ∧ x < n + cs.length
theorem bare_comp (a : Option Va) (n : Int) (w h4 : D) (outs : List Int) (hn : 0 < n) (hl : outs.length ≤ 1000) :
    vComp [2] (iLT (fV (o2 dAt (oF (fN 1)) (oF (fC (.int 2)))))) (gN 2) bYes ce_law_bare_1 [a, some (.z, .tuple [.int n, w, T outs, h4]), none] = .ok (.l .z, L (outs.map (· % n))) [a, some (.z, .tuple [.int n, w, T outs, h4]), none] := by
  have e : L (outs.map (· % n)) = .list (outs.map fun x => .int (x % n)) := by
    unfold L
    rw [List.map_map]
    rfl
  rw [e]
  refine comp_ok (ds := outs.map .int) ?_ (by rw [List.length_map]; omega) ?_ rfl
  · simp only [runD_ap, seq_eq, then_nx, then_rt, then_ex, then_ct, then_bk, sB_ok, sB_ex, bind_ok, bind_ex, of_some, gZ_z, gB_s, gBl_l, gBl_z, gF_s, gM_s, fC_ap, fN_ap, fZ_ap, vMv_ap, fV_ap, vF_ap, oF_f, oF_l, oB_f, oB_l, osN_f, osN_l, osC_f, osC_l, o2_ap, fB_ap, fsN_ap, fsC_ap, fLst_ap, fTup_ap, fMt_ap, mtS_l, mtE_l, bB_b, bV_ap, bBo_b, bF_ap, bO_ap, bNot_ap, bAnd_ap, bOr_ap, vIf_ap, vA_b, vO_b, vAnd_ap, vOr_ap, dNot_b, fNot_ap, dNg_i, fNeg_ap, fPN_ap, dPs_i, fPS_ap, vCut_ap, fIsi_ap, rOut_ok, rOut_ex, fCall_ap, fDct0_ap, dIterL_l, dIterL_t, iLT_ap, iR1_ap, iR2_ap, iEn_ap, iZp_ap, vLR1_ap, sNx_ap, sAsg_ap, sRet_ap, sExp_ap, sIf_ap, sFor_ap, oNx_s, sTgt_ap, fzE_s, sFz_ap, sRaise_ap, res_nx, res_rt, res_ex, st0, List.map_cons, List.map_nil, List.length_cons, List.length_nil, List.replicate_succ, List.replicate_zero, List.cons_append, List.nil_append, List.append_nil, List.getElem?_cons_zero, List.getElem?_cons_succ, List.set_cons_zero, List.set_cons_succ, Option.bind_some, Option.map_some, dTru, at_t0, at_t1, at_t2, at_t3, at_l0, at_l1, at_l2, at_l3, eq_int, ne_int, lt_int, gt_int, le_int, ge_int, add_int, sub_int, int_int, int_bool, len_l, len_t, len_scr, dListOf, dTupOf, decide_eq_true_eq, List.length_map, Nat.reduceAdd, Nat.reduceSub, Nat.reduceLeDiff, Nat.zero_add, if_true, if_false, ↓reduceIte, Bool.false_eq_true, Bool.not_true, Bool.not_false, fIn_ap, fGet_ap, inT_f, inT_t, gtT_s, key_i, isS_s, isS_n, map_none, sum_int, all_b, any_b, isi_int, isi_intb, isi_list, sTry_ap, tryE_ex, tryE_nx, tryE_rt, tryC_nx, tryC_rt, tryC_f, set_ap, setS_l, vDct1_ap, vch_ap, chB_b, chE_t, chE_f]
  · refine comp_ints (fun x => .int (x % n)) outs rfl (fun _ _ => rfl) fun x hx => ?_
    unfold ce_law_bare_1
    simp (disch := omega) only [runD_ap, seq_eq, then_nx, then_rt, then_ex, then_ct, then_bk, sB_ok, sB_ex, bind_ok, bind_ex, of_some, gZ_z, gB_s, gBl_l, gBl_z, gF_s, gM_s, fC_ap, fN_ap, fZ_ap, vMv_ap, fV_ap, vF_ap, oF_f, oF_l, oB_f, oB_l, osN_f, osN_l, osC_f, osC_l, o2_ap, fB_ap, fsN_ap, fsC_ap, fLst_ap, fTup_ap, fMt_ap, mtS_l, mtE_l, bB_b, bV_ap, bBo_b, bF_ap, bO_ap, bNot_ap, bAnd_ap, bOr_ap, vIf_ap, vA_b, vO_b, vAnd_ap, vOr_ap, dNot_b, fNot_ap, dNg_i, fNeg_ap, fPN_ap, dPs_i, fPS_ap, vCut_ap, fIsi_ap, rOut_ok, rOut_ex, fCall_ap, fDct0_ap, dIterL_l, dIterL_t, iLT_ap, iR1_ap, iR2_ap, iEn_ap, iZp_ap, vLR1_ap, sNx_ap, sAsg_ap, sRet_ap, sExp_ap, sIf_ap, sFor_ap, oNx_s, sTgt_ap, fzE_s, sFz_ap, sRaise_ap, res_nx, res_rt, res_ex, st0, List.map_cons, List.map_nil, List.length_cons, List.length_nil, List.replicate_succ, List.replicate_zero, List.cons_append, List.nil_append, List.append_nil, List.getElem?_cons_zero, List.getElem?_cons_succ, List.set_cons_zero, List.set_cons_succ, Option.bind_some, Option.map_some, dTru, at_t0, at_t1, at_t2, at_t3, at_l0, at_l1, at_l2, at_l3, eq_int, ne_int, lt_int, gt_int, le_int, ge_int, add_int, sub_int, int_int, int_bool, len_l, len_t, len_scr, dListOf, dTupOf, decide_eq_true_eq, List.length_map, Nat.reduceAdd, Nat.reduceSub, Nat.reduceLeDiff, Nat.zero_add, if_true, if_false, ↓reduceIte, Bool.false_eq_true, Bool.not_true, Bool.not_false, fIn_ap, fGet_ap, inT_f, inT_t, gtT_s, key_i, isS_s, isS_n, map_none, sum_int, all_b, any_b, isi_int, isi_intb, isi_list, sTry_ap, tryE_ex, tryE_nx, tryE_rt, tryC_nx, tryC_rt, tryC_f, set_ap, setS_l, vDct1_ap, vch_ap, chB_b, chE_t, chE_f, wipeG, mod_ok]
theorem bare_ev (s : D) (n x : Int) (w h4 : D) (outs : List Int) (hn : 0 ≤ n) (hl : outs.length ≤ 1000) (hc : F_law_cell [s, .int 2] = .ok (.z, .int x)) :
    F_law_bare [s, .tuple [.int n, w, T outs, h4]] = .ok (.z, if n = 0 ∨ x % 8 ≠ 5 then .tuple [.int n, w, T outs, h4] else .tuple [.int n, .tuple [], T (outs.map (· % n)), .tuple []]) := by
  unfold F_law_bare fb_law_bare
  by_cases c0 : n = 0
  · simp (disch := omega) only [runD_ap, seq_eq, then_nx, then_rt, then_ex, then_ct, then_bk, sB_ok, sB_ex, bind_ok, bind_ex, of_some, gZ_z, gB_s, gBl_l, gBl_z, gF_s, gM_s, fC_ap, fN_ap, fZ_ap, vMv_ap, fV_ap, vF_ap, oF_f, oF_l, oB_f, oB_l, osN_f, osN_l, osC_f, osC_l, o2_ap, fB_ap, fsN_ap, fsC_ap, fLst_ap, fTup_ap, fMt_ap, mtS_l, mtE_l, bB_b, bV_ap, bBo_b, bF_ap, bO_ap, bNot_ap, bAnd_ap, bOr_ap, vIf_ap, vA_b, vO_b, vAnd_ap, vOr_ap, dNot_b, fNot_ap, dNg_i, fNeg_ap, fPN_ap, dPs_i, fPS_ap, vCut_ap, fIsi_ap, rOut_ok, rOut_ex, fCall_ap, fDct0_ap, dIterL_l, dIterL_t, iLT_ap, iR1_ap, iR2_ap, iEn_ap, iZp_ap, vLR1_ap, sNx_ap, sAsg_ap, sRet_ap, sExp_ap, sIf_ap, sFor_ap, oNx_s, sTgt_ap, fzE_s, sFz_ap, sRaise_ap, res_nx, res_rt, res_ex, st0, List.map_cons, List.map_nil, List.length_cons, List.length_nil, List.replicate_succ, List.replicate_zero, List.cons_append, List.nil_append, List.append_nil, List.getElem?_cons_zero, List.getElem?_cons_succ, List.set_cons_zero, List.set_cons_succ, Option.bind_some, Option.map_some, dTru, at_t0, at_t1, at_t2, at_t3, at_l0, at_l1, at_l2, at_l3, eq_int, ne_int, lt_int, gt_int, le_int, ge_int, add_int, sub_int, int_int, int_bool, len_l, len_t, len_scr, dListOf, dTupOf, decide_eq_true_eq, List.length_map, Nat.reduceAdd, Nat.reduceSub, Nat.reduceLeDiff, Nat.zero_add, if_true, if_false, ↓reduceIte, Bool.false_eq_true, Bool.not_true, Bool.not_false, fIn_ap, fGet_ap, inT_f, inT_t, gtT_s, key_i, isS_s, isS_n, map_none, sum_int, all_b, any_b, isi_int, isi_intb, isi_list, sTry_ap, tryE_ex, tryE_nx, tryE_rt, tryC_nx, tryC_rt, tryC_f, set_ap, setS_l, vDct1_ap, vch_ap, chB_b, chE_t, chE_f, decide_eq_true c0, if_pos (show n = 0 ∨ x % 8 ≠ 5 from .inl c0)]
  by_cases c1 : x % 8 = 5
  · have e := bare_comp (some (.z, s)) n w h4 outs (by omega) hl
    rw [if_neg (show ¬ (n = 0 ∨ x % 8 ≠ 5) from fun q => q.elim c0 fun q => q c1)]
    generalize outs.map (· % n) = z at *
    simp (disch := omega) only [runD_ap, seq_eq, then_nx, then_rt, then_ex, then_ct, then_bk, sB_ok, sB_ex, bind_ok, bind_ex, of_some, gZ_z, gB_s, gBl_l, gBl_z, gF_s, gM_s, fC_ap, fN_ap, fZ_ap, vMv_ap, fV_ap, vF_ap, oF_f, oF_l, oB_f, oB_l, osN_f, osN_l, osC_f, osC_l, o2_ap, fB_ap, fsN_ap, fsC_ap, fLst_ap, fTup_ap, fMt_ap, mtS_l, mtE_l, bB_b, bV_ap, bBo_b, bF_ap, bO_ap, bNot_ap, bAnd_ap, bOr_ap, vIf_ap, vA_b, vO_b, vAnd_ap, vOr_ap, dNot_b, fNot_ap, dNg_i, fNeg_ap, fPN_ap, dPs_i, fPS_ap, vCut_ap, fIsi_ap, rOut_ok, rOut_ex, fCall_ap, fDct0_ap, dIterL_l, dIterL_t, iLT_ap, iR1_ap, iR2_ap, iEn_ap, iZp_ap, vLR1_ap, sNx_ap, sAsg_ap, sRet_ap, sExp_ap, sIf_ap, sFor_ap, oNx_s, sTgt_ap, fzE_s, sFz_ap, sRaise_ap, res_nx, res_rt, res_ex, st0, List.map_cons, List.map_nil, List.length_cons, List.length_nil, List.replicate_succ, List.replicate_zero, List.cons_append, List.nil_append, List.append_nil, List.getElem?_cons_zero, List.getElem?_cons_succ, List.set_cons_zero, List.set_cons_succ, Option.bind_some, Option.map_some, dTru, at_t0, at_t1, at_t2, at_t3, at_l0, at_l1, at_l2, at_l3, eq_int, ne_int, lt_int, gt_int, le_int, ge_int, add_int, sub_int, int_int, int_bool, len_l, len_t, len_scr, dListOf, dTupOf, decide_eq_true_eq, List.length_map, Nat.reduceAdd, Nat.reduceSub, Nat.reduceLeDiff, Nat.zero_add, if_true, if_false, ↓reduceIte, Bool.false_eq_true, Bool.not_true, Bool.not_false, fIn_ap, fGet_ap, inT_f, inT_t, gtT_s, key_i, isS_s, isS_n, map_none, sum_int, all_b, any_b, isi_int, isi_intb, isi_list, sTry_ap, tryE_ex, tryE_nx, tryE_rt, tryC_nx, tryC_rt, tryC_f, set_ap, setS_l, vDct1_ap, vch_ap, chB_b, chE_t, chE_f, decide_eq_false c0, hc, mod_ok, decide_eq_true c1, e, if_pos]
  · rw [if_pos (show n = 0 ∨ x % 8 ≠ 5 from .inr c1)]
    simp (disch := omega) only [runD_ap, seq_eq, then_nx, then_rt, then_ex, then_ct, then_bk, sB_ok, sB_ex, bind_ok, bind_ex, of_some, gZ_z, gB_s, gBl_l, gBl_z, gF_s, gM_s, fC_ap, fN_ap, fZ_ap, vMv_ap, fV_ap, vF_ap, oF_f, oF_l, oB_f, oB_l, osN_f, osN_l, osC_f, osC_l, o2_ap, fB_ap, fsN_ap, fsC_ap, fLst_ap, fTup_ap, fMt_ap, mtS_l, mtE_l, bB_b, bV_ap, bBo_b, bF_ap, bO_ap, bNot_ap, bAnd_ap, bOr_ap, vIf_ap, vA_b, vO_b, vAnd_ap, vOr_ap, dNot_b, fNot_ap, dNg_i, fNeg_ap, fPN_ap, dPs_i, fPS_ap, vCut_ap, fIsi_ap, rOut_ok, rOut_ex, fCall_ap, fDct0_ap, dIterL_l, dIterL_t, iLT_ap, iR1_ap, iR2_ap, iEn_ap, iZp_ap, vLR1_ap, sNx_ap, sAsg_ap, sRet_ap, sExp_ap, sIf_ap, sFor_ap, oNx_s, sTgt_ap, fzE_s, sFz_ap, sRaise_ap, res_nx, res_rt, res_ex, st0, List.map_cons, List.map_nil, List.length_cons, List.length_nil, List.replicate_succ, List.replicate_zero, List.cons_append, List.nil_append, List.append_nil, List.getElem?_cons_zero, List.getElem?_cons_succ, List.set_cons_zero, List.set_cons_succ, Option.bind_some, Option.map_some, dTru, at_t0, at_t1, at_t2, at_t3, at_l0, at_l1, at_l2, at_l3, eq_int, ne_int, lt_int, gt_int, le_int, ge_int, add_int, sub_int, int_int, int_bool, len_l, len_t, len_scr, dListOf, dTupOf, decide_eq_true_eq, List.length_map, Nat.reduceAdd, Nat.reduceSub, Nat.reduceLeDiff, Nat.zero_add, if_true, if_false, ↓reduceIte, Bool.false_eq_true, Bool.not_true, Bool.not_false, fIn_ap, fGet_ap, inT_f, inT_t, gtT_s, key_i, isS_s, isS_n, map_none, sum_int, all_b, any_b, isi_int, isi_intb, isi_list, sTry_ap, tryE_ex, tryE_nx, tryE_rt, tryC_nx, tryC_rt, tryC_f, set_ap, setS_l, vDct1_ap, vch_ap, chB_b, chE_t, chE_f, decide_eq_false c0, hc, mod_ok, decide_eq_false c1]
theorem bare_ok (ns : List Int) {d : D} {n : Nat} {cs : List Cell} {outs : List Int} {h4 : List D} (h : WF d n cs outs h4) : ∃ d' cs' outs' h4', F_law_bare [scr ns, d] = .ok (.z, d') ∧ WF d' n cs' outs' h4' := by
  obtain ⟨x, hc⟩ := cell_ok ns 2 (by decide)
  have e := bare_ev (scr ns) n x (.tuple (cs.map cellD)) (.tuple h4) outs (by omega) (by have := h.o10; omega) hc
  rw [h.eq]
  by_cases c : (n : Int) = 0 ∨ x % 8 ≠ 5
  · rw [if_pos c] at e
    exact ⟨_, cs, outs, h4, e, rfl, h.n6, h.ok, h.l4, h.h4, h.c40, h.o10, h.os⟩
  · rw [if_neg c] at e
    have hn : 0 < n := by
      by_cases q : n = 0
      · exact absurd (.inl (by omega)) c
      · omega
    exact ⟨_, [], outs.map (· % (n : Int)), [], e, rfl, h.n6, trivial, by decide, rfl, by decide, by rw [List.length_map]; exact h.o10, fun y hy => by
      obtain ⟨z, _, rfl⟩ := List.mem_map.mp hy
      exact ⟨Int.emod_nonneg _ (by omega), by have := Int.emod_lt_of_pos z (show 0 < (n : Int) by omega); simpa using this⟩⟩
/-! the drawn circuit -/
theorem cells_app {tot : Nat} : ∀ {cs : List Cell} {i : Nat} {c : Cell}, CellsOk i tot cs → CellOk (i + cs.length) tot c → CellsOk i tot (cs ++ [c])
  | [], i, c, _, h => ⟨h, trivial⟩
  | d :: cs, i, c, h, h2 => ⟨h.1, cells_app h.2 (by rw [List.length_cons] at h2; rwa [show i + 1 + cs.length = i + (cs.length + 1) by omega])⟩
theorem nlat_app (cs : List Cell) (c : Cell) : nlat (cs ++ [c]) = nlat cs + if c.1 = S "latch" then 1 else 0 := by
  unfold nlat
  rw [List.filter_append, List.length_append]
  congr 1
  rw [List.filter_cons]
  by_cases q : c.1 = S "latch"
  · rw [if_pos (decide_eq_true q), if_pos q]; rfl
  · rw [if_neg (by simpa using q), if_neg q]; rfl
theorem ct_latch (s m : D) (hd parts sr : List Int) (w : List D) (lat tot net h0 cell : Int) (p k o q : Option Va) (e0 : dAt (L hd) (.int 0) = some (.z, .int h0)) (e1 : F_law_cell [s, .int (3 + net - h0)] = .ok (.z, .int cell)) (e2 : F_law_parts [.int cell, L [16, 100, 100, 100]] = .ok (.l .z, L parts))
    (e3 : F_law_kind [L parts, .int net, .int lat] = .ok (.z, .str (S "latch"))) (e4 : F_law_drawn [L parts, .int 1, .int tot] = .ok (.z, T sr)) (hw : w.length ≤ 1000) :
    lb_law_circuit_1 [some (.z, s), some (.z, m), some (.z, L hd), some (.l .z, .list w), some (.z, .int lat), some (.z, .int tot), some (.z, .int net), p, k, o, q] = .nx [some (.z, s), some (.z, m), some (.z, L hd), some (.l .z, .list (w ++ [cellD (S "latch", sr, net)])), some (.z, .int (lat + 1)), some (.z, .int tot), some (.z, .int net), some (.z, L parts), some (.z, .str (S "latch")), o, q] := by
  unfold lb_law_circuit_1
  simp only [L, List.map_cons, List.map_nil] at e2
  simp (disch := omega) only [runD_ap, seq_eq, then_nx, then_rt, then_ex, then_ct, then_bk, sB_ok, sB_ex, bind_ok, bind_ex, of_some, gZ_z, gB_s, gBl_l, gBl_z, gF_s, gM_s, fC_ap, fN_ap, fZ_ap, vMv_ap, fV_ap, vF_ap, oF_f, oF_l, oB_f, oB_l, osN_f, osN_l, osC_f, osC_l, o2_ap, fB_ap, fsN_ap, fsC_ap, fLst_ap, fTup_ap, fMt_ap, mtS_l, mtE_l, bB_b, bV_ap, bBo_b, bF_ap, bO_ap, bNot_ap, bAnd_ap, bOr_ap, vIf_ap, vA_b, vO_b, vAnd_ap, vOr_ap, dNot_b, fNot_ap, dNg_i, fNeg_ap, fPN_ap, dPs_i, fPS_ap, vCut_ap, fIsi_ap, rOut_ok, rOut_ex, fCall_ap, fDct0_ap, dIterL_l, dIterL_t, iLT_ap, iR1_ap, iR2_ap, iEn_ap, iZp_ap, vLR1_ap, sNx_ap, sAsg_ap, sRet_ap, sExp_ap, sIf_ap, sFor_ap, oNx_s, sTgt_ap, fzE_s, sFz_ap, sRaise_ap, res_nx, res_rt, res_ex, st0, List.map_cons, List.map_nil, List.length_cons, List.length_nil, List.replicate_succ, List.replicate_zero, List.cons_append, List.nil_append, List.append_nil, List.getElem?_cons_zero, List.getElem?_cons_succ, List.set_cons_zero, List.set_cons_succ, Option.bind_some, Option.map_some, dTru, at_t0, at_t1, at_t2, at_t3, at_l0, at_l1, at_l2, at_l3, eq_int, ne_int, lt_int, gt_int, le_int, ge_int, add_int, sub_int, int_int, int_bool, len_l, len_t, len_scr, dListOf, dTupOf, decide_eq_true_eq, List.length_map, Nat.reduceAdd, Nat.reduceSub, Nat.reduceLeDiff, Nat.zero_add, if_true, if_false, ↓reduceIte, Bool.false_eq_true, Bool.not_true, Bool.not_false, fIn_ap, fGet_ap, inT_f, inT_t, gtT_s, key_i, isS_s, isS_n, map_none, sum_int, all_b, any_b, isi_int, isi_intb, isi_list, sTry_ap, tryE_ex, tryE_nx, tryE_rt, tryC_nx, tryC_rt, tryC_f, set_ap, setS_l, vDct1_ap, vch_ap, chB_b, chE_t, chE_f, q_latch_latch, qn_latch_latch, q_latch_not, qn_latch_not, iw_latch, it_latch, in_latch, q_tie0_latch, qn_tie0_latch, q_tie0_not, qn_tie0_not, iw_tie0, it_tie0, in_tie0, lk_tie0, ct_tie0, la_tie0, l3_tie0, q_tie1_latch, qn_tie1_latch, q_tie1_not, qn_tie1_not, iw_tie1, it_tie1, in_tie1, lk_tie1, ct_tie1, la_tie1, l3_tie1, q_not_latch, qn_not_latch, q_not_not, qn_not_not, iw_not, it_not, in_not, lk_not, ct_not, q_nand2_latch, qn_nand2_latch, q_nand2_not, qn_nand2_not, iw_nand2, it_nand2, in_nand2, lk_nand2, ct_nand2, la_nand2, q_nand3_latch, qn_nand3_latch, q_nand3_not, qn_nand3_not, iw_nand3, it_nand3, in_nand3, lk_nand3, ct_nand3, la_nand3, q_nor2_latch, qn_nor2_latch, q_nor2_not, qn_nor2_not, iw_nor2, it_nor2, in_nor2, lk_nor2, ct_nor2, la_nor2, q_nor3_latch, qn_nor3_latch, q_nor3_not, qn_nor3_not, iw_nor3, it_nor3, in_nor3, lk_nor3, ct_nor3, la_nor3, p_tie_tie, p_tie_nor, p_nan_tie, p_nan_nor, p_nor_tie, p_nor_nor, p_not_tie, p_not_nor, n_0, n_1, n_2, n_3, if_pos, e0, e1, e2, e3, e4, app_d]
  rfl
theorem ct_tie (s m : D) (hd parts : List Int) (w : List D) (lat tot net h0 cell : Int) (p k o q : Option Va) (kd : Str) (e0 : dAt (L hd) (.int 0) = some (.z, .int h0)) (e1 : F_law_cell [s, .int (3 + net - h0)] = .ok (.z, .int cell)) (e2 : F_law_parts [.int cell, L [16, 100, 100, 100]] = .ok (.l .z, L parts))
    (e3 : F_law_kind [L parts, .int net, .int lat] = .ok (.z, .str kd)) (hk : kd = S "tie0" ∨ kd = S "tie1") (hw : w.length ≤ 1000) :
    lb_law_circuit_1 [some (.z, s), some (.z, m), some (.z, L hd), some (.l .z, .list w), some (.z, .int lat), some (.z, .int tot), some (.z, .int net), p, k, o, q] = .nx [some (.z, s), some (.z, m), some (.z, L hd), some (.l .z, .list (w ++ [cellD (kd, [], net)])), some (.z, .int lat), some (.z, .int tot), some (.z, .int net), some (.z, L parts), some (.z, .str kd), o, q] := by
  unfold lb_law_circuit_1
  simp only [L, List.map_cons, List.map_nil] at e2
  rcases hk with rfl | rfl <;> (simp (disch := omega) only [runD_ap, seq_eq, then_nx, then_rt, then_ex, then_ct, then_bk, sB_ok, sB_ex, bind_ok, bind_ex, of_some, gZ_z, gB_s, gBl_l, gBl_z, gF_s, gM_s, fC_ap, fN_ap, fZ_ap, vMv_ap, fV_ap, vF_ap, oF_f, oF_l, oB_f, oB_l, osN_f, osN_l, osC_f, osC_l, o2_ap, fB_ap, fsN_ap, fsC_ap, fLst_ap, fTup_ap, fMt_ap, mtS_l, mtE_l, bB_b, bV_ap, bBo_b, bF_ap, bO_ap, bNot_ap, bAnd_ap, bOr_ap, vIf_ap, vA_b, vO_b, vAnd_ap, vOr_ap, dNot_b, fNot_ap, dNg_i, fNeg_ap, fPN_ap, dPs_i, fPS_ap, vCut_ap, fIsi_ap, rOut_ok, rOut_ex, fCall_ap, fDct0_ap, dIterL_l, dIterL_t, iLT_ap, iR1_ap, iR2_ap, iEn_ap, iZp_ap, vLR1_ap, sNx_ap, sAsg_ap, sRet_ap, sExp_ap, sIf_ap, sFor_ap, oNx_s, sTgt_ap, fzE_s, sFz_ap, sRaise_ap, res_nx, res_rt, res_ex, st0, List.map_cons, List.map_nil, List.length_cons, List.length_nil, List.replicate_succ, List.replicate_zero, List.cons_append, List.nil_append, List.append_nil, List.getElem?_cons_zero, List.getElem?_cons_succ, List.set_cons_zero, List.set_cons_succ, Option.bind_some, Option.map_some, dTru, at_t0, at_t1, at_t2, at_t3, at_l0, at_l1, at_l2, at_l3, eq_int, ne_int, lt_int, gt_int, le_int, ge_int, add_int, sub_int, int_int, int_bool, len_l, len_t, len_scr, dListOf, dTupOf, decide_eq_true_eq, List.length_map, Nat.reduceAdd, Nat.reduceSub, Nat.reduceLeDiff, Nat.zero_add, if_true, if_false, ↓reduceIte, Bool.false_eq_true, Bool.not_true, Bool.not_false, fIn_ap, fGet_ap, inT_f, inT_t, gtT_s, key_i, isS_s, isS_n, map_none, sum_int, all_b, any_b, isi_int, isi_intb, isi_list, sTry_ap, tryE_ex, tryE_nx, tryE_rt, tryC_nx, tryC_rt, tryC_f, set_ap, setS_l, vDct1_ap, vch_ap, chB_b, chE_t, chE_f, q_latch_latch, qn_latch_latch, q_latch_not, qn_latch_not, iw_latch, it_latch, in_latch, q_tie0_latch, qn_tie0_latch, q_tie0_not, qn_tie0_not, iw_tie0, it_tie0, in_tie0, lk_tie0, ct_tie0, la_tie0, l3_tie0, q_tie1_latch, qn_tie1_latch, q_tie1_not, qn_tie1_not, iw_tie1, it_tie1, in_tie1, lk_tie1, ct_tie1, la_tie1, l3_tie1, q_not_latch, qn_not_latch, q_not_not, qn_not_not, iw_not, it_not, in_not, lk_not, ct_not, q_nand2_latch, qn_nand2_latch, q_nand2_not, qn_nand2_not, iw_nand2, it_nand2, in_nand2, lk_nand2, ct_nand2, la_nand2, q_nand3_latch, qn_nand3_latch, q_nand3_not, qn_nand3_not, iw_nand3, it_nand3, in_nand3, lk_nand3, ct_nand3, la_nand3, q_nor2_latch, qn_nor2_latch, q_nor2_not, qn_nor2_not, iw_nor2, it_nor2, in_nor2, lk_nor2, ct_nor2, la_nor2, q_nor3_latch, qn_nor3_latch, q_nor3_not, qn_nor3_not, iw_nor3, it_nor3, in_nor3, lk_nor3, ct_nor3, la_nor3, p_tie_tie, p_tie_nor, p_nan_tie, p_nan_nor, p_nor_tie, p_nor_nor, p_not_tie, p_not_nor, n_0, n_1, n_2, n_3, if_pos, e0, e1, e2, e3, app_d]; rfl)
theorem ct_gate (s m : D) (hd parts sr : List Int) (w : List D) (lat tot net h0 cell : Int) (p k o q : Option Va) (kd : Str) (e0 : dAt (L hd) (.int 0) = some (.z, .int h0)) (e1 : F_law_cell [s, .int (3 + net - h0)] = .ok (.z, .int cell)) (e2 : F_law_parts [.int cell, L [16, 100, 100, 100]] = .ok (.l .z, L parts))
    (e3 : F_law_kind [L parts, .int net, .int lat] = .ok (.z, .str kd)) (hk : kd = S "not" ∨ kd = S "nand2" ∨ kd = S "nand3" ∨ kd = S "nor2" ∨ kd = S "nor3") (e4 : F_law_drawn [L parts, .int (need kd), .int net] = .ok (.z, T sr)) (hw : w.length ≤ 1000) :
    lb_law_circuit_1 [some (.z, s), some (.z, m), some (.z, L hd), some (.l .z, .list w), some (.z, .int lat), some (.z, .int tot), some (.z, .int net), p, k, o, q] = .nx [some (.z, s), some (.z, m), some (.z, L hd), some (.l .z, .list (w ++ [cellD (kd, sr, net)])), some (.z, .int lat), some (.z, .int tot), some (.z, .int net), some (.z, L parts), some (.z, .str kd), o, q] := by
  have n3 : need (S "not") = 1 := by decide +kernel
  have n4 : need (S "nand2") = 2 := by decide +kernel
  have n5 : need (S "nand3") = 3 := by decide +kernel
  have n6 : need (S "nor2") = 2 := by decide +kernel
  have n7 : need (S "nor3") = 3 := by decide +kernel
  unfold lb_law_circuit_1
  simp only [L, List.map_cons, List.map_nil] at e2
  rcases hk with rfl | rfl | rfl | rfl | rfl <;> simp only [n3, n4, n5, n6, n7] at e4 <;> (simp (disch := omega) only [runD_ap, seq_eq, then_nx, then_rt, then_ex, then_ct, then_bk, sB_ok, sB_ex, bind_ok, bind_ex, of_some, gZ_z, gB_s, gBl_l, gBl_z, gF_s, gM_s, fC_ap, fN_ap, fZ_ap, vMv_ap, fV_ap, vF_ap, oF_f, oF_l, oB_f, oB_l, osN_f, osN_l, osC_f, osC_l, o2_ap, fB_ap, fsN_ap, fsC_ap, fLst_ap, fTup_ap, fMt_ap, mtS_l, mtE_l, bB_b, bV_ap, bBo_b, bF_ap, bO_ap, bNot_ap, bAnd_ap, bOr_ap, vIf_ap, vA_b, vO_b, vAnd_ap, vOr_ap, dNot_b, fNot_ap, dNg_i, fNeg_ap, fPN_ap, dPs_i, fPS_ap, vCut_ap, fIsi_ap, rOut_ok, rOut_ex, fCall_ap, fDct0_ap, dIterL_l, dIterL_t, iLT_ap, iR1_ap, iR2_ap, iEn_ap, iZp_ap, vLR1_ap, sNx_ap, sAsg_ap, sRet_ap, sExp_ap, sIf_ap, sFor_ap, oNx_s, sTgt_ap, fzE_s, sFz_ap, sRaise_ap, res_nx, res_rt, res_ex, st0, List.map_cons, List.map_nil, List.length_cons, List.length_nil, List.replicate_succ, List.replicate_zero, List.cons_append, List.nil_append, List.append_nil, List.getElem?_cons_zero, List.getElem?_cons_succ, List.set_cons_zero, List.set_cons_succ, Option.bind_some, Option.map_some, dTru, at_t0, at_t1, at_t2, at_t3, at_l0, at_l1, at_l2, at_l3, eq_int, ne_int, lt_int, gt_int, le_int, ge_int, add_int, sub_int, int_int, int_bool, len_l, len_t, len_scr, dListOf, dTupOf, decide_eq_true_eq, List.length_map, Nat.reduceAdd, Nat.reduceSub, Nat.reduceLeDiff, Nat.zero_add, if_true, if_false, ↓reduceIte, Bool.false_eq_true, Bool.not_true, Bool.not_false, fIn_ap, fGet_ap, inT_f, inT_t, gtT_s, key_i, isS_s, isS_n, map_none, sum_int, all_b, any_b, isi_int, isi_intb, isi_list, sTry_ap, tryE_ex, tryE_nx, tryE_rt, tryC_nx, tryC_rt, tryC_f, set_ap, setS_l, vDct1_ap, vch_ap, chB_b, chE_t, chE_f, q_latch_latch, qn_latch_latch, q_latch_not, qn_latch_not, iw_latch, it_latch, in_latch, q_tie0_latch, qn_tie0_latch, q_tie0_not, qn_tie0_not, iw_tie0, it_tie0, in_tie0, lk_tie0, ct_tie0, la_tie0, l3_tie0, q_tie1_latch, qn_tie1_latch, q_tie1_not, qn_tie1_not, iw_tie1, it_tie1, in_tie1, lk_tie1, ct_tie1, la_tie1, l3_tie1, q_not_latch, qn_not_latch, q_not_not, qn_not_not, iw_not, it_not, in_not, lk_not, ct_not, q_nand2_latch, qn_nand2_latch, q_nand2_not, qn_nand2_not, iw_nand2, it_nand2, in_nand2, lk_nand2, ct_nand2, la_nand2, q_nand3_latch, qn_nand3_latch, q_nand3_not, qn_nand3_not, iw_nand3, it_nand3, in_nand3, lk_nand3, ct_nand3, la_nand3, q_nor2_latch, qn_nor2_latch, q_nor2_not, qn_nor2_not, iw_nor2, it_nor2, in_nor2, lk_nor2, ct_nor2, la_nor2, q_nor3_latch, qn_nor3_latch, q_nor3_not, qn_nor3_not, iw_nor3, it_nor3, in_nor3, lk_nor3, ct_nor3, la_nor3, p_tie_tie, p_tie_nor, p_nan_tie, p_nan_nor, p_nor_tie, p_nor_nor, p_not_tie, p_not_nor, n_0, n_1, n_2, n_3, if_pos, e0, e1, e2, e3, e4, app_d]; rfl)
theorem cc1 (a b w3 w4 w6 w7 w8 : Option Va) (hd : List Int) (tot h1 h2 h3 : Int) (m : Nat) (hm : 1 + h1 = m) (hm2 : m ≤ 100) (a1 : dAt (L hd) (.int 1) = some (.z, .int h1)) (a2 : dAt (L hd) (.int 2) = some (.z, .int h2)) (a3 : dAt (L hd) (.int 3) = some (.z, .int h3)) (ht : 0 < tot) (hh3 : 0 ≤ h3 ∧ h3 < 100) :
    vComp [10] (iR1 (fsC (fV (o2 dAdd (oF (fC (.int 1))) (oF (fV (o2 dAt (oF (fN 2)) (oF (fC (.int 1)))))))) fsN)) (gN 10) bYes ce_law_circuit_1 [a, b, some (.z, L hd), w3, w4, some (.z, .int tot), w6, w7, w8, none, none] = .ok (.l .z, L ((List.range m).map fun k => (h2 + (k : Nat) * h3) % tot)) [a, b, some (.z, L hd), w3, w4, some (.z, .int tot), w6, w7, w8, none, none] := by
  have e : L ((List.range m).map fun k => (h2 + (k : Nat) * h3) % tot) = .list ((List.range m).map fun k => .int ((h2 + (k : Nat) * h3) % tot)) := by
    unfold L
    rw [List.map_map]
    rfl
  rw [e]
  refine comp_ok (ds := rangeL 0 m) ?_ (by rw [range_len]; omega) ?_ rfl
  · simp (disch := omega) only [runD_ap, seq_eq, then_nx, then_rt, then_ex, then_ct, then_bk, sB_ok, sB_ex, bind_ok, bind_ex, of_some, gZ_z, gB_s, gBl_l, gBl_z, gF_s, gM_s, fC_ap, fN_ap, fZ_ap, vMv_ap, fV_ap, vF_ap, oF_f, oF_l, oB_f, oB_l, osN_f, osN_l, osC_f, osC_l, o2_ap, fB_ap, fsN_ap, fsC_ap, fLst_ap, fTup_ap, fMt_ap, mtS_l, mtE_l, bB_b, bV_ap, bBo_b, bF_ap, bO_ap, bNot_ap, bAnd_ap, bOr_ap, vIf_ap, vA_b, vO_b, vAnd_ap, vOr_ap, dNot_b, fNot_ap, dNg_i, fNeg_ap, fPN_ap, dPs_i, fPS_ap, vCut_ap, fIsi_ap, rOut_ok, rOut_ex, fCall_ap, fDct0_ap, dIterL_l, dIterL_t, iLT_ap, iR1_ap, iR2_ap, iEn_ap, iZp_ap, vLR1_ap, sNx_ap, sAsg_ap, sRet_ap, sExp_ap, sIf_ap, sFor_ap, oNx_s, sTgt_ap, fzE_s, sFz_ap, sRaise_ap, res_nx, res_rt, res_ex, st0, List.map_cons, List.map_nil, List.length_cons, List.length_nil, List.replicate_succ, List.replicate_zero, List.cons_append, List.nil_append, List.append_nil, List.getElem?_cons_zero, List.getElem?_cons_succ, List.set_cons_zero, List.set_cons_succ, Option.bind_some, Option.map_some, dTru, at_t0, at_t1, at_t2, at_t3, at_l0, at_l1, at_l2, at_l3, eq_int, ne_int, lt_int, gt_int, le_int, ge_int, add_int, sub_int, int_int, int_bool, len_l, len_t, len_scr, dListOf, dTupOf, decide_eq_true_eq, List.length_map, Nat.reduceAdd, Nat.reduceSub, Nat.reduceLeDiff, Nat.zero_add, if_true, if_false, ↓reduceIte, Bool.false_eq_true, Bool.not_true, Bool.not_false, fIn_ap, fGet_ap, inT_f, inT_t, gtT_s, key_i, isS_s, isS_n, map_none, sum_int, all_b, any_b, isi_int, isi_intb, isi_list, sTry_ap, tryE_ex, tryE_nx, tryE_rt, tryC_nx, tryC_rt, tryC_f, set_ap, setS_l, vDct1_ap, vch_ap, chB_b, chE_t, chE_f, a1, hm, if_pos, Int.toNat_natCast]
  · refine comp_range _ m rfl (fun _ _ => rfl) fun k hk => ?_
    have m1 : dMul (.int (k : Nat)) (.int h3) = some (.z, .int ((k : Nat) * h3)) := mul_ok (.inr (by omega))
    unfold ce_law_circuit_1
    simp (disch := omega) only [runD_ap, seq_eq, then_nx, then_rt, then_ex, then_ct, then_bk, sB_ok, sB_ex, bind_ok, bind_ex, of_some, gZ_z, gB_s, gBl_l, gBl_z, gF_s, gM_s, fC_ap, fN_ap, fZ_ap, vMv_ap, fV_ap, vF_ap, oF_f, oF_l, oB_f, oB_l, osN_f, osN_l, osC_f, osC_l, o2_ap, fB_ap, fsN_ap, fsC_ap, fLst_ap, fTup_ap, fMt_ap, mtS_l, mtE_l, bB_b, bV_ap, bBo_b, bF_ap, bO_ap, bNot_ap, bAnd_ap, bOr_ap, vIf_ap, vA_b, vO_b, vAnd_ap, vOr_ap, dNot_b, fNot_ap, dNg_i, fNeg_ap, fPN_ap, dPs_i, fPS_ap, vCut_ap, fIsi_ap, rOut_ok, rOut_ex, fCall_ap, fDct0_ap, dIterL_l, dIterL_t, iLT_ap, iR1_ap, iR2_ap, iEn_ap, iZp_ap, vLR1_ap, sNx_ap, sAsg_ap, sRet_ap, sExp_ap, sIf_ap, sFor_ap, oNx_s, sTgt_ap, fzE_s, sFz_ap, sRaise_ap, res_nx, res_rt, res_ex, st0, List.map_cons, List.map_nil, List.length_cons, List.length_nil, List.replicate_succ, List.replicate_zero, List.cons_append, List.nil_append, List.append_nil, List.getElem?_cons_zero, List.getElem?_cons_succ, List.set_cons_zero, List.set_cons_succ, Option.bind_some, Option.map_some, dTru, at_t0, at_t1, at_t2, at_t3, at_l0, at_l1, at_l2, at_l3, eq_int, ne_int, lt_int, gt_int, le_int, ge_int, add_int, sub_int, int_int, int_bool, len_l, len_t, len_scr, dListOf, dTupOf, decide_eq_true_eq, List.length_map, Nat.reduceAdd, Nat.reduceSub, Nat.reduceLeDiff, Nat.zero_add, if_true, if_false, ↓reduceIte, Bool.false_eq_true, Bool.not_true, Bool.not_false, fIn_ap, fGet_ap, inT_f, inT_t, gtT_s, key_i, isS_s, isS_n, map_none, sum_int, all_b, any_b, isi_int, isi_intb, isi_list, sTry_ap, tryE_ex, tryE_nx, tryE_rt, tryC_nx, tryC_rt, tryC_f, set_ap, setS_l, vDct1_ap, vch_ap, chB_b, chE_t, chE_f, wipeG, a2, a3, m1, mod_ok]
theorem cc2 (a b w3 w5 w6 w7 w8 w9 : Option Va) (hd : List Int) (h2 : Int) (m : Nat) (hm2 : m ≤ 100) (a2 : dAt (L hd) (.int 2) = some (.z, .int h2)) :
    vComp [10] (iR1 (fsC (fN 4) fsN)) (gN 10) bYes ce_law_circuit_2 [a, b, some (.z, L hd), w3, some (.z, .int (m : Nat)), w5, w6, w7, w8, w9, none] = .ok (.l .z, .list ((List.range m).map fun k => .int ((h2 + (k : Nat)) % 4))) [a, b, some (.z, L hd), w3, some (.z, .int (m : Nat)), w5, w6, w7, w8, w9, none] := by
  refine comp_ok (ds := rangeL 0 m) ?_ (by rw [range_len]; omega) ?_ rfl
  · simp (disch := omega) only [runD_ap, seq_eq, then_nx, then_rt, then_ex, then_ct, then_bk, sB_ok, sB_ex, bind_ok, bind_ex, of_some, gZ_z, gB_s, gBl_l, gBl_z, gF_s, gM_s, fC_ap, fN_ap, fZ_ap, vMv_ap, fV_ap, vF_ap, oF_f, oF_l, oB_f, oB_l, osN_f, osN_l, osC_f, osC_l, o2_ap, fB_ap, fsN_ap, fsC_ap, fLst_ap, fTup_ap, fMt_ap, mtS_l, mtE_l, bB_b, bV_ap, bBo_b, bF_ap, bO_ap, bNot_ap, bAnd_ap, bOr_ap, vIf_ap, vA_b, vO_b, vAnd_ap, vOr_ap, dNot_b, fNot_ap, dNg_i, fNeg_ap, fPN_ap, dPs_i, fPS_ap, vCut_ap, fIsi_ap, rOut_ok, rOut_ex, fCall_ap, fDct0_ap, dIterL_l, dIterL_t, iLT_ap, iR1_ap, iR2_ap, iEn_ap, iZp_ap, vLR1_ap, sNx_ap, sAsg_ap, sRet_ap, sExp_ap, sIf_ap, sFor_ap, oNx_s, sTgt_ap, fzE_s, sFz_ap, sRaise_ap, res_nx, res_rt, res_ex, st0, List.map_cons, List.map_nil, List.length_cons, List.length_nil, List.replicate_succ, List.replicate_zero, List.cons_append, List.nil_append, List.append_nil, List.getElem?_cons_zero, List.getElem?_cons_succ, List.set_cons_zero, List.set_cons_succ, Option.bind_some, Option.map_some, dTru, at_t0, at_t1, at_t2, at_t3, at_l0, at_l1, at_l2, at_l3, eq_int, ne_int, lt_int, gt_int, le_int, ge_int, add_int, sub_int, int_int, int_bool, len_l, len_t, len_scr, dListOf, dTupOf, decide_eq_true_eq, List.length_map, Nat.reduceAdd, Nat.reduceSub, Nat.reduceLeDiff, Nat.zero_add, if_true, if_false, ↓reduceIte, Bool.false_eq_true, Bool.not_true, Bool.not_false, fIn_ap, fGet_ap, inT_f, inT_t, gtT_s, key_i, isS_s, isS_n, map_none, sum_int, all_b, any_b, isi_int, isi_intb, isi_list, sTry_ap, tryE_ex, tryE_nx, tryE_rt, tryC_nx, tryC_rt, tryC_f, set_ap, setS_l, vDct1_ap, vch_ap, chB_b, chE_t, chE_f, if_pos, Int.toNat_natCast]
  · refine comp_range _ m rfl (fun _ _ => rfl) fun k hk => ?_
    unfold ce_law_circuit_2
    simp (disch := omega) only [runD_ap, seq_eq, then_nx, then_rt, then_ex, then_ct, then_bk, sB_ok, sB_ex, bind_ok, bind_ex, of_some, gZ_z, gB_s, gBl_l, gBl_z, gF_s, gM_s, fC_ap, fN_ap, fZ_ap, vMv_ap, fV_ap, vF_ap, oF_f, oF_l, oB_f, oB_l, osN_f, osN_l, osC_f, osC_l, o2_ap, fB_ap, fsN_ap, fsC_ap, fLst_ap, fTup_ap, fMt_ap, mtS_l, mtE_l, bB_b, bV_ap, bBo_b, bF_ap, bO_ap, bNot_ap, bAnd_ap, bOr_ap, vIf_ap, vA_b, vO_b, vAnd_ap, vOr_ap, dNot_b, fNot_ap, dNg_i, fNeg_ap, fPN_ap, dPs_i, fPS_ap, vCut_ap, fIsi_ap, rOut_ok, rOut_ex, fCall_ap, fDct0_ap, dIterL_l, dIterL_t, iLT_ap, iR1_ap, iR2_ap, iEn_ap, iZp_ap, vLR1_ap, sNx_ap, sAsg_ap, sRet_ap, sExp_ap, sIf_ap, sFor_ap, oNx_s, sTgt_ap, fzE_s, sFz_ap, sRaise_ap, res_nx, res_rt, res_ex, st0, List.map_cons, List.map_nil, List.length_cons, List.length_nil, List.replicate_succ, List.replicate_zero, List.cons_append, List.nil_append, List.append_nil, List.getElem?_cons_zero, List.getElem?_cons_succ, List.set_cons_zero, List.set_cons_succ, Option.bind_some, Option.map_some, dTru, at_t0, at_t1, at_t2, at_t3, at_l0, at_l1, at_l2, at_l3, eq_int, ne_int, lt_int, gt_int, le_int, ge_int, add_int, sub_int, int_int, int_bool, len_l, len_t, len_scr, dListOf, dTupOf, decide_eq_true_eq, List.length_map, Nat.reduceAdd, Nat.reduceSub, Nat.reduceLeDiff, Nat.zero_add, if_true, if_false, ↓reduceIte, Bool.false_eq_true, Bool.not_true, Bool.not_false, fIn_ap, fGet_ap, inT_f, inT_t, gtT_s, key_i, isS_s, isS_n, map_none, sum_int, all_b, any_b, isi_int, isi_intb, isi_list, sTry_ap, tryE_ex, tryE_nx, tryE_rt, tryC_nx, tryC_rt, tryC_f, set_ap, setS_l, vDct1_ap, vch_ap, chB_b, chE_t, chE_f, wipeG, a2, mod_ok]
theorem turn_ok (ns hd : List Int) (n tot i : Nat) (cs : List Cell) (m : D) (p k : Option Va) (kv : Option Va) (e0 : dAt (L hd) (.int 0) = some (.z, .int (n : Nat))) (hn : n ≤ 6) (ht : tot ≤ 100) (hnt : n + i < tot) (hci : cs.length = i) (hok : CellsOk n tot cs) (hlat : nlat cs ≤ 2) :
    ∃ c p' k', lb_law_circuit_1 [some (.z, scr ns), some (.z, m), some (.z, L hd), some (.l .z, .list (cs.map cellD)), some (.z, .int (nlat cs : Nat)), some (.z, .int (tot : Nat)), some (.z, .int ((n + i : Nat) : Int)), p, k, none, none] = .nx [some (.z, scr ns), some (.z, m), some (.z, L hd), some (.l .z, .list ((cs ++ [c]).map cellD)), some (.z, .int (nlat (cs ++ [c]) : Nat)), some (.z, .int (tot : Nat)), some (.z, .int ((n + i : Nat) : Int)), p', k', none, none] ∧ CellsOk n tot (cs ++ [c]) ∧ nlat (cs ++ [c]) ≤ 2 := by
  obtain ⟨cell, e1⟩ := cell_ok ns (3 + ((n + i : Nat) : Int) - (n : Nat)) (by omega)
  obtain ⟨ps, e2, hpl, hps⟩ := parts_ok cell [16, 100, 100, 100] (by simp) (by intro s hs; simp only [List.mem_cons, List.not_mem_nil, or_false] at hs; omega)
  have hpl : ps.length = 4 := hpl
  obtain ⟨p0, p1, p2, p3, rfl⟩ : ∃ p0 p1 p2 p3, ps = [p0, p1, p2, p3] := by
    match ps, hpl with
    | [a, b, c, d], _ => exact ⟨a, b, c, d, rfl⟩
  have hp0 := hps 0 p0 16 rfl rfl
  obtain ⟨k0, hk0, e0'⟩ := pick p0 hp0.1 hp0.2
  obtain ⟨kd, hkd, e3, hl4, hneed⟩ := kind_ev [p0, p1, p2, p3] k0 p0 p1 ((n + i : Nat) : Int) (nlat cs : Nat) e0' at_l0 at_l1 hk0 (by omega) (by omega)
  have hwl : (cs.map cellD).length ≤ 1000 := by rw [List.length_map]; omega
  have hk8 := hkd
  simp only [K8, List.mem_cons, List.not_mem_nil, or_false] at hkd
  have cat : ∀ c : Cell, (cs.map cellD) ++ [cellD c] = (cs ++ [c]).map cellD := fun c => by rw [List.map_append]; rfl
  rcases hkd with q | hkd
  · subst q
    obtain ⟨sr, e4, hs1, hs2⟩ := drawn_ok [p0, p1, p2, p3] 1 tot (by omega) (by omega) (by simp) (by omega)
    have hl := hl4 rfl
    have et := ct_latch (scr ns) m hd [p0, p1, p2, p3] sr (cs.map cellD) (nlat cs : Nat) (tot : Nat) ((n + i : Nat) : Int) (n : Nat) cell p k none none e0 e1 e2 e3 e4 hwl
    have e5 := nlat_app cs (S "latch", sr, ((n + i : Nat) : Int))
    rw [if_pos rfl] at e5
    refine ⟨(S "latch", sr, ((n + i : Nat) : Int)), some (.z, L [p0, p1, p2, p3]), some (.z, .str (S "latch")), ?_, cells_app hok ⟨hk8, fun _ => ?_, fun h => absurd rfl h, by show sr.length ≤ 3; omega, by rw [hci]⟩, by omega⟩
    · rw [et, cat, e5]; rfl
    · match sr, hs1, hs2 with
      | [x], _, h => exact ⟨x, rfl, h x (List.mem_cons_self ..)⟩
  rcases hkd with q | q | hkd
  · have hne : kd ≠ S "latch" := by rw [q]; decide +kernel
    have et := ct_tie (scr ns) m hd [p0, p1, p2, p3] (cs.map cellD) (nlat cs : Nat) (tot : Nat) ((n + i : Nat) : Int) (n : Nat) cell p k none none kd e0 e1 e2 e3 (.inl q) hwl
    have e5 := nlat_app cs (kd, [], ((n + i : Nat) : Int))
    rw [if_neg hne, Nat.add_zero] at e5
    refine ⟨(kd, [], ((n + i : Nat) : Int)), some (.z, L [p0, p1, p2, p3]), some (.z, .str kd), ?_, cells_app hok ⟨hk8, fun h => absurd h hne, fun _ s hs => (nomatch hs), Nat.zero_le _, by rw [hci]⟩, by omega⟩
    rw [et, cat, e5]
  · have hne : kd ≠ S "latch" := by rw [q]; decide +kernel
    have et := ct_tie (scr ns) m hd [p0, p1, p2, p3] (cs.map cellD) (nlat cs : Nat) (tot : Nat) ((n + i : Nat) : Int) (n : Nat) cell p k none none kd e0 e1 e2 e3 (.inr q) hwl
    have e5 := nlat_app cs (kd, [], ((n + i : Nat) : Int))
    rw [if_neg hne, Nat.add_zero] at e5
    refine ⟨(kd, [], ((n + i : Nat) : Int)), some (.z, L [p0, p1, p2, p3]), some (.z, .str kd), ?_, cells_app hok ⟨hk8, fun h => absurd h hne, fun _ s hs => (nomatch hs), Nat.zero_le _, by rw [hci]⟩, by omega⟩
    rw [et, cat, e5]
  · have hne : kd ≠ S "latch" := by rcases hkd with q | q | q | q | q <;> rw [q] <;> decide +kernel
    have hnd : 1 ≤ need kd ∧ need kd ≤ 3 := by rcases hkd with q | q | q | q | q <;> rw [q] <;> decide +kernel
    obtain ⟨c, hc⟩ := Int.eq_ofNat_of_zero_le (show 0 ≤ need kd by omega)
    obtain ⟨sr, e4, hs1, hs2⟩ := drawn_ok [p0, p1, p2, p3] c (n + i) (by omega) (by omega) (by simp; omega) (by omega)
    rw [← hc] at e4
    have et := ct_gate (scr ns) m hd [p0, p1, p2, p3] sr (cs.map cellD) (nlat cs : Nat) (tot : Nat) ((n + i : Nat) : Int) (n : Nat) cell p k none none kd e0 e1 e2 e3 hkd e4 hwl
    have e5 := nlat_app cs (kd, sr, ((n + i : Nat) : Int))
    rw [if_neg hne, Nat.add_zero] at e5
    refine ⟨(kd, sr, ((n + i : Nat) : Int)), some (.z, L [p0, p1, p2, p3]), some (.z, .str kd), ?_, cells_app hok ⟨hk8, fun h => absurd h hne, fun _ s hs => ?_, by show sr.length ≤ 3; omega, by rw [hci]⟩, by omega⟩
    · rw [et, cat, e5]
    · rw [hci]; exact hs2 s hs
theorem circuit_ok (ns : List Int) (hns : ns.length ≤ 63) : ∃ d n cs outs h4, F_law_circuit [scr ns, .int 8] = .ok (.z, d) ∧ WF d n cs outs h4 := by
  obtain ⟨cell, e1⟩ := cell_ok ns 0 (by omega)
  obtain ⟨ps, e2, hpl, hps⟩ := parts_ok cell [4, 6, 100, 100] (by simp) (by intro s hs; simp only [List.mem_cons, List.not_mem_nil, or_false] at hs; omega)
  have hpl : ps.length = 4 := hpl
  obtain ⟨h0, h1, h2, h3, rfl⟩ : ∃ p0 p1 p2 p3, ps = [p0, p1, p2, p3] := by
    match ps, hpl with
    | [a, b, c, d], _ => exact ⟨a, b, c, d, rfl⟩
  have b0 := hps 0 h0 4 rfl rfl
  have b1 := hps 1 h1 6 rfl rfl
  have b2 := hps 2 h2 100 rfl rfl
  have b3 := hps 3 h3 100 rfl rfl
  have a0 : dAt (L [h0, h1, h2, h3]) (.int 0) = some (.z, .int h0) := at_l0
  have a1 : dAt (L [h0, h1, h2, h3]) (.int 1) = some (.z, .int h1) := at_l1
  have a2 : dAt (L [h0, h1, h2, h3]) (.int 2) = some (.z, .int h2) := at_l2
  have a3 : dAt (L [h0, h1, h2, h3]) (.int 3) = some (.z, .int h3) := at_l3
  generalize [h0, h1, h2, h3] = hd at *
  obtain ⟨n, rfl⟩ := Int.eq_ofNat_of_zero_le b0.1
  obtain ⟨m, hm⟩ := Int.eq_ofNat_of_zero_le (show 0 ≤ 1 + h1 by omega)
  -- how many cells
  obtain ⟨cnt, hcnt, c1, c40⟩ : ∃ cnt : Nat, dMin [.int 8, .int (if 1 < (ns.length : Int) - 3 then (ns.length : Int) - 3 else 1)] = some (.z, .int (cnt : Nat)) ∧ 1 ≤ cnt ∧ cnt ≤ 8 := by
    unfold dMin
    dsimp only
    by_cases q : 1 < (ns.length : Int) - 3
    · rw [if_pos q]
      by_cases q2 : (ns.length : Int) - 3 < 8
      · rw [if_pos q2]
        exact ⟨ns.length - 3, by rw [show ((ns.length - 3 : Nat) : Int) = (ns.length : Int) - 3 by omega], by omega, by omega⟩
      · rw [if_neg q2]
        exact ⟨8, rfl, by omega, by omega⟩
    · rw [if_neg q]
      rw [if_pos (by decide)]
      exact ⟨1, rfl, by omega, by omega⟩
  have hmax : dMax [.int 1, .int ((ns.length : Int) - 3)] = some (.z, .int (if 1 < (ns.length : Int) - 3 then (ns.length : Int) - 3 else 1)) := rfl
  have htot : (n : Int) + (cnt : Int) = ((n + cnt : Nat) : Int) := by omega
  have hh : ∃ Γ', sForL (gN 6) lb_law_circuit_1 (rangeL (n : Nat) cnt) [some (.z, scr ns), some (.z, .int 8), some (.z, L hd), some (.l .z, .list []), some (.z, .int 0), some (.z, .int ((n + cnt : Nat) : Int)), none, none, none, none, none] = .nx Γ' ∧ ∃ (cs : List Cell) (kv p k : Option Va), Γ' = [some (.z, scr ns), some (.z, .int 8), some (.z, L hd), some (.l .z, .list (cs.map cellD)), some (.z, .int (nlat cs : Nat)), some (.z, .int ((n + cnt : Nat) : Int)), kv, p, k, none, none] ∧ cs.length = 0 + (rangeL (n : Nat) cnt).length ∧ CellsOk n (n + cnt) cs ∧ nlat cs ≤ 2 :=
    forL_inv (fun j Γ => ∃ (cs : List Cell) (kv p k : Option Va), Γ = [some (.z, scr ns), some (.z, .int 8), some (.z, L hd), some (.l .z, .list (cs.map cellD)), some (.z, .int (nlat cs : Nat)), some (.z, .int ((n + cnt : Nat) : Int)), kv, p, k, none, none] ∧ cs.length = j ∧ CellsOk n (n + cnt) cs ∧ nlat cs ≤ 2) (rangeL (n : Nat) cnt) 0 _ ⟨[], none, none, none, rfl, rfl, trivial, by decide⟩ (by
      rintro i d Γ hd' ⟨cs, kv, p, k, rfl, q1, q2, q3⟩
      obtain ⟨hi, rfl⟩ := range_get hd'
      rw [show (n : Int) + (i : Int) = ((n + i : Nat) : Int) by omega]
      obtain ⟨c, p', k', e, r1, r2⟩ := turn_ok ns hd n (n + cnt) i cs (.int 8) p k none a0 (by omega) (by omega) (by omega) (by omega) q2 q3
      exact ⟨_, _, rfl, .inl e, cs ++ [c], _, _, _, rfl, by rw [List.length_append, List.length_cons, List.length_nil]; omega, r1, r2⟩)
  obtain ⟨Γ', e, cs, kv, p, k, rfl, q1, q2, q3⟩ := hh
  rw [range_len] at q1
  have e5 := cc1 (some (.z, scr ns)) (some (.z, .int 8)) (some (.l .z, .list (cs.map cellD))) (some (.z, .int (nlat cs : Nat))) kv p k hd ((n + cnt : Nat) : Int) h1 h2 h3 m hm (by omega) a1 a2 a3 (by omega) b3
  have e6 := fun x => cc2 (some (.z, scr ns)) (some (.z, .int 8)) (some (.l .z, .list (cs.map cellD))) (some (.z, .int ((n + cnt : Nat) : Int))) kv p k x hd h2 (nlat cs) (by omega) a2
  have hsub : (((n + cnt : Nat) : Int) - (n : Int)).toNat = cnt := by omega
  refine ⟨circ n cs ((List.range m).map fun k => (h2 + (k : Nat) * h3) % ((n + cnt : Nat) : Int)) (.tuple ((List.range (nlat cs)).map fun k => .int ((h2 + (k : Nat)) % 4))), n, cs, (List.range m).map fun k => (h2 + (k : Nat) * h3) % ((n + cnt : Nat) : Int), (List.range (nlat cs)).map fun k => .int ((h2 + (k : Nat)) % 4), ?_, ?_⟩
  · have l1 : (n : Int) < 2 ^ 62 ∧ ((n + cnt : Nat) : Int) < 2 ^ 62 ∧ -(2 ^ 62) ≤ (n : Int) ∧ -(2 ^ 62) ≤ ((n + cnt : Nat) : Int) := by omega
    simp only [L, List.map_cons, List.map_nil] at e2
    unfold circ
    generalize (((List.range m).map fun k => (h2 + (k : Nat) * h3) % ((n + cnt : Nat) : Int))) = outs at *
    generalize ((List.range (nlat cs)).map fun k => PyData.int ((h2 + (k : Nat)) % 4)) = hh4 at *
    generalize cs.map cellD = w at *
    generalize ((n + cnt : Nat) : Int) = tot at *
    generalize ((nlat cs : Nat) : Int) = lat at *
    obtain ⟨l1, l2, l3, l4⟩ := l1
    unfold F_law_circuit fb_law_circuit
    simp (disch := assumption) only [runD_ap, seq_eq, then_nx, then_rt, then_ex, then_ct, then_bk, sB_ok, sB_ex, bind_ok, bind_ex, of_some, gZ_z, gB_s, gBl_l, gBl_z, gF_s, gM_s, fC_ap, fN_ap, fZ_ap, vMv_ap, fV_ap, vF_ap, oF_f, oF_l, oB_f, oB_l, osN_f, osN_l, osC_f, osC_l, o2_ap, fB_ap, fsN_ap, fsC_ap, fLst_ap, fTup_ap, fMt_ap, mtS_l, mtE_l, bB_b, bV_ap, bBo_b, bF_ap, bO_ap, bNot_ap, bAnd_ap, bOr_ap, vIf_ap, vA_b, vO_b, vAnd_ap, vOr_ap, dNot_b, fNot_ap, dNg_i, fNeg_ap, fPN_ap, dPs_i, fPS_ap, vCut_ap, fIsi_ap, rOut_ok, rOut_ex, fCall_ap, fDct0_ap, dIterL_l, dIterL_t, iLT_ap, iR1_ap, iR2_ap, iEn_ap, iZp_ap, vLR1_ap, sNx_ap, sAsg_ap, sRet_ap, sExp_ap, sIf_ap, sFor_ap, oNx_s, sTgt_ap, fzE_s, sFz_ap, sRaise_ap, res_nx, res_rt, res_ex, st0, List.map_cons, List.map_nil, List.length_cons, List.length_nil, List.replicate_succ, List.replicate_zero, List.cons_append, List.nil_append, List.append_nil, List.getElem?_cons_zero, List.getElem?_cons_succ, List.set_cons_zero, List.set_cons_succ, Option.bind_some, Option.map_some, dTru, at_t0, at_t1, at_t2, at_t3, at_l0, at_l1, at_l2, at_l3, eq_int, ne_int, lt_int, gt_int, le_int, ge_int, add_int, sub_int, int_int, int_bool, len_l, len_t, len_scr, dListOf, dTupOf, decide_eq_true_eq, List.length_map, Nat.reduceAdd, Nat.reduceSub, Nat.reduceLeDiff, Nat.zero_add, if_true, if_false, ↓reduceIte, Bool.false_eq_true, Bool.not_true, Bool.not_false, fIn_ap, fGet_ap, inT_f, inT_t, gtT_s, key_i, isS_s, isS_n, map_none, sum_int, all_b, any_b, isi_int, isi_intb, isi_list, sTry_ap, tryE_ex, tryE_nx, tryE_rt, tryC_nx, tryC_rt, tryC_f, set_ap, setS_l, vDct1_ap, vch_ap, chB_b, chE_t, chE_f, if_pos, l1, l2, l3, l4, and_self, hsub, e1, e2, a0, hmax, hcnt, htot, e, e5, e6]
  · have hlen : cs.length = cnt := by omega
    refine ⟨rfl, by omega, by rw [hlen]; exact q2, q3, by rw [List.length_map, List.length_range], by omega, by rw [List.length_map, List.length_range]; omega, fun y hy => ?_⟩
    obtain ⟨z, _, rfl⟩ := List.mem_map.mp hy
    rw [hlen]
    exact ⟨Int.emod_nonneg _ (by omega), by have := Int.emod_lt_of_pos (h2 + (z : Nat) * h3) (show 0 < ((n + cnt : Nat) : Int) by omega); rw [htot]; exact this⟩

end K09
namespace K09
open PySem PV
/-! how many cases -/
theorem lc_comp (n outs h4 : D) (cs : List Cell) (hl : cs.length ≤ 1000) (a1 a2 : Option Va) :
    vComp [3] (iLT (fV (o2 dAt (oF (fN 0)) (oF (fC (.int 1)))))) (gN 3) cc_law_cases_1 ce_law_cases_1 [some (.z, .tuple [n, .tuple (cs.map cellD), outs, h4]), a1, a2, none] = .ok (.l .z, .list (((lats cs).map cellD).map fun _ => .int 1)) [some (.z, .tuple [n, .tuple (cs.map cellD), outs, h4]), a1, a2, none] := by
  refine comp_ok (ds := cs.map cellD) ?_ (by rw [List.length_map]; omega) ?_ rfl
  · generalize cs.map cellD = w at *
    simp only [runD_ap, seq_eq, then_nx, then_rt, then_ex, then_ct, then_bk, sB_ok, sB_ex, bind_ok, bind_ex, of_some, gZ_z, gB_s, gBl_l, gBl_z, gF_s, gM_s, fC_ap, fN_ap, fZ_ap, vMv_ap, fV_ap, vF_ap, oF_f, oF_l, oB_f, oB_l, osN_f, osN_l, osC_f, osC_l, o2_ap, fB_ap, fsN_ap, fsC_ap, fLst_ap, fTup_ap, fMt_ap, mtS_l, mtE_l, bB_b, bV_ap, bBo_b, bF_ap, bO_ap, bNot_ap, bAnd_ap, bOr_ap, vIf_ap, vA_b, vO_b, vAnd_ap, vOr_ap, dNot_b, fNot_ap, dNg_i, fNeg_ap, fPN_ap, dPs_i, fPS_ap, vCut_ap, fIsi_ap, rOut_ok, rOut_ex, fCall_ap, fDct0_ap, dIterL_l, dIterL_t, iLT_ap, iR1_ap, iR2_ap, iEn_ap, iZp_ap, vLR1_ap, sNx_ap, sAsg_ap, sRet_ap, sExp_ap, sIf_ap, sFor_ap, oNx_s, sTgt_ap, fzE_s, sFz_ap, sRaise_ap, res_nx, res_rt, res_ex, st0, List.map_cons, List.map_nil, List.length_cons, List.length_nil, List.replicate_succ, List.replicate_zero, List.cons_append, List.nil_append, List.append_nil, List.getElem?_cons_zero, List.getElem?_cons_succ, List.set_cons_zero, List.set_cons_succ, Option.bind_some, Option.map_some, dTru, at_t0, at_t1, at_t2, at_t3, at_l0, at_l1, at_l2, at_l3, eq_int, ne_int, lt_int, gt_int, le_int, ge_int, add_int, sub_int, int_int, int_bool, len_l, len_t, len_scr, dListOf, dTupOf, decide_eq_true_eq, List.length_map, Nat.reduceAdd, Nat.reduceSub, Nat.reduceLeDiff, Nat.zero_add, if_true, if_false, ↓reduceIte, Bool.false_eq_true, Bool.not_true, Bool.not_false, fIn_ap, fGet_ap, inT_f, inT_t, gtT_s, key_i, isS_s, isS_n, map_none, sum_int, all_b, any_b, isi_int, isi_intb, isi_list, sTry_ap, tryE_ex, tryE_nx, tryE_rt, tryC_nx, tryC_rt, tryC_f, set_ap, setS_l, vDct1_ap, vch_ap, chB_b, chE_t, chE_f, gT_t, gsC_c, gsN_n, gN_ap]
  · have := comp_gen (is := [3]) (t := gN 3) (c := cc_law_cases_1) (fe := ce_law_cases_1) (Γ := [some (.z, .tuple [n, .tuple (cs.map cellD), outs, h4]), a1, a2, none]) (fun _ => .int 1) isL (cs.map cellD) (fun dd hd => by
        obtain ⟨⟨k, sr, nt⟩, hc, rfl⟩ := List.mem_map.mp hd
        generalize cs.map cellD = w
        refine ⟨_, rfl, ?_, fun q => rfl, rfl⟩
        unfold cc_law_cases_1
        show bV _ [some (.z, .tuple [n, .tuple w, outs, h4]), a1, a2, some (.z, .tuple [.str k, T sr, .int nt])] = .ok (decide (k = S "latch")) [some (.z, .tuple [n, .tuple w, outs, h4]), a1, a2, some (.z, .tuple [.str k, T sr, .int nt])]
        simp only [runD_ap, seq_eq, then_nx, then_rt, then_ex, then_ct, then_bk, sB_ok, sB_ex, bind_ok, bind_ex, of_some, gZ_z, gB_s, gBl_l, gBl_z, gF_s, gM_s, fC_ap, fN_ap, fZ_ap, vMv_ap, fV_ap, vF_ap, oF_f, oF_l, oB_f, oB_l, osN_f, osN_l, osC_f, osC_l, o2_ap, fB_ap, fsN_ap, fsC_ap, fLst_ap, fTup_ap, fMt_ap, mtS_l, mtE_l, bB_b, bV_ap, bBo_b, bF_ap, bO_ap, bNot_ap, bAnd_ap, bOr_ap, vIf_ap, vA_b, vO_b, vAnd_ap, vOr_ap, dNot_b, fNot_ap, dNg_i, fNeg_ap, fPN_ap, dPs_i, fPS_ap, vCut_ap, fIsi_ap, rOut_ok, rOut_ex, fCall_ap, fDct0_ap, dIterL_l, dIterL_t, iLT_ap, iR1_ap, iR2_ap, iEn_ap, iZp_ap, vLR1_ap, sNx_ap, sAsg_ap, sRet_ap, sExp_ap, sIf_ap, sFor_ap, oNx_s, sTgt_ap, fzE_s, sFz_ap, sRaise_ap, res_nx, res_rt, res_ex, st0, List.map_cons, List.map_nil, List.length_cons, List.length_nil, List.replicate_succ, List.replicate_zero, List.cons_append, List.nil_append, List.append_nil, List.getElem?_cons_zero, List.getElem?_cons_succ, List.set_cons_zero, List.set_cons_succ, Option.bind_some, Option.map_some, dTru, at_t0, at_t1, at_t2, at_t3, at_l0, at_l1, at_l2, at_l3, eq_int, ne_int, lt_int, gt_int, le_int, ge_int, add_int, sub_int, int_int, int_bool, len_l, len_t, len_scr, dListOf, dTupOf, decide_eq_true_eq, List.length_map, Nat.reduceAdd, Nat.reduceSub, Nat.reduceLeDiff, Nat.zero_add, if_true, if_false, ↓reduceIte, Bool.false_eq_true, Bool.not_true, Bool.not_false, fIn_ap, fGet_ap, inT_f, inT_t, gtT_s, key_i, isS_s, isS_n, map_none, sum_int, all_b, any_b, isi_int, isi_intb, isi_list, sTry_ap, tryE_ex, tryE_nx, tryE_rt, tryC_nx, tryC_rt, tryC_f, set_ap, setS_l, vDct1_ap, vch_ap, chB_b, chE_t, chE_f, gT_t, gsC_c, gsN_n, gN_ap, eq_str])
    rw [filt] at this
    exact this
theorem lc_turn (p : Option Va) (k : Option Va) (x : Int) : lb_law_cases_1 [p, some (.z, .int x), k, none] = .nx [p, some (.z, .int (x * 2)), k, none] := by
  have e : dMul (.int x) (.int 2) = some (.z, .int (x * 2)) := mul_ok (.inr (by decide))
  unfold lb_law_cases_1
  simp only [runD_ap, seq_eq, then_nx, then_rt, then_ex, then_ct, then_bk, sB_ok, sB_ex, bind_ok, bind_ex, of_some, gZ_z, gB_s, gBl_l, gBl_z, gF_s, gM_s, fC_ap, fN_ap, fZ_ap, vMv_ap, fV_ap, vF_ap, oF_f, oF_l, oB_f, oB_l, osN_f, osN_l, osC_f, osC_l, o2_ap, fB_ap, fsN_ap, fsC_ap, fLst_ap, fTup_ap, fMt_ap, mtS_l, mtE_l, bB_b, bV_ap, bBo_b, bF_ap, bO_ap, bNot_ap, bAnd_ap, bOr_ap, vIf_ap, vA_b, vO_b, vAnd_ap, vOr_ap, dNot_b, fNot_ap, dNg_i, fNeg_ap, fPN_ap, dPs_i, fPS_ap, vCut_ap, fIsi_ap, rOut_ok, rOut_ex, fCall_ap, fDct0_ap, dIterL_l, dIterL_t, iLT_ap, iR1_ap, iR2_ap, iEn_ap, iZp_ap, vLR1_ap, sNx_ap, sAsg_ap, sRet_ap, sExp_ap, sIf_ap, sFor_ap, oNx_s, sTgt_ap, fzE_s, sFz_ap, sRaise_ap, res_nx, res_rt, res_ex, st0, List.map_cons, List.map_nil, List.length_cons, List.length_nil, List.replicate_succ, List.replicate_zero, List.cons_append, List.nil_append, List.append_nil, List.getElem?_cons_zero, List.getElem?_cons_succ, List.set_cons_zero, List.set_cons_succ, Option.bind_some, Option.map_some, dTru, at_t0, at_t1, at_t2, at_t3, at_l0, at_l1, at_l2, at_l3, eq_int, ne_int, lt_int, gt_int, le_int, ge_int, add_int, sub_int, int_int, int_bool, len_l, len_t, len_scr, dListOf, dTupOf, decide_eq_true_eq, List.length_map, Nat.reduceAdd, Nat.reduceSub, Nat.reduceLeDiff, Nat.zero_add, if_true, if_false, ↓reduceIte, Bool.false_eq_true, Bool.not_true, Bool.not_false, fIn_ap, fGet_ap, inT_f, inT_t, gtT_s, key_i, isS_s, isS_n, map_none, sum_int, all_b, any_b, isi_int, isi_intb, isi_list, sTry_ap, tryE_ex, tryE_nx, tryE_rt, tryC_nx, tryC_rt, tryC_f, set_ap, setS_l, vDct1_ap, vch_ap, chB_b, chE_t, chE_f, gT_t, gsC_c, gsN_n, gN_ap, e]
theorem lc_loop (p : Option Va) (m : Nat) : ∃ kv, sForL (gN 2) lb_law_cases_1 (rangeL 0 m) [p, some (.z, .int 1), none, none] = .nx [p, some (.z, .int ((2 ^ m : Nat) : Int)), kv, none] := by
  have hh : ∃ Γ', sForL (gN 2) lb_law_cases_1 (rangeL 0 m) [p, some (.z, .int 1), none, none] = .nx Γ' ∧ ∃ kv, Γ' = [p, some (.z, .int ((2 ^ (0 + (rangeL 0 m).length) : Nat) : Int)), kv, none] :=
    forL_inv (fun j Γ => ∃ kv, Γ = [p, some (.z, .int ((2 ^ j : Nat) : Int)), kv, none]) (rangeL 0 m) 0 _ ⟨none, rfl⟩ (by
      rintro i d Γ hd ⟨kv, rfl⟩
      refine ⟨_, _, rfl, .inl (lc_turn p (some (.z, d)) _), some (.z, d), ?_⟩
      rw [Nat.zero_add, Nat.pow_succ]
      rfl)
  obtain ⟨Γ', e, kv, rfl⟩ := hh
  rw [range_len, Nat.zero_add] at e
  exact ⟨kv, e⟩
theorem law_cases_ok (outs h4 : D) (n : Nat) (cs : List Cell) (hl : cs.length ≤ 30) (hn : n ≤ 30) (hla : nlat cs ≤ 30) : F_law_cases [.tuple [.int n, .tuple (cs.map cellD), outs, h4]] = .ok (.z, .int ((2 ^ (n + nlat cs) : Nat) : Int)) := by
  obtain ⟨kv, e1⟩ := lc_loop (some (.z, .tuple [.int n, .tuple (cs.map cellD), outs, h4])) (n + nlat cs)
  have e2 := lc_comp (.int n) outs h4 cs (by omega) (some (.z, .int 1)) none
  have e3 : (((lats cs).map cellD).map fun _ => PyData.int 1).length = nlat cs := by rw [List.length_map, nlat_eq]
  have e4 : (n : Int) + (nlat cs : Nat) = ((n + nlat cs : Nat) : Int) := by omega
  generalize ((2 ^ (n + nlat cs) : Nat) : Int) = z at *
  generalize (((lats cs).map cellD).map fun _ => PyData.int 1) = y at *
  generalize cs.map cellD = w at *
  unfold F_law_cases fb_law_cases
  simp (disch := omega) only [runD_ap, seq_eq, then_nx, then_rt, then_ex, then_ct, then_bk, sB_ok, sB_ex, bind_ok, bind_ex, of_some, gZ_z, gB_s, gBl_l, gBl_z, gF_s, gM_s, fC_ap, fN_ap, fZ_ap, vMv_ap, fV_ap, vF_ap, oF_f, oF_l, oB_f, oB_l, osN_f, osN_l, osC_f, osC_l, o2_ap, fB_ap, fsN_ap, fsC_ap, fLst_ap, fTup_ap, fMt_ap, mtS_l, mtE_l, bB_b, bV_ap, bBo_b, bF_ap, bO_ap, bNot_ap, bAnd_ap, bOr_ap, vIf_ap, vA_b, vO_b, vAnd_ap, vOr_ap, dNot_b, fNot_ap, dNg_i, fNeg_ap, fPN_ap, dPs_i, fPS_ap, vCut_ap, fIsi_ap, rOut_ok, rOut_ex, fCall_ap, fDct0_ap, dIterL_l, dIterL_t, iLT_ap, iR1_ap, iR2_ap, iEn_ap, iZp_ap, vLR1_ap, sNx_ap, sAsg_ap, sRet_ap, sExp_ap, sIf_ap, sFor_ap, oNx_s, sTgt_ap, fzE_s, sFz_ap, sRaise_ap, res_nx, res_rt, res_ex, st0, List.map_cons, List.map_nil, List.length_cons, List.length_nil, List.replicate_succ, List.replicate_zero, List.cons_append, List.nil_append, List.append_nil, List.getElem?_cons_zero, List.getElem?_cons_succ, List.set_cons_zero, List.set_cons_succ, Option.bind_some, Option.map_some, dTru, at_t0, at_t1, at_t2, at_t3, at_l0, at_l1, at_l2, at_l3, eq_int, ne_int, lt_int, gt_int, le_int, ge_int, add_int, sub_int, int_int, int_bool, len_l, len_t, len_scr, dListOf, dTupOf, decide_eq_true_eq, List.length_map, Nat.reduceAdd, Nat.reduceSub, Nat.reduceLeDiff, Nat.zero_add, if_true, if_false, ↓reduceIte, Bool.false_eq_true, Bool.not_true, Bool.not_false, fIn_ap, fGet_ap, inT_f, inT_t, gtT_s, key_i, isS_s, isS_n, map_none, sum_int, all_b, any_b, isi_int, isi_intb, isi_list, sTry_ap, tryE_ex, tryE_nx, tryE_rt, tryC_nx, tryC_rt, tryC_f, set_ap, setS_l, vDct1_ap, vch_ap, chB_b, chE_t, chE_f, gT_t, gsC_c, gsN_n, gN_ap, e2, e3, e4, if_pos, Int.toNat_natCast, e1]
/-! the law's own loops -/
def isN (o : Option Nat) : Bool := match o with | none => true | some _ => false
theorem is_opt (o : Option Nat) : dIs (optD o) .none = some (.z, .bool (isN o)) := by cases o <;> rfl
theorem isnt_opt (o : Option Nat) : dIsnt (optD o) .none = some (.z, .bool !(isN o)) := by cases o <;> rfl
theorem l1_turn (s d pt h : Option Va) (dd : D) (plain : List D) (net v : Int) (j : Nat) (o : Option Nat) (x y : List Int) (a9 a10 : Option Va) (e1 : F_law_answers [dd, .int j, .int net, .int v] = .ok (.l .z, L x)) (e2 : plain[j]? = some (L y)) :
    lb_law_1 [s, some (.z, dd), pt, some (.z, .list plain), h, some (.z, .int net), some (.z, .int v), some (.z, optD o), some (.z, .int j), a9, a10] = .nx [s, some (.z, dd), pt, some (.z, .list plain), h, some (.z, .int net), some (.z, .int v), some (.z, optD (o.or (if x = y then none else some j))), some (.z, .int j), a9, a10] := by
  have e3 := at_list e2
  unfold lb_law_1
  cases o with
  | none =>
    by_cases q : x = y
    · rw [if_pos q]
      simp only [runD_ap, seq_eq, then_nx, then_rt, then_ex, then_ct, then_bk, sB_ok, sB_ex, bind_ok, bind_ex, of_some, gZ_z, gB_s, gBl_l, gBl_z, gF_s, gM_s, fC_ap, fN_ap, fZ_ap, vMv_ap, fV_ap, vF_ap, oF_f, oF_l, oB_f, oB_l, osN_f, osN_l, osC_f, osC_l, o2_ap, fB_ap, fsN_ap, fsC_ap, fLst_ap, fTup_ap, fMt_ap, mtS_l, mtE_l, bB_b, bV_ap, bBo_b, bF_ap, bO_ap, bNot_ap, bAnd_ap, bOr_ap, vIf_ap, vA_b, vO_b, vAnd_ap, vOr_ap, dNot_b, fNot_ap, dNg_i, fNeg_ap, fPN_ap, dPs_i, fPS_ap, vCut_ap, fIsi_ap, rOut_ok, rOut_ex, fCall_ap, fDct0_ap, dIterL_l, dIterL_t, iLT_ap, iR1_ap, iR2_ap, iEn_ap, iZp_ap, vLR1_ap, sNx_ap, sAsg_ap, sRet_ap, sExp_ap, sIf_ap, sFor_ap, oNx_s, sTgt_ap, fzE_s, sFz_ap, sRaise_ap, res_nx, res_rt, res_ex, st0, List.map_cons, List.map_nil, List.length_cons, List.length_nil, List.replicate_succ, List.replicate_zero, List.cons_append, List.nil_append, List.append_nil, List.getElem?_cons_zero, List.getElem?_cons_succ, List.set_cons_zero, List.set_cons_succ, Option.bind_some, Option.map_some, dTru, at_t0, at_t1, at_t2, at_t3, at_l0, at_l1, at_l2, at_l3, eq_int, ne_int, lt_int, gt_int, le_int, ge_int, add_int, sub_int, int_int, int_bool, len_l, len_t, len_scr, dListOf, dTupOf, decide_eq_true_eq, List.length_map, Nat.reduceAdd, Nat.reduceSub, Nat.reduceLeDiff, Nat.zero_add, if_true, if_false, ↓reduceIte, Bool.false_eq_true, Bool.not_true, Bool.not_false, fIn_ap, fGet_ap, inT_f, inT_t, gtT_s, key_i, isS_s, isS_n, map_none, sum_int, all_b, any_b, isi_int, isi_intb, isi_list, sTry_ap, tryE_ex, tryE_nx, tryE_rt, tryC_nx, tryC_rt, tryC_f, set_ap, setS_l, vDct1_ap, vch_ap, chB_b, chE_t, chE_f, gT_t, gsC_c, gsN_n, gN_ap, is_opt, isN, e1, e3, ne_L, decide_eq_true q, Option.or]
    · rw [if_neg q]
      simp only [runD_ap, seq_eq, then_nx, then_rt, then_ex, then_ct, then_bk, sB_ok, sB_ex, bind_ok, bind_ex, of_some, gZ_z, gB_s, gBl_l, gBl_z, gF_s, gM_s, fC_ap, fN_ap, fZ_ap, vMv_ap, fV_ap, vF_ap, oF_f, oF_l, oB_f, oB_l, osN_f, osN_l, osC_f, osC_l, o2_ap, fB_ap, fsN_ap, fsC_ap, fLst_ap, fTup_ap, fMt_ap, mtS_l, mtE_l, bB_b, bV_ap, bBo_b, bF_ap, bO_ap, bNot_ap, bAnd_ap, bOr_ap, vIf_ap, vA_b, vO_b, vAnd_ap, vOr_ap, dNot_b, fNot_ap, dNg_i, fNeg_ap, fPN_ap, dPs_i, fPS_ap, vCut_ap, fIsi_ap, rOut_ok, rOut_ex, fCall_ap, fDct0_ap, dIterL_l, dIterL_t, iLT_ap, iR1_ap, iR2_ap, iEn_ap, iZp_ap, vLR1_ap, sNx_ap, sAsg_ap, sRet_ap, sExp_ap, sIf_ap, sFor_ap, oNx_s, sTgt_ap, fzE_s, sFz_ap, sRaise_ap, res_nx, res_rt, res_ex, st0, List.map_cons, List.map_nil, List.length_cons, List.length_nil, List.replicate_succ, List.replicate_zero, List.cons_append, List.nil_append, List.append_nil, List.getElem?_cons_zero, List.getElem?_cons_succ, List.set_cons_zero, List.set_cons_succ, Option.bind_some, Option.map_some, dTru, at_t0, at_t1, at_t2, at_t3, at_l0, at_l1, at_l2, at_l3, eq_int, ne_int, lt_int, gt_int, le_int, ge_int, add_int, sub_int, int_int, int_bool, len_l, len_t, len_scr, dListOf, dTupOf, decide_eq_true_eq, List.length_map, Nat.reduceAdd, Nat.reduceSub, Nat.reduceLeDiff, Nat.zero_add, if_true, if_false, ↓reduceIte, Bool.false_eq_true, Bool.not_true, Bool.not_false, fIn_ap, fGet_ap, inT_f, inT_t, gtT_s, key_i, isS_s, isS_n, map_none, sum_int, all_b, any_b, isi_int, isi_intb, isi_list, sTry_ap, tryE_ex, tryE_nx, tryE_rt, tryC_nx, tryC_rt, tryC_f, set_ap, setS_l, vDct1_ap, vch_ap, chB_b, chE_t, chE_f, gT_t, gsC_c, gsN_n, gN_ap, is_opt, isN, e1, e3, ne_L, decide_eq_false q, Option.or]
      rfl
  | some k =>
    simp only [runD_ap, seq_eq, then_nx, then_rt, then_ex, then_ct, then_bk, sB_ok, sB_ex, bind_ok, bind_ex, of_some, gZ_z, gB_s, gBl_l, gBl_z, gF_s, gM_s, fC_ap, fN_ap, fZ_ap, vMv_ap, fV_ap, vF_ap, oF_f, oF_l, oB_f, oB_l, osN_f, osN_l, osC_f, osC_l, o2_ap, fB_ap, fsN_ap, fsC_ap, fLst_ap, fTup_ap, fMt_ap, mtS_l, mtE_l, bB_b, bV_ap, bBo_b, bF_ap, bO_ap, bNot_ap, bAnd_ap, bOr_ap, vIf_ap, vA_b, vO_b, vAnd_ap, vOr_ap, dNot_b, fNot_ap, dNg_i, fNeg_ap, fPN_ap, dPs_i, fPS_ap, vCut_ap, fIsi_ap, rOut_ok, rOut_ex, fCall_ap, fDct0_ap, dIterL_l, dIterL_t, iLT_ap, iR1_ap, iR2_ap, iEn_ap, iZp_ap, vLR1_ap, sNx_ap, sAsg_ap, sRet_ap, sExp_ap, sIf_ap, sFor_ap, oNx_s, sTgt_ap, fzE_s, sFz_ap, sRaise_ap, res_nx, res_rt, res_ex, st0, List.map_cons, List.map_nil, List.length_cons, List.length_nil, List.replicate_succ, List.replicate_zero, List.cons_append, List.nil_append, List.append_nil, List.getElem?_cons_zero, List.getElem?_cons_succ, List.set_cons_zero, List.set_cons_succ, Option.bind_some, Option.map_some, dTru, at_t0, at_t1, at_t2, at_t3, at_l0, at_l1, at_l2, at_l3, eq_int, ne_int, lt_int, gt_int, le_int, ge_int, add_int, sub_int, int_int, int_bool, len_l, len_t, len_scr, dListOf, dTupOf, decide_eq_true_eq, List.length_map, Nat.reduceAdd, Nat.reduceSub, Nat.reduceLeDiff, Nat.zero_add, if_true, if_false, ↓reduceIte, Bool.false_eq_true, Bool.not_true, Bool.not_false, fIn_ap, fGet_ap, inT_f, inT_t, gtT_s, key_i, isS_s, isS_n, map_none, sum_int, all_b, any_b, isi_int, isi_intb, isi_list, sTry_ap, tryE_ex, tryE_nx, tryE_rt, tryC_nx, tryC_rt, tryC_f, set_ap, setS_l, vDct1_ap, vch_ap, chB_b, chE_t, chE_f, gT_t, gsC_c, gsN_n, gN_ap, is_opt, isN, Option.or]
theorem find_succ (P : Nat → Bool) (j : Nat) : (List.range (j + 1)).find? P = ((List.range j).find? P).or (if P j = true then some j else none) := by
  rw [List.range_succ, List.find?_append]
  congr 1
  rw [List.find?_cons]
  cases P j <;> rfl
theorem l1_loop (s pt h : Option Va) (dd : D) (C : Nat) (net v : Int) (X Y : Nat → List Int) (a9 a10 a8 : Option Va) (e1 : ∀ j < C, F_law_answers [dd, .int j, .int net, .int v] = .ok (.l .z, L (X j))) :
    ∃ kv, sForL (gN 8) lb_law_1 (rangeL 0 C) [s, some (.z, dd), pt, some (.z, .list ((List.range C).map fun j => L (Y j))), h, some (.z, .int net), some (.z, .int v), some (.z, .none), a8, a9, a10] = .nx [s, some (.z, dd), pt, some (.z, .list ((List.range C).map fun j => L (Y j))), h, some (.z, .int net), some (.z, .int v), some (.z, optD ((List.range C).find? fun j => !(decide (X j = Y j)))), kv, a9, a10] := by
  have hh : ∃ Γ', sForL (gN 8) lb_law_1 (rangeL 0 C) [s, some (.z, dd), pt, some (.z, .list ((List.range C).map fun j => L (Y j))), h, some (.z, .int net), some (.z, .int v), some (.z, .none), a8, a9, a10] = .nx Γ' ∧ ∃ kv, Γ' = [s, some (.z, dd), pt, some (.z, .list ((List.range C).map fun j => L (Y j))), h, some (.z, .int net), some (.z, .int v), some (.z, optD ((List.range (0 + (rangeL 0 C).length)).find? fun j => !(decide (X j = Y j)))), kv, a9, a10] :=
    forL_inv (fun m Γ => ∃ kv, Γ = [s, some (.z, dd), pt, some (.z, .list ((List.range C).map fun j => L (Y j))), h, some (.z, .int net), some (.z, .int v), some (.z, optD ((List.range m).find? fun j => !(decide (X j = Y j)))), kv, a9, a10]) (rangeL 0 C) 0 _ ⟨a8, rfl⟩ (by
      rintro i d Γ hd ⟨kv, rfl⟩
      obtain ⟨hi, rfl⟩ := range0_get hd
      rw [Nat.zero_add]
      have hg : ((List.range C).map fun j => L (Y j))[i]? = some (L (Y i)) := by rw [List.getElem?_map, List.getElem?_range hi]; rfl
      refine ⟨_, _, rfl, .inl (l1_turn s s pt h dd _ net v i _ (X i) (Y i) a9 a10 (e1 i hi) hg), some (.z, .int i), ?_⟩
      rw [find_succ]
      congr 8
      by_cases q : X i = Y i
      · simp [q]
      · simp [q])
  obtain ⟨Γ', e, kv, rfl⟩ := hh
  rw [range_len, Nat.zero_add] at e
  exact ⟨kv, e⟩
theorem isint_ok (x : Int) : F_law_is_integer [.int x] = .ok (.z, .bool true) := by
  unfold F_law_is_integer fb_law_is_integer
  simp only [runD_ap, seq_eq, then_nx, then_rt, then_ex, then_ct, then_bk, sB_ok, sB_ex, bind_ok, bind_ex, of_some, gZ_z, gB_s, gBl_l, gBl_z, gF_s, gM_s, fC_ap, fN_ap, fZ_ap, vMv_ap, fV_ap, vF_ap, oF_f, oF_l, oB_f, oB_l, osN_f, osN_l, osC_f, osC_l, o2_ap, fB_ap, fsN_ap, fsC_ap, fLst_ap, fTup_ap, fMt_ap, mtS_l, mtE_l, bB_b, bV_ap, bBo_b, bF_ap, bO_ap, bNot_ap, bAnd_ap, bOr_ap, vIf_ap, vA_b, vO_b, vAnd_ap, vOr_ap, dNot_b, fNot_ap, dNg_i, fNeg_ap, fPN_ap, dPs_i, fPS_ap, vCut_ap, fIsi_ap, rOut_ok, rOut_ex, fCall_ap, fDct0_ap, dIterL_l, dIterL_t, iLT_ap, iR1_ap, iR2_ap, iEn_ap, iZp_ap, vLR1_ap, sNx_ap, sAsg_ap, sRet_ap, sExp_ap, sIf_ap, sFor_ap, oNx_s, sTgt_ap, fzE_s, sFz_ap, sRaise_ap, res_nx, res_rt, res_ex, st0, List.map_cons, List.map_nil, List.length_cons, List.length_nil, List.replicate_succ, List.replicate_zero, List.cons_append, List.nil_append, List.append_nil, List.getElem?_cons_zero, List.getElem?_cons_succ, List.set_cons_zero, List.set_cons_succ, Option.bind_some, Option.map_some, dTru, at_t0, at_t1, at_t2, at_t3, at_l0, at_l1, at_l2, at_l3, eq_int, ne_int, lt_int, gt_int, le_int, ge_int, add_int, sub_int, int_int, int_bool, len_l, len_t, len_scr, dListOf, dTupOf, decide_eq_true_eq, List.length_map, Nat.reduceAdd, Nat.reduceSub, Nat.reduceLeDiff, Nat.zero_add, if_true, if_false, ↓reduceIte, Bool.false_eq_true, Bool.not_true, Bool.not_false, fIn_ap, fGet_ap, inT_f, inT_t, gtT_s, key_i, isS_s, isS_n, map_none, sum_int, all_b, any_b, isi_int, isi_intb, isi_list, sTry_ap, tryE_ex, tryE_nx, tryE_rt, tryC_nx, tryC_rt, tryC_f, set_ap, setS_l, vDct1_ap, vch_ap, chB_b, chE_t, chE_f, gT_t, gsC_c, gsN_n, gN_ap]
theorem l2_turn (s pt : Option Va) (dd : D) (C : Nat) (plain hid : List D) (hp : plain.length = C) (hC : C ≤ 64) (hh : hid.length ≤ 1000) (net v : Int) (o : Option Nat) (a7 a8 a9 a10 kv : Option Va)
    (e1 : sForL (gN 8) lb_law_1 (rangeL 0 C) [s, some (.z, dd), pt, some (.z, .list plain), some (.l .z, .list hid), some (.z, .int net), some (.z, .int v), some (.z, .none), a8, a9, a10] = .nx [s, some (.z, dd), pt, some (.z, .list plain), some (.l .z, .list hid), some (.z, .int net), some (.z, .int v), some (.z, optD o), kv, a9, a10])
    (e2 : F_first_case [dd, .tuple [.int net, .int v]] = .ok (.z, optD o)) :
    lb_law_2 [s, some (.z, dd), pt, some (.z, .list plain), some (.l .z, .list hid), some (.z, .int net), some (.z, .int v), a7, a8, a9, a10] = .nx [s, some (.z, dd), pt, some (.z, .list plain), some (.l .z, .list (hid ++ (if isN o = true then [flD (net, v)] else []))), some (.z, .int net), some (.z, .int v), some (.z, optD o), kv, some (.z, optD o), a10] := by
  unfold lb_law_2
  cases o with
  | none =>
    simp (disch := first | decide | omega) only [runD_ap, seq_eq, then_nx, then_rt, then_ex, then_ct, then_bk, sB_ok, sB_ex, bind_ok, bind_ex, of_some, gZ_z, gB_s, gBl_l, gBl_z, gF_s, gM_s, fC_ap, fN_ap, fZ_ap, vMv_ap, fV_ap, vF_ap, oF_f, oF_l, oB_f, oB_l, osN_f, osN_l, osC_f, osC_l, o2_ap, fB_ap, fsN_ap, fsC_ap, fLst_ap, fTup_ap, fMt_ap, mtS_l, mtE_l, bB_b, bV_ap, bBo_b, bF_ap, bO_ap, bNot_ap, bAnd_ap, bOr_ap, vIf_ap, vA_b, vO_b, vAnd_ap, vOr_ap, dNot_b, fNot_ap, dNg_i, fNeg_ap, fPN_ap, dPs_i, fPS_ap, vCut_ap, fIsi_ap, rOut_ok, rOut_ex, fCall_ap, fDct0_ap, dIterL_l, dIterL_t, iLT_ap, iR1_ap, iR2_ap, iEn_ap, iZp_ap, vLR1_ap, sNx_ap, sAsg_ap, sRet_ap, sExp_ap, sIf_ap, sFor_ap, oNx_s, sTgt_ap, fzE_s, sFz_ap, sRaise_ap, res_nx, res_rt, res_ex, st0, List.map_cons, List.map_nil, List.length_cons, List.length_nil, List.replicate_succ, List.replicate_zero, List.cons_append, List.nil_append, List.append_nil, List.getElem?_cons_zero, List.getElem?_cons_succ, List.set_cons_zero, List.set_cons_succ, Option.bind_some, Option.map_some, dTru, at_t0, at_t1, at_t2, at_t3, at_l0, at_l1, at_l2, at_l3, eq_int, ne_int, lt_int, gt_int, le_int, ge_int, add_int, sub_int, int_int, int_bool, len_l, len_t, len_scr, dListOf, dTupOf, decide_eq_true_eq, List.length_map, Nat.reduceAdd, Nat.reduceSub, Nat.reduceLeDiff, Nat.zero_add, if_true, if_false, ↓reduceIte, Bool.false_eq_true, Bool.not_true, Bool.not_false, fIn_ap, fGet_ap, inT_f, inT_t, gtT_s, key_i, isS_s, isS_n, map_none, sum_int, all_b, any_b, isi_int, isi_intb, isi_list, sTry_ap, tryE_ex, tryE_nx, tryE_rt, tryC_nx, tryC_rt, tryC_f, set_ap, setS_l, vDct1_ap, vch_ap, chB_b, chE_t, chE_f, gT_t, gsC_c, gsN_n, gN_ap, hp, if_pos, Int.toNat_natCast, e1, e2, is_opt, isnt_opt, isN, app_d]
  | some k =>
    simp (disch := first | decide | omega) only [runD_ap, seq_eq, then_nx, then_rt, then_ex, then_ct, then_bk, sB_ok, sB_ex, bind_ok, bind_ex, of_some, gZ_z, gB_s, gBl_l, gBl_z, gF_s, gM_s, fC_ap, fN_ap, fZ_ap, vMv_ap, fV_ap, vF_ap, oF_f, oF_l, oB_f, oB_l, osN_f, osN_l, osC_f, osC_l, o2_ap, fB_ap, fsN_ap, fsC_ap, fLst_ap, fTup_ap, fMt_ap, mtS_l, mtE_l, bB_b, bV_ap, bBo_b, bF_ap, bO_ap, bNot_ap, bAnd_ap, bOr_ap, vIf_ap, vA_b, vO_b, vAnd_ap, vOr_ap, dNot_b, fNot_ap, dNg_i, fNeg_ap, fPN_ap, dPs_i, fPS_ap, vCut_ap, fIsi_ap, rOut_ok, rOut_ex, fCall_ap, fDct0_ap, dIterL_l, dIterL_t, iLT_ap, iR1_ap, iR2_ap, iEn_ap, iZp_ap, vLR1_ap, sNx_ap, sAsg_ap, sRet_ap, sExp_ap, sIf_ap, sFor_ap, oNx_s, sTgt_ap, fzE_s, sFz_ap, sRaise_ap, res_nx, res_rt, res_ex, st0, List.map_cons, List.map_nil, List.length_cons, List.length_nil, List.replicate_succ, List.replicate_zero, List.cons_append, List.nil_append, List.append_nil, List.getElem?_cons_zero, List.getElem?_cons_succ, List.set_cons_zero, List.set_cons_succ, Option.bind_some, Option.map_some, dTru, at_t0, at_t1, at_t2, at_t3, at_l0, at_l1, at_l2, at_l3, eq_int, ne_int, lt_int, gt_int, le_int, ge_int, add_int, sub_int, int_int, int_bool, len_l, len_t, len_scr, dListOf, dTupOf, decide_eq_true_eq, List.length_map, Nat.reduceAdd, Nat.reduceSub, Nat.reduceLeDiff, Nat.zero_add, if_true, if_false, ↓reduceIte, Bool.false_eq_true, Bool.not_true, Bool.not_false, fIn_ap, fGet_ap, inT_f, inT_t, gtT_s, key_i, isS_s, isS_n, map_none, sum_int, all_b, any_b, isi_int, isi_intb, isi_list, sTry_ap, tryE_ex, tryE_nx, tryE_rt, tryC_nx, tryC_rt, tryC_f, set_ap, setS_l, vDct1_ap, vch_ap, chB_b, chE_t, chE_f, gT_t, gsC_c, gsN_n, gN_ap, hp, if_pos, Int.toNat_natCast, e1, e2, is_opt, isN, app_d]
    show sIf _ _ _ _ = _
    unfold optD
    simp (disch := first | decide | omega) only [runD_ap, seq_eq, then_nx, then_rt, then_ex, then_ct, then_bk, sB_ok, sB_ex, bind_ok, bind_ex, of_some, gZ_z, gB_s, gBl_l, gBl_z, gF_s, gM_s, fC_ap, fN_ap, fZ_ap, vMv_ap, fV_ap, vF_ap, oF_f, oF_l, oB_f, oB_l, osN_f, osN_l, osC_f, osC_l, o2_ap, fB_ap, fsN_ap, fsC_ap, fLst_ap, fTup_ap, fMt_ap, mtS_l, mtE_l, bB_b, bV_ap, bBo_b, bF_ap, bO_ap, bNot_ap, bAnd_ap, bOr_ap, vIf_ap, vA_b, vO_b, vAnd_ap, vOr_ap, dNot_b, fNot_ap, dNg_i, fNeg_ap, fPN_ap, dPs_i, fPS_ap, vCut_ap, fIsi_ap, rOut_ok, rOut_ex, fCall_ap, fDct0_ap, dIterL_l, dIterL_t, iLT_ap, iR1_ap, iR2_ap, iEn_ap, iZp_ap, vLR1_ap, sNx_ap, sAsg_ap, sRet_ap, sExp_ap, sIf_ap, sFor_ap, oNx_s, sTgt_ap, fzE_s, sFz_ap, sRaise_ap, res_nx, res_rt, res_ex, st0, List.map_cons, List.map_nil, List.length_cons, List.length_nil, List.replicate_succ, List.replicate_zero, List.cons_append, List.nil_append, List.append_nil, List.getElem?_cons_zero, List.getElem?_cons_succ, List.set_cons_zero, List.set_cons_succ, Option.bind_some, Option.map_some, dTru, at_t0, at_t1, at_t2, at_t3, at_l0, at_l1, at_l2, at_l3, eq_int, ne_int, lt_int, gt_int, le_int, ge_int, add_int, sub_int, int_int, int_bool, len_l, len_t, len_scr, dListOf, dTupOf, decide_eq_true_eq, List.length_map, Nat.reduceAdd, Nat.reduceSub, Nat.reduceLeDiff, Nat.zero_add, if_true, if_false, ↓reduceIte, Bool.false_eq_true, Bool.not_true, Bool.not_false, fIn_ap, fGet_ap, inT_f, inT_t, gtT_s, key_i, isS_s, isS_n, map_none, sum_int, all_b, any_b, isi_int, isi_intb, isi_list, sTry_ap, tryE_ex, tryE_nx, tryE_rt, tryC_nx, tryC_rt, tryC_f, set_ap, setS_l, vDct1_ap, vch_ap, chB_b, chE_t, chE_f, gT_t, gsC_c, gsN_n, gN_ap, isint_ok, decide_true]
end K09
namespace K09
open PySem PV
theorem flaws_succ (j : Nat) : flaws (j + 1) = flaws j ++ ([(((j : Nat) : Int), 0), (((j : Nat) : Int), 1)] : List (Int × Int)) := by
  unfold flaws
  rw [List.range_succ, List.flatMap_append]
  rfl
abbrev hidL (O : Int × Int → Option Nat) (fs : List (Int × Int)) : List D := (fs.filter fun f => isN (O f)).map flD
theorem hid_app (O : Int × Int → Option Nat) (fs : List (Int × Int)) (f : Int × Int) : hidL O fs ++ (if isN (O f) = true then [flD f] else []) = hidL O (fs ++ [f]) := by
  unfold hidL
  rw [List.filter_append, List.map_append]
  congr 1
  rw [List.filter_cons]
  cases isN (O f) <;> rfl
theorem hid_len (O : Int × Int → Option Nat) (fs : List (Int × Int)) : (hidL O fs).length ≤ fs.length := by
  unfold hidL
  rw [List.length_map]
  exact List.length_filter_le _ _
theorem flaws_len (m : Nat) : (flaws m).length = 2 * m := by
  induction m with
  | zero => rfl
  | succ m ih => rw [flaws_succ, List.length_append, ih]; simp only [List.length_cons, List.length_nil]; omega
theorem forL_cons {t : D → Ev → Option Ev} {body : Ev → SO} {d : D} {ds : List D} {Γ Γ1 Γ2 : Ev} (h1 : t d Γ = some Γ1) (h2 : body Γ1 = .nx Γ2) : sForL t body (d :: ds) Γ = sForL t body ds Γ2 := by
  rw [sForL, h1]
  dsimp only
  rw [h2]
theorem g6 {s d pt pl net a10 : Option Va} (v : Int) (h x6 x7 x8 x9 : Option Va) (u : Unit) : gN 6 (.int v) [s, d, pt, pl, h, net, x6, x7, x8, x9, a10] = some [s, d, pt, pl, h, net, some (.z, .int v), x7, x8, x9, a10] := id rfl
theorem l3_turn (s pt : Option Va) (dd : D) (plain : List D) (O : Int × Int → Option Nat) (fs : List (Int × Int)) (net : Int) (a6 a7 a8 a9 a10 : Option Va) (hl : fs.length ≤ 500)
    (e : ∀ (v : Int), v = 0 ∨ v = 1 → ∀ (hid : List D) (a7 a8 a9 : Option Va), hid.length ≤ 1000 → ∃ kv, lb_law_2 [s, some (.z, dd), pt, some (.z, .list plain), some (.l .z, .list hid), some (.z, .int net), some (.z, .int v), a7, a8, a9, a10] = .nx [s, some (.z, dd), pt, some (.z, .list plain), some (.l .z, .list (hid ++ (if isN (O (net, v)) = true then [flD (net, v)] else []))), some (.z, .int net), some (.z, .int v), some (.z, optD (O (net, v))), kv, some (.z, optD (O (net, v))), a10]) :
    ∃ a6' a7' a8' a9', lb_law_3 [s, some (.z, dd), pt, some (.z, .list plain), some (.l .z, .list (hidL O fs)), some (.z, .int net), a6, a7, a8, a9, a10] = .nx [s, some (.z, dd), pt, some (.z, .list plain), some (.l .z, .list (hidL O (fs ++ [(net, 0), (net, 1)]))), some (.z, .int net), a6', a7', a8', a9', a10] := by
  have hl0 := hid_len O fs
  have hl1 := hid_len O (fs ++ [(net, 0)])
  rw [List.length_append, List.length_singleton] at hl1
  obtain ⟨k0, t0⟩ := e 0 (.inl rfl) (hidL O fs) a7 a8 a9 (by omega)
  rw [hid_app] at t0
  obtain ⟨k1, t1⟩ := e 1 (.inr rfl) (hidL O (fs ++ [(net, 0)])) (some (.z, optD (O (net, 0)))) k0 (some (.z, optD (O (net, 0)))) (by omega)
  rw [hid_app, List.append_assoc] at t1
  refine ⟨some (.z, .int 1), some (.z, optD (O (net, 1))), k1, some (.z, optD (O (net, 1))), ?_⟩
  · unfold lb_law_3
    have er : iR1 (fsC (fC (.int 2)) fsN) [s, some (.z, dd), pt, some (.z, .list plain), some (.l .z, .list (hidL O fs)), some (.z, .int net), a6, a7, a8, a9, a10] = .ok [.int 0, .int 1] [s, some (.z, dd), pt, some (.z, .list plain), some (.l .z, .list (hidL O fs)), some (.z, .int net), a6, a7, a8, a9, a10] := by
      have r2 : rangeL 0 2 = [.int 0, .int 1] := rfl
      have h2 : (2 : Int).toNat = 2 := id rfl
      rw [← r2]
      generalize some ((Sh.l .z, PyData.list (hidL O fs)) : Va) = hh
      simp (disch := decide) only [runD_ap, seq_eq, then_nx, then_rt, then_ex, then_ct, then_bk, sB_ok, sB_ex, bind_ok, bind_ex, of_some, gZ_z, gB_s, gBl_l, gBl_z, gF_s, gM_s, fC_ap, fN_ap, fZ_ap, vMv_ap, fV_ap, vF_ap, oF_f, oF_l, oB_f, oB_l, osN_f, osN_l, osC_f, osC_l, o2_ap, fB_ap, fsN_ap, fsC_ap, fLst_ap, fTup_ap, fMt_ap, mtS_l, mtE_l, bB_b, bV_ap, bBo_b, bF_ap, bO_ap, bNot_ap, bAnd_ap, bOr_ap, vIf_ap, vA_b, vO_b, vAnd_ap, vOr_ap, dNot_b, fNot_ap, dNg_i, fNeg_ap, fPN_ap, dPs_i, fPS_ap, vCut_ap, fIsi_ap, rOut_ok, rOut_ex, fCall_ap, fDct0_ap, dIterL_l, dIterL_t, iLT_ap, iR1_ap, iR2_ap, iEn_ap, iZp_ap, vLR1_ap, sNx_ap, sAsg_ap, sRet_ap, sExp_ap, sIf_ap, sFor_ap, oNx_s, sTgt_ap, fzE_s, sFz_ap, sRaise_ap, res_nx, res_rt, res_ex, st0, List.map_cons, List.map_nil, List.length_cons, List.length_nil, List.replicate_succ, List.replicate_zero, List.cons_append, List.nil_append, List.append_nil, List.getElem?_cons_zero, List.getElem?_cons_succ, List.set_cons_zero, List.set_cons_succ, Option.bind_some, Option.map_some, dTru, at_t0, at_t1, at_t2, at_t3, at_l0, at_l1, at_l2, at_l3, eq_int, ne_int, lt_int, gt_int, le_int, ge_int, add_int, sub_int, int_int, int_bool, len_l, len_t, len_scr, dListOf, dTupOf, decide_eq_true_eq, List.length_map, Nat.reduceAdd, Nat.reduceSub, Nat.reduceLeDiff, Nat.zero_add, if_true, if_false, ↓reduceIte, Bool.false_eq_true, Bool.not_true, Bool.not_false, fIn_ap, fGet_ap, inT_f, inT_t, gtT_s, key_i, isS_s, isS_n, map_none, sum_int, all_b, any_b, isi_int, isi_intb, isi_list, sTry_ap, tryE_ex, tryE_nx, tryE_rt, tryC_nx, tryC_rt, tryC_f, set_ap, setS_l, vDct1_ap, vch_ap, chB_b, chE_t, chE_f, gT_t, gsC_c, gsN_n, gN_ap, if_pos, h2]
    rw [sFor_ap, er, sB_ok, forL_cons (g6 0 _ _ _ _ _ ()) t0, forL_cons (g6 1 _ _ _ _ _ ()) t1]
    unfold sForL
    exact id rfl
theorem l3_loop (s pt : Option Va) (dd : D) (plain : List D) (O : Int × Int → Option Nat) (m : Nat) (hm : m ≤ 100) (a8 : Option Va)
    (e : ∀ (j : Nat), j < m → ∀ (v : Int), v = 0 ∨ v = 1 → ∀ (hid : List D) (a7 a8 a9 : Option Va), hid.length ≤ 1000 → ∃ kv, lb_law_2 [s, some (.z, dd), pt, some (.z, .list plain), some (.l .z, .list hid), some (.z, .int j), some (.z, .int v), a7, a8, a9, none] = .nx [s, some (.z, dd), pt, some (.z, .list plain), some (.l .z, .list (hid ++ (if isN (O ((j : Nat), v)) = true then [flD ((j : Nat), v)] else []))), some (.z, .int j), some (.z, .int v), some (.z, optD (O ((j : Nat), v))), kv, some (.z, optD (O ((j : Nat), v))), none]) :
    ∃ a5' a6' a7' a8' a9', sForL (gN 5) lb_law_3 (rangeL 0 m) [s, some (.z, dd), pt, some (.z, .list plain), some (.l .z, .list []), none, none, none, a8, none, none] = .nx [s, some (.z, dd), pt, some (.z, .list plain), some (.l .z, .list (hidL O (flaws m))), a5', a6', a7', a8', a9', none] := by
  have hh : ∃ Γ', sForL (gN 5) lb_law_3 (rangeL 0 m) [s, some (.z, dd), pt, some (.z, .list plain), some (.l .z, .list []), none, none, none, a8, none, none] = .nx Γ' ∧ ∃ a5' a6' a7' a8' a9', Γ' = [s, some (.z, dd), pt, some (.z, .list plain), some (.l .z, .list (hidL O (flaws (0 + (rangeL 0 m).length)))), a5', a6', a7', a8', a9', none] :=
    forL_inv (fun j Γ => ∃ a5' a6' a7' a8' a9', Γ = [s, some (.z, dd), pt, some (.z, .list plain), some (.l .z, .list (hidL O (flaws j))), a5', a6', a7', a8', a9', none]) (rangeL 0 m) 0 _ ⟨none, none, none, a8, none, rfl⟩ (by
      rintro i d Γ hd ⟨a5, a6, a7, a8, a9, rfl⟩
      obtain ⟨hi, rfl⟩ := range0_get hd
      rw [Nat.zero_add]
      obtain ⟨b6, b7, b8, b9, t⟩ := l3_turn s pt dd plain O (flaws i) (i : Nat) a6 a7 a8 a9 none (by rw [flaws_len]; omega) (e i hi)
      refine ⟨_, _, rfl, .inl t, some (.z, .int i), b6, b7, b8, b9, ?_⟩
      rw [flaws_succ])
  obtain ⟨Γ', e, a5, a6, a7, a8, a9, rfl⟩ := hh
  rw [range_len, Nat.zero_add] at e
  exact ⟨a5, a6, a7, a8, a9, e⟩
/-! the program's list -/
theorem hidden_ev (p : D) (O : Int × Int → Option Nat) (fs : List (Int × Int)) (hl : fs.length ≤ 1000) (e1 : F_check_size [p] = .ok (.z, .none)) (e2 : F_all_flaws [p] = .ok (.l .z, .list (fs.map flD))) (e3 : ∀ f ∈ fs, F_first_case [p, flD f] = .ok (.z, optD (O f))) :
    F_hidden_flaws [p] = .ok (.l .z, .list (hidL O fs)) := by
  have ec : vComp [1] (iLT (fV (fCall 1 F_all_flaws (fsC (fN 0) fsN)))) (gN 1) cc_hidden_flaws_1 ce_hidden_flaws_1 [some (.z, p), none] = .ok (.l .z, .list (hidL O fs)) [some (.z, p), none] := by
    refine comp_ok (ds := fs.map flD) ?_ (by rw [List.length_map]; omega) ?_ rfl
    · generalize fs.map flD = y at *
      simp only [runD_ap, seq_eq, then_nx, then_rt, then_ex, then_ct, then_bk, sB_ok, sB_ex, bind_ok, bind_ex, of_some, gZ_z, gB_s, gBl_l, gBl_z, gF_s, gM_s, fC_ap, fN_ap, fZ_ap, vMv_ap, fV_ap, vF_ap, oF_f, oF_l, oB_f, oB_l, osN_f, osN_l, osC_f, osC_l, o2_ap, fB_ap, fsN_ap, fsC_ap, fLst_ap, fTup_ap, fMt_ap, mtS_l, mtE_l, bB_b, bV_ap, bBo_b, bF_ap, bO_ap, bNot_ap, bAnd_ap, bOr_ap, vIf_ap, vA_b, vO_b, vAnd_ap, vOr_ap, dNot_b, fNot_ap, dNg_i, fNeg_ap, fPN_ap, dPs_i, fPS_ap, vCut_ap, fIsi_ap, rOut_ok, rOut_ex, fCall_ap, fDct0_ap, dIterL_l, dIterL_t, iLT_ap, iR1_ap, iR2_ap, iEn_ap, iZp_ap, vLR1_ap, sNx_ap, sAsg_ap, sRet_ap, sExp_ap, sIf_ap, sFor_ap, oNx_s, sTgt_ap, fzE_s, sFz_ap, sRaise_ap, res_nx, res_rt, res_ex, st0, List.map_cons, List.map_nil, List.length_cons, List.length_nil, List.replicate_succ, List.replicate_zero, List.cons_append, List.nil_append, List.append_nil, List.getElem?_cons_zero, List.getElem?_cons_succ, List.set_cons_zero, List.set_cons_succ, Option.bind_some, Option.map_some, dTru, at_t0, at_t1, at_t2, at_t3, at_l0, at_l1, at_l2, at_l3, eq_int, ne_int, lt_int, gt_int, le_int, ge_int, add_int, sub_int, int_int, int_bool, len_l, len_t, len_scr, dListOf, dTupOf, decide_eq_true_eq, List.length_map, Nat.reduceAdd, Nat.reduceSub, Nat.reduceLeDiff, Nat.zero_add, if_true, if_false, ↓reduceIte, Bool.false_eq_true, Bool.not_true, Bool.not_false, fIn_ap, fGet_ap, inT_f, inT_t, gtT_s, key_i, isS_s, isS_n, map_none, sum_int, all_b, any_b, isi_int, isi_intb, isi_list, sTry_ap, tryE_ex, tryE_nx, tryE_rt, tryC_nx, tryC_rt, tryC_f, set_ap, setS_l, vDct1_ap, vch_ap, chB_b, chE_t, chE_f, gT_t, gsC_c, gsN_n, gN_ap, e2]
    · have h : ∀ (fs : List (Int × Int)), (∀ f ∈ fs, F_first_case [p, flD f] = .ok (.z, optD (O f))) → compL [1] (gN 1) cc_hidden_flaws_1 ce_hidden_flaws_1 (fs.map flD) [some (.z, p), none] = some (hidL O fs, [some (.z, p), none]) := by
        intro fs
        induction fs with
        | nil => intro _; rfl
        | cons f fs ih =>
          intro h
          have ih := ih fun g hg => h g (List.mem_cons_of_mem _ hg)
          have e := h f (List.mem_cons_self ..)
          have ec : cc_hidden_flaws_1 [some (.z, p), some (.z, flD f)] = .ok (isN (O f)) [some (.z, p), some (.z, flD f)] := by
            unfold cc_hidden_flaws_1
            generalize flD f = y at *
            simp only [runD_ap, seq_eq, then_nx, then_rt, then_ex, then_ct, then_bk, sB_ok, sB_ex, bind_ok, bind_ex, of_some, gZ_z, gB_s, gBl_l, gBl_z, gF_s, gM_s, fC_ap, fN_ap, fZ_ap, vMv_ap, fV_ap, vF_ap, oF_f, oF_l, oB_f, oB_l, osN_f, osN_l, osC_f, osC_l, o2_ap, fB_ap, fsN_ap, fsC_ap, fLst_ap, fTup_ap, fMt_ap, mtS_l, mtE_l, bB_b, bV_ap, bBo_b, bF_ap, bO_ap, bNot_ap, bAnd_ap, bOr_ap, vIf_ap, vA_b, vO_b, vAnd_ap, vOr_ap, dNot_b, fNot_ap, dNg_i, fNeg_ap, fPN_ap, dPs_i, fPS_ap, vCut_ap, fIsi_ap, rOut_ok, rOut_ex, fCall_ap, fDct0_ap, dIterL_l, dIterL_t, iLT_ap, iR1_ap, iR2_ap, iEn_ap, iZp_ap, vLR1_ap, sNx_ap, sAsg_ap, sRet_ap, sExp_ap, sIf_ap, sFor_ap, oNx_s, sTgt_ap, fzE_s, sFz_ap, sRaise_ap, res_nx, res_rt, res_ex, st0, List.map_cons, List.map_nil, List.length_cons, List.length_nil, List.replicate_succ, List.replicate_zero, List.cons_append, List.nil_append, List.append_nil, List.getElem?_cons_zero, List.getElem?_cons_succ, List.set_cons_zero, List.set_cons_succ, Option.bind_some, Option.map_some, dTru, at_t0, at_t1, at_t2, at_t3, at_l0, at_l1, at_l2, at_l3, eq_int, ne_int, lt_int, gt_int, le_int, ge_int, add_int, sub_int, int_int, int_bool, len_l, len_t, len_scr, dListOf, dTupOf, decide_eq_true_eq, List.length_map, Nat.reduceAdd, Nat.reduceSub, Nat.reduceLeDiff, Nat.zero_add, if_true, if_false, ↓reduceIte, Bool.false_eq_true, Bool.not_true, Bool.not_false, fIn_ap, fGet_ap, inT_f, inT_t, gtT_s, key_i, isS_s, isS_n, map_none, sum_int, all_b, any_b, isi_int, isi_intb, isi_list, sTry_ap, tryE_ex, tryE_nx, tryE_rt, tryC_nx, tryC_rt, tryC_f, set_ap, setS_l, vDct1_ap, vch_ap, chB_b, chE_t, chE_f, gT_t, gsC_c, gsN_n, gN_ap, e, is_opt]
          rw [List.map_cons]
          unfold compL
          rw [show gN 1 (flD f) [some (.z, p), none] = some [some (.z, p), some (.z, flD f)] from rfl]
          dsimp only
          rw [ec]
          unfold hidL
          rw [List.filter_cons]
          cases hb : isN (O f) with
          | true =>
            dsimp only
            rw [show ce_hidden_flaws_1 [some (.z, p), some (.z, flD f)] = .ok (flD f) [some (.z, p), some (.z, flD f)] from rfl]
            dsimp only
            rw [show wipeG [some (.z, p), some (.z, flD f)] [1] = [some (.z, p), none] from rfl, ih, if_pos rfl]
            rfl
          | false =>
            dsimp only
            rw [show wipeG [some (.z, p), some (.z, flD f)] [1] = [some (.z, p), none] from rfl, ih, if_neg Bool.false_ne_true]
      exact h fs e3
  generalize hidL O fs = z at *
  unfold F_hidden_flaws fb_hidden_flaws
  simp only [runD_ap, seq_eq, then_nx, then_rt, then_ex, then_ct, then_bk, sB_ok, sB_ex, bind_ok, bind_ex, of_some, gZ_z, gB_s, gBl_l, gBl_z, gF_s, gM_s, fC_ap, fN_ap, fZ_ap, vMv_ap, fV_ap, vF_ap, oF_f, oF_l, oB_f, oB_l, osN_f, osN_l, osC_f, osC_l, o2_ap, fB_ap, fsN_ap, fsC_ap, fLst_ap, fTup_ap, fMt_ap, mtS_l, mtE_l, bB_b, bV_ap, bBo_b, bF_ap, bO_ap, bNot_ap, bAnd_ap, bOr_ap, vIf_ap, vA_b, vO_b, vAnd_ap, vOr_ap, dNot_b, fNot_ap, dNg_i, fNeg_ap, fPN_ap, dPs_i, fPS_ap, vCut_ap, fIsi_ap, rOut_ok, rOut_ex, fCall_ap, fDct0_ap, dIterL_l, dIterL_t, iLT_ap, iR1_ap, iR2_ap, iEn_ap, iZp_ap, vLR1_ap, sNx_ap, sAsg_ap, sRet_ap, sExp_ap, sIf_ap, sFor_ap, oNx_s, sTgt_ap, fzE_s, sFz_ap, sRaise_ap, res_nx, res_rt, res_ex, st0, List.map_cons, List.map_nil, List.length_cons, List.length_nil, List.replicate_succ, List.replicate_zero, List.cons_append, List.nil_append, List.append_nil, List.getElem?_cons_zero, List.getElem?_cons_succ, List.set_cons_zero, List.set_cons_succ, Option.bind_some, Option.map_some, dTru, at_t0, at_t1, at_t2, at_t3, at_l0, at_l1, at_l2, at_l3, eq_int, ne_int, lt_int, gt_int, le_int, ge_int, add_int, sub_int, int_int, int_bool, len_l, len_t, len_scr, dListOf, dTupOf, decide_eq_true_eq, List.length_map, Nat.reduceAdd, Nat.reduceSub, Nat.reduceLeDiff, Nat.zero_add, if_true, if_false, ↓reduceIte, Bool.false_eq_true, Bool.not_true, Bool.not_false, fIn_ap, fGet_ap, inT_f, inT_t, gtT_s, key_i, isS_s, isS_n, map_none, sum_int, all_b, any_b, isi_int, isi_intb, isi_list, sTry_ap, tryE_ex, tryE_nx, tryE_rt, tryC_nx, tryC_rt, tryC_f, set_ap, setS_l, vDct1_ap, vch_ap, chB_b, chE_t, chE_f, gT_t, gsC_c, gsN_n, gN_ap, e1, ec]
end K09
namespace K09
open PySem PV
theorem isi_tuple {ds : List D} : dIsi "tuple" (.tuple ds) = some (.bool true) := by
  show some (PyData.bool (isB "tuple" "tuple")) = _
  rw [show isB "tuple" "tuple" = true by decide]
theorem l4_turn (x0 x1 x2 x3 x4 x5 x6 x7 x8 x9 : Option Va) (a v : Int) : lb_law_4 [x0, x1, x2, x3, x4, x5, x6, x7, x8, x9, some (.z, .tuple [.int a, .int v])] = .nx [x0, x1, x2, x3, x4, x5, x6, x7, x8, x9, some (.z, .tuple [.int a, .int v])] := by
  unfold lb_law_4
  simp only [runD_ap, seq_eq, then_nx, then_rt, then_ex, then_ct, then_bk, sB_ok, sB_ex, bind_ok, bind_ex, of_some, gZ_z, gB_s, gBl_l, gBl_z, gF_s, gM_s, fC_ap, fN_ap, fZ_ap, vMv_ap, fV_ap, vF_ap, oF_f, oF_l, oB_f, oB_l, osN_f, osN_l, osC_f, osC_l, o2_ap, fB_ap, fsN_ap, fsC_ap, fLst_ap, fTup_ap, fMt_ap, mtS_l, mtE_l, bB_b, bV_ap, bBo_b, bF_ap, bO_ap, bNot_ap, bAnd_ap, bOr_ap, vIf_ap, vA_b, vO_b, vAnd_ap, vOr_ap, dNot_b, fNot_ap, dNg_i, fNeg_ap, fPN_ap, dPs_i, fPS_ap, vCut_ap, fIsi_ap, rOut_ok, rOut_ex, fCall_ap, fDct0_ap, dIterL_l, dIterL_t, iLT_ap, iR1_ap, iR2_ap, iEn_ap, iZp_ap, vLR1_ap, sNx_ap, sAsg_ap, sRet_ap, sExp_ap, sIf_ap, sFor_ap, oNx_s, sTgt_ap, fzE_s, sFz_ap, sRaise_ap, res_nx, res_rt, res_ex, st0, List.map_cons, List.map_nil, List.length_cons, List.length_nil, List.replicate_succ, List.replicate_zero, List.cons_append, List.nil_append, List.append_nil, List.getElem?_cons_zero, List.getElem?_cons_succ, List.set_cons_zero, List.set_cons_succ, Option.bind_some, Option.map_some, dTru, at_t0, at_t1, at_t2, at_t3, at_l0, at_l1, at_l2, at_l3, eq_int, ne_int, lt_int, gt_int, le_int, ge_int, add_int, sub_int, int_int, int_bool, len_l, len_t, len_scr, dListOf, dTupOf, decide_eq_true_eq, List.length_map, Nat.reduceAdd, Nat.reduceSub, Nat.reduceLeDiff, Nat.zero_add, if_true, if_false, ↓reduceIte, Bool.false_eq_true, Bool.not_true, Bool.not_false, fIn_ap, fGet_ap, inT_f, inT_t, gtT_s, key_i, isS_s, isS_n, map_none, sum_int, all_b, any_b, isi_int, isi_intb, isi_list, sTry_ap, tryE_ex, tryE_nx, tryE_rt, tryC_nx, tryC_rt, tryC_f, set_ap, setS_l, vDct1_ap, vch_ap, chB_b, chE_t, chE_f, gT_t, gsC_c, gsN_n, gN_ap, isi_tuple, isint_ok]
theorem l4_loop (x0 x1 x2 x3 x4 x5 x6 x7 x8 x9 : Option Va) : ∀ (fs : List (Int × Int)) (x10 : Option Va), ∃ y, sForL (gN 10) lb_law_4 (fs.map flD) [x0, x1, x2, x3, x4, x5, x6, x7, x8, x9, x10] = .nx [x0, x1, x2, x3, x4, x5, x6, x7, x8, x9, y]
  | [], x10 => ⟨x10, rfl⟩
  | (a, v) :: fs, x10 => by
    obtain ⟨y, e⟩ := l4_loop x0 x1 x2 x3 x4 x5 x6 x7 x8 x9 fs (some (.z, .tuple [.int a, .int v]))
    refine ⟨y, ?_⟩
    rw [List.map_cons, forL_cons (show gN 10 (flD (a, v)) _ = some [x0, x1, x2, x3, x4, x5, x6, x7, x8, x9, some (.z, .tuple [.int a, .int v])] from id rfl) (l4_turn x0 x1 x2 x3 x4 x5 x6 x7 x8 x9 a v)]
    exact e
theorem lay_fl : ∀ fs : List (Int × Int), PyData.canLayAll0 (fs.map flD) = true
  | [] => by simp only [List.map_nil, PyData.canLayAll0]
  | f :: fs => by simp only [List.map_cons, PyData.canLayAll0, PyData.canLay0, lay_fl fs, Bool.and_self]
theorem depth_fl : ∀ fs : List (Int × Int), PyData.depthAll (fs.map flD) ≤ 1
  | [] => by simp only [List.map_nil, PyData.depthAll]; decide
  | f :: fs => by
    have := depth_fl fs
    simp only [List.map_cons, PyData.depthAll, PyData.depth, Nat.max_self]
    omega
theorem eqv_fl : ∀ fs : List (Int × Int), PyData.eqvAll (fs.map flD) (fs.map flD) = true
  | [] => by simp only [List.map_nil, PyData.eqvAll]
  | f :: fs => by simp only [List.map_cons, PyData.eqvAll, PyData.eqv, eqv_fl fs, beq_self_eq_true, Bool.and_self]
theorem ne_fl (fs : List (Int × Int)) : dNe (.list (fs.map flD)) (.list (fs.map flD)) = some (.z, .bool false) := by
  show b2 ((dEqv _ _).map not) = _
  unfold dEqv
  have hs : SeqAt.shaped (.list (fs.map flD)) = true := by
    have := depth_fl fs
    unfold SeqAt.shaped
    refine Bool.and_eq_true_iff.mpr ⟨?_, decide_eq_true ?_⟩
    · simp only [PyData.canLay0, lay_fl]
    · simp only [PyData.depth]
      omega
  rw [hs]
  simp only [Bool.and_self, if_true, PyData.eqv, eqv_fl]
  rfl
theorem tryA_rt {m : Str → Option Bool} {i : Nat} {fs : Addr → Exc → Ev → SO} {e : Exc} {Γ Γ' : Ev} {x : Va} (h1 : m e.c = some true) (h2 : e.fs = []) (h3 : fs 0 e (Γ.set i (some (.z, rawD 0))) = .rt x Γ') : tryA m i fs (.ex e Γ) = .rt x (Γ'.set i none) := by
  unfold tryA
  dsimp only
  rw [h1, h2]
  show (if _ then sClr i (fs 0 e (Γ.set i (some (.z, rawD 0)))) else SO.st) = _
  rw [h3]
  rfl
theorem m_such : m_GatesError (S "NoSuchThing") = some true := by
  unfold m_GatesError
  exact if_pos rfl
theorem is_such : is_NoSuchThing (S "NoSuchThing") = some true := by
  unfold is_NoSuchThing
  exact if_pos rfl
theorem hs_ev (a b : Option Va) : hs_law_refuses_1 0 noSuch [a, b, some (.z, rawD 0)] = .rt (.z, .bool true) [a, b, some (.z, rawD 0)] := by
  unfold hs_law_refuses_1 fIsX
  rw [sRet_ap, vF_ap, is_such]
  rfl
theorem refuses_ev (p f : D) (e : F_first_case [p, f] = .ex noSuch) : F_law_refuses [p, f] = .ok (.z, .bool true) := by
  have h : sTryA m_GatesError 2 (sExp (fV (fCall 2 F_first_case (fsC (fN 0) (fsC (fN 1) fsN))))) hs_law_refuses_1 [some (.z, p), some (.z, f), none] = .rt (.z, .bool true) [some (.z, p), some (.z, f), none] := by
    have h1 : sExp (fV (fCall 2 F_first_case (fsC (fN 0) (fsC (fN 1) fsN)))) [some (.z, p), some (.z, f), none] = .ex noSuch [some (.z, p), some (.z, f), none] := by
      simp only [runD_ap, seq_eq, then_nx, then_rt, then_ex, then_ct, then_bk, sB_ok, sB_ex, bind_ok, bind_ex, of_some, gZ_z, gB_s, gBl_l, gBl_z, gF_s, gM_s, fC_ap, fN_ap, fZ_ap, vMv_ap, fV_ap, vF_ap, oF_f, oF_l, oB_f, oB_l, osN_f, osN_l, osC_f, osC_l, o2_ap, fB_ap, fsN_ap, fsC_ap, fLst_ap, fTup_ap, fMt_ap, mtS_l, mtE_l, bB_b, bV_ap, bBo_b, bF_ap, bO_ap, bNot_ap, bAnd_ap, bOr_ap, vIf_ap, vA_b, vO_b, vAnd_ap, vOr_ap, dNot_b, fNot_ap, dNg_i, fNeg_ap, fPN_ap, dPs_i, fPS_ap, vCut_ap, fIsi_ap, rOut_ok, rOut_ex, fCall_ap, fDct0_ap, dIterL_l, dIterL_t, iLT_ap, iR1_ap, iR2_ap, iEn_ap, iZp_ap, vLR1_ap, sNx_ap, sAsg_ap, sRet_ap, sExp_ap, sIf_ap, sFor_ap, oNx_s, sTgt_ap, fzE_s, sFz_ap, sRaise_ap, res_nx, res_rt, res_ex, st0, List.map_cons, List.map_nil, List.length_cons, List.length_nil, List.replicate_succ, List.replicate_zero, List.cons_append, List.nil_append, List.append_nil, List.getElem?_cons_zero, List.getElem?_cons_succ, List.set_cons_zero, List.set_cons_succ, Option.bind_some, Option.map_some, dTru, at_t0, at_t1, at_t2, at_t3, at_l0, at_l1, at_l2, at_l3, eq_int, ne_int, lt_int, gt_int, le_int, ge_int, add_int, sub_int, int_int, int_bool, len_l, len_t, len_scr, dListOf, dTupOf, decide_eq_true_eq, List.length_map, Nat.reduceAdd, Nat.reduceSub, Nat.reduceLeDiff, Nat.zero_add, if_true, if_false, ↓reduceIte, Bool.false_eq_true, Bool.not_true, Bool.not_false, fIn_ap, fGet_ap, inT_f, inT_t, gtT_s, key_i, isS_s, isS_n, map_none, sum_int, all_b, any_b, isi_int, isi_intb, isi_list, sTry_ap, tryE_ex, tryE_nx, tryE_rt, tryC_nx, tryC_rt, tryC_f, set_ap, setS_l, vDct1_ap, vch_ap, chB_b, chE_t, chE_f, gT_t, gsC_c, gsN_n, gN_ap, e]
    show tryA m_GatesError 2 hs_law_refuses_1 (sExp _ _) = _
    rw [h1]
    exact tryA_rt (m := m_GatesError) (i := 2) (fs := hs_law_refuses_1) (e := noSuch) (Γ := [some (.z, p), some (.z, f), none]) m_such rfl (hs_ev _ _)
  unfold F_law_refuses fb_law_refuses
  simp only [runD_ap, seq_eq, then_nx, then_rt, then_ex, then_ct, then_bk, sB_ok, sB_ex, bind_ok, bind_ex, of_some, gZ_z, gB_s, gBl_l, gBl_z, gF_s, gM_s, fC_ap, fN_ap, fZ_ap, vMv_ap, fV_ap, vF_ap, oF_f, oF_l, oB_f, oB_l, osN_f, osN_l, osC_f, osC_l, o2_ap, fB_ap, fsN_ap, fsC_ap, fLst_ap, fTup_ap, fMt_ap, mtS_l, mtE_l, bB_b, bV_ap, bBo_b, bF_ap, bO_ap, bNot_ap, bAnd_ap, bOr_ap, vIf_ap, vA_b, vO_b, vAnd_ap, vOr_ap, dNot_b, fNot_ap, dNg_i, fNeg_ap, fPN_ap, dPs_i, fPS_ap, vCut_ap, fIsi_ap, rOut_ok, rOut_ex, fCall_ap, fDct0_ap, dIterL_l, dIterL_t, iLT_ap, iR1_ap, iR2_ap, iEn_ap, iZp_ap, vLR1_ap, sNx_ap, sAsg_ap, sRet_ap, sExp_ap, sIf_ap, sFor_ap, oNx_s, sTgt_ap, fzE_s, sFz_ap, sRaise_ap, res_nx, res_rt, res_ex, st0, List.map_cons, List.map_nil, List.length_cons, List.length_nil, List.replicate_succ, List.replicate_zero, List.cons_append, List.nil_append, List.append_nil, List.getElem?_cons_zero, List.getElem?_cons_succ, List.set_cons_zero, List.set_cons_succ, Option.bind_some, Option.map_some, dTru, at_t0, at_t1, at_t2, at_t3, at_l0, at_l1, at_l2, at_l3, eq_int, ne_int, lt_int, gt_int, le_int, ge_int, add_int, sub_int, int_int, int_bool, len_l, len_t, len_scr, dListOf, dTupOf, decide_eq_true_eq, List.length_map, Nat.reduceAdd, Nat.reduceSub, Nat.reduceLeDiff, Nat.zero_add, if_true, if_false, ↓reduceIte, Bool.false_eq_true, Bool.not_true, Bool.not_false, fIn_ap, fGet_ap, inT_f, inT_t, gtT_s, key_i, isS_s, isS_n, map_none, sum_int, all_b, any_b, isi_int, isi_intb, isi_list, sTry_ap, tryE_ex, tryE_nx, tryE_rt, tryC_nx, tryC_rt, tryC_f, set_ap, setS_l, vDct1_ap, vch_ap, chB_b, chE_t, chE_f, gT_t, gsC_c, gsN_n, gN_ap, h]
end K09
namespace K09
open PySem PV
theorem plain_comp (s d pt : Option Va) (dd : D) (hd : d = some (.z, dd)) (C : Nat) (hC : C ≤ 64) (Y : Nat → List Int) (e1 : F_law_cases [dd] = .ok (.z, .int C)) (e2 : ∀ j < C, F_law_answers [dd, .int j, .int (-1), .int 0] = .ok (.l .z, L (Y j))) :
    vComp [8] (iR1 (fsC (fV (fCall 1 F_law_cases (fsC (fN 1) fsN))) fsN)) (gN 8) bYes ce_law_1 [s, d, pt, none, none, none, none, none, none, none, none] = .ok (.l .z, .list ((List.range C).map fun j => L (Y j))) [s, d, pt, none, none, none, none, none, none, none, none] := by
  subst hd
  refine comp_ok (ds := rangeL 0 C) ?_ (by rw [range_len]; omega) ?_ rfl
  · simp (disch := omega) only [runD_ap, seq_eq, then_nx, then_rt, then_ex, then_ct, then_bk, sB_ok, sB_ex, bind_ok, bind_ex, of_some, gZ_z, gB_s, gBl_l, gBl_z, gF_s, gM_s, fC_ap, fN_ap, fZ_ap, vMv_ap, fV_ap, vF_ap, oF_f, oF_l, oB_f, oB_l, osN_f, osN_l, osC_f, osC_l, o2_ap, fB_ap, fsN_ap, fsC_ap, fLst_ap, fTup_ap, fMt_ap, mtS_l, mtE_l, bB_b, bV_ap, bBo_b, bF_ap, bO_ap, bNot_ap, bAnd_ap, bOr_ap, vIf_ap, vA_b, vO_b, vAnd_ap, vOr_ap, dNot_b, fNot_ap, dNg_i, fNeg_ap, fPN_ap, dPs_i, fPS_ap, vCut_ap, fIsi_ap, rOut_ok, rOut_ex, fCall_ap, fDct0_ap, dIterL_l, dIterL_t, iLT_ap, iR1_ap, iR2_ap, iEn_ap, iZp_ap, vLR1_ap, sNx_ap, sAsg_ap, sRet_ap, sExp_ap, sIf_ap, sFor_ap, oNx_s, sTgt_ap, fzE_s, sFz_ap, sRaise_ap, res_nx, res_rt, res_ex, st0, List.map_cons, List.map_nil, List.length_cons, List.length_nil, List.replicate_succ, List.replicate_zero, List.cons_append, List.nil_append, List.append_nil, List.getElem?_cons_zero, List.getElem?_cons_succ, List.set_cons_zero, List.set_cons_succ, Option.bind_some, Option.map_some, dTru, at_t0, at_t1, at_t2, at_t3, at_l0, at_l1, at_l2, at_l3, eq_int, ne_int, lt_int, gt_int, le_int, ge_int, add_int, sub_int, int_int, int_bool, len_l, len_t, len_scr, dListOf, dTupOf, decide_eq_true_eq, List.length_map, Nat.reduceAdd, Nat.reduceSub, Nat.reduceLeDiff, Nat.zero_add, if_true, if_false, ↓reduceIte, Bool.false_eq_true, Bool.not_true, Bool.not_false, fIn_ap, fGet_ap, inT_f, inT_t, gtT_s, key_i, isS_s, isS_n, map_none, sum_int, all_b, any_b, isi_int, isi_intb, isi_list, sTry_ap, tryE_ex, tryE_nx, tryE_rt, tryC_nx, tryC_rt, tryC_f, set_ap, setS_l, vDct1_ap, vch_ap, chB_b, chE_t, chE_f, gT_t, gsC_c, gsN_n, gN_ap, e1, if_pos, Int.toNat_natCast]
  · refine comp_range (fun j => L (Y j)) C rfl (fun _ _ => rfl) fun k hk => ?_
    have e := e2 k hk
    generalize L (Y k) = y at *
    unfold ce_law_1
    simp only [runD_ap, seq_eq, then_nx, then_rt, then_ex, then_ct, then_bk, sB_ok, sB_ex, bind_ok, bind_ex, of_some, gZ_z, gB_s, gBl_l, gBl_z, gF_s, gM_s, fC_ap, fN_ap, fZ_ap, vMv_ap, fV_ap, vF_ap, oF_f, oF_l, oB_f, oB_l, osN_f, osN_l, osC_f, osC_l, o2_ap, fB_ap, fsN_ap, fsC_ap, fLst_ap, fTup_ap, fMt_ap, mtS_l, mtE_l, bB_b, bV_ap, bBo_b, bF_ap, bO_ap, bNot_ap, bAnd_ap, bOr_ap, vIf_ap, vA_b, vO_b, vAnd_ap, vOr_ap, dNot_b, fNot_ap, dNg_i, fNeg_ap, fPN_ap, dPs_i, fPS_ap, vCut_ap, fIsi_ap, rOut_ok, rOut_ex, fCall_ap, fDct0_ap, dIterL_l, dIterL_t, iLT_ap, iR1_ap, iR2_ap, iEn_ap, iZp_ap, vLR1_ap, sNx_ap, sAsg_ap, sRet_ap, sExp_ap, sIf_ap, sFor_ap, oNx_s, sTgt_ap, fzE_s, sFz_ap, sRaise_ap, res_nx, res_rt, res_ex, st0, List.map_cons, List.map_nil, List.length_cons, List.length_nil, List.replicate_succ, List.replicate_zero, List.cons_append, List.nil_append, List.append_nil, List.getElem?_cons_zero, List.getElem?_cons_succ, List.set_cons_zero, List.set_cons_succ, Option.bind_some, Option.map_some, dTru, at_t0, at_t1, at_t2, at_t3, at_l0, at_l1, at_l2, at_l3, eq_int, ne_int, lt_int, gt_int, le_int, ge_int, add_int, sub_int, int_int, int_bool, len_l, len_t, len_scr, dListOf, dTupOf, decide_eq_true_eq, List.length_map, Nat.reduceAdd, Nat.reduceSub, Nat.reduceLeDiff, Nat.zero_add, if_true, if_false, ↓reduceIte, Bool.false_eq_true, Bool.not_true, Bool.not_false, fIn_ap, fGet_ap, inT_f, inT_t, gtT_s, key_i, isS_s, isS_n, map_none, sum_int, all_b, any_b, isi_int, isi_intb, isi_list, sTry_ap, tryE_ex, tryE_nx, tryE_rt, tryC_nx, tryC_rt, tryC_f, set_ap, setS_l, vDct1_ap, vch_ap, chB_b, chE_t, chE_f, gT_t, gsC_c, gsN_n, gN_ap, wipeG, e]
theorem law_ev (s c0 outs h4 : D) (n cell p0 p1 : Int) (ws plain hid : List D) (m : Nat) (hm : n + ws.length = m) (hm2 : m ≤ 1000) (ps : List Int) (a5 a6 a7 a8 a9 y : Option Va)
    (e0 : F_law_circuit [s, .int 8] = .ok (.z, c0)) (e1 : F_law_bare [s, c0] = .ok (.z, .tuple [.int n, .tuple ws, outs, h4])) (e2 : F_law_cell [s, .int 1] = .ok (.z, .int cell)) (e3 : F_law_parts [.int cell, L [2, 50]] = .ok (.l .z, L ps)) (b0 : dAt (L ps) (.int 0) = some (.z, .int p0)) (b1 : dAt (L ps) (.int 1) = some (.z, .int p1))
    (e4 : ∀ s d pt, d = some (.z, .tuple [.int n, .tuple ws, outs, h4]) → vComp [8] (iR1 (fsC (fV (fCall 1 F_law_cases (fsC (fN 1) fsN))) fsN)) (gN 8) bYes ce_law_1 [s, d, pt, none, none, none, none, none, none, none, none] = .ok (.l .z, .list plain) [s, d, pt, none, none, none, none, none, none, none, none])
    (e5 : sForL (gN 5) lb_law_3 (rangeL 0 m) [some (.z, s), some (.z, .tuple [.int n, .tuple ws, outs, h4]), some (.z, L ps), some (.z, .list plain), some (.l .z, .list []), none, none, none, none, none, none] = .nx [some (.z, s), some (.z, .tuple [.int n, .tuple ws, outs, h4]), some (.z, L ps), some (.z, .list plain), some (.l .z, .list hid), a5, a6, a7, a8, a9, none])
    (e6 : F_hidden_flaws [.tuple [.int n, .tuple ws, outs, h4]] = .ok (.l .z, .list hid)) (e7 : dNe (.list hid) (.list hid) = some (.z, .bool false))
    (e8 : sForL (gN 10) lb_law_4 hid [some (.z, s), some (.z, .tuple [.int n, .tuple ws, outs, h4]), some (.z, L ps), some (.z, .list plain), some (.l .z, .list hid), a5, a6, a7, a8, some (.z, .list hid), none] = .nx [some (.z, s), some (.z, .tuple [.int n, .tuple ws, outs, h4]), some (.z, L ps), some (.z, .list plain), some (.l .z, .list hid), a5, a6, a7, a8, some (.z, .list hid), y])
    (r1 : F_law_refuses [.tuple [.int n, .tuple ws, outs, h4], .tuple [.int (n + ws.length + p1), .int 0]] = .ok (.z, .bool true)) (r2 : F_law_refuses [.tuple [.int n, .tuple ws, outs, h4], .tuple [.int 0, .int (-1 - p1)]] = .ok (.z, .bool true)) (r3 : F_law_refuses [.tuple [.int n, .tuple ws, outs, h4], .tuple [.int 0, .int (2 + p1)]] = .ok (.z, .bool true)) (r4 : F_law_refuses [.tuple [.int n, .tuple ws, outs, h4], .tuple [.int (-1 - p1), .int 1]] = .ok (.z, .bool true)) :
    F_law [s] = .ok (.z, .bool true) := by
  simp only [L, List.map_cons, List.map_nil] at e3
  have e4' := fun s pt => e4 s _ pt rfl
  have hm' : ∀ Γ : Ev, (if n + (ws.length : Int) < 2 ^ 62 ∧ -(2 ^ 62) ≤ n + (ws.length : Int) then Out.ok (rangeL 0 (n + (ws.length : Int)).toNat) Γ else .st) = .ok (rangeL 0 m) Γ := fun Γ => by rw [hm]; exact r1_ok (by omega)
  unfold F_law fb_law
  by_cases c : p0 = 0
  · simp (disch := decide) only [runD_ap, seq_eq, then_nx, then_rt, then_ex, then_ct, then_bk, sB_ok, sB_ex, bind_ok, bind_ex, of_some, gZ_z, gB_s, gBl_l, gBl_z, gF_s, gM_s, fC_ap, fN_ap, fZ_ap, vMv_ap, fV_ap, vF_ap, oF_f, oF_l, oB_f, oB_l, osN_f, osN_l, osC_f, osC_l, o2_ap, fB_ap, fsN_ap, fsC_ap, fLst_ap, fTup_ap, fMt_ap, mtS_l, mtE_l, bB_b, bV_ap, bBo_b, bF_ap, bO_ap, bNot_ap, bAnd_ap, bOr_ap, vIf_ap, vA_b, vO_b, vAnd_ap, vOr_ap, dNot_b, fNot_ap, dNg_i, fNeg_ap, fPN_ap, dPs_i, fPS_ap, vCut_ap, fIsi_ap, rOut_ok, rOut_ex, fCall_ap, fDct0_ap, dIterL_l, dIterL_t, iLT_ap, iR1_ap, iR2_ap, iEn_ap, iZp_ap, vLR1_ap, sNx_ap, sAsg_ap, sRet_ap, sExp_ap, sIf_ap, sFor_ap, oNx_s, sTgt_ap, fzE_s, sFz_ap, sRaise_ap, res_nx, res_rt, res_ex, st0, List.map_cons, List.map_nil, List.length_cons, List.length_nil, List.replicate_succ, List.replicate_zero, List.cons_append, List.nil_append, List.append_nil, List.getElem?_cons_zero, List.getElem?_cons_succ, List.set_cons_zero, List.set_cons_succ, Option.bind_some, Option.map_some, dTru, at_t0, at_t1, at_t2, at_t3, at_l0, at_l1, at_l2, at_l3, eq_int, ne_int, lt_int, gt_int, le_int, ge_int, add_int, sub_int, int_int, int_bool, len_l, len_t, len_scr, dListOf, dTupOf, decide_eq_true_eq, List.length_map, Nat.reduceAdd, Nat.reduceSub, Nat.reduceLeDiff, Nat.zero_add, if_true, if_false, ↓reduceIte, Bool.false_eq_true, Bool.not_true, Bool.not_false, fIn_ap, fGet_ap, inT_f, inT_t, gtT_s, key_i, isS_s, isS_n, map_none, sum_int, all_b, any_b, isi_int, isi_intb, isi_list, sTry_ap, tryE_ex, tryE_nx, tryE_rt, tryC_nx, tryC_rt, tryC_f, set_ap, setS_l, vDct1_ap, vch_ap, chB_b, chE_t, chE_f, gT_t, gsC_c, gsN_n, gN_ap, if_pos, e0, e1, e2, e3, b0, b1, e4', hm', e5, e6, e7, e8, decide_eq_true c, r1]
  · simp (disch := decide) only [runD_ap, seq_eq, then_nx, then_rt, then_ex, then_ct, then_bk, sB_ok, sB_ex, bind_ok, bind_ex, of_some, gZ_z, gB_s, gBl_l, gBl_z, gF_s, gM_s, fC_ap, fN_ap, fZ_ap, vMv_ap, fV_ap, vF_ap, oF_f, oF_l, oB_f, oB_l, osN_f, osN_l, osC_f, osC_l, o2_ap, fB_ap, fsN_ap, fsC_ap, fLst_ap, fTup_ap, fMt_ap, mtS_l, mtE_l, bB_b, bV_ap, bBo_b, bF_ap, bO_ap, bNot_ap, bAnd_ap, bOr_ap, vIf_ap, vA_b, vO_b, vAnd_ap, vOr_ap, dNot_b, fNot_ap, dNg_i, fNeg_ap, fPN_ap, dPs_i, fPS_ap, vCut_ap, fIsi_ap, rOut_ok, rOut_ex, fCall_ap, fDct0_ap, dIterL_l, dIterL_t, iLT_ap, iR1_ap, iR2_ap, iEn_ap, iZp_ap, vLR1_ap, sNx_ap, sAsg_ap, sRet_ap, sExp_ap, sIf_ap, sFor_ap, oNx_s, sTgt_ap, fzE_s, sFz_ap, sRaise_ap, res_nx, res_rt, res_ex, st0, List.map_cons, List.map_nil, List.length_cons, List.length_nil, List.replicate_succ, List.replicate_zero, List.cons_append, List.nil_append, List.append_nil, List.getElem?_cons_zero, List.getElem?_cons_succ, List.set_cons_zero, List.set_cons_succ, Option.bind_some, Option.map_some, dTru, at_t0, at_t1, at_t2, at_t3, at_l0, at_l1, at_l2, at_l3, eq_int, ne_int, lt_int, gt_int, le_int, ge_int, add_int, sub_int, int_int, int_bool, len_l, len_t, len_scr, dListOf, dTupOf, decide_eq_true_eq, List.length_map, Nat.reduceAdd, Nat.reduceSub, Nat.reduceLeDiff, Nat.zero_add, if_true, if_false, ↓reduceIte, Bool.false_eq_true, Bool.not_true, Bool.not_false, fIn_ap, fGet_ap, inT_f, inT_t, gtT_s, key_i, isS_s, isS_n, map_none, sum_int, all_b, any_b, isi_int, isi_intb, isi_list, sTry_ap, tryE_ex, tryE_nx, tryE_rt, tryC_nx, tryC_rt, tryC_f, set_ap, setS_l, vDct1_ap, vch_ap, chB_b, chE_t, chE_f, gT_t, gsC_c, gsN_n, gN_ap, if_pos, e0, e1, e2, e3, b0, b1, e4', hm', e5, e6, e7, e8, decide_eq_false c, r2, r3, r4]
theorem law_true (ns : List Int) (hns : ns.length ≤ 63) : F_law [scr ns] = .ok (.z, .bool true) := by
  obtain ⟨d0, n0, cs0, outs0, h40, e0, wf0⟩ := circuit_ok ns hns
  obtain ⟨d, cs, outs, h4, e1, wf⟩ := bare_ok ns wf0
  obtain ⟨cell, e2⟩ := cell_ok ns 1 (by omega)
  obtain ⟨ps, e3, hpl, hps⟩ := parts_ok cell [2, 50] (by simp) (by intro s hs; simp only [List.mem_cons, List.not_mem_nil, or_false] at hs; omega)
  have hpl : ps.length = 2 := hpl
  obtain ⟨p0, p1, rfl⟩ : ∃ p0 p1, ps = [p0, p1] := by
    match ps, hpl with
    | [a, b], _ => exact ⟨a, b, rfl⟩
  have b1' := hps 1 p1 50 rfl rfl
  have b0 : dAt (L [p0, p1]) (.int 0) = some (.z, .int p0) := at_l0
  have b1 : dAt (L [p0, p1]) (.int 1) = some (.z, .int p1) := at_l1
  generalize [p0, p1] = ps at *
  have hd : d = .tuple [.int n0, .tuple (cs.map cellD), T outs, .tuple h4] := wf.eq
  subst hd
  have n3 := wf.n6
  have l2 := wf.l4
  have c8 := wf.c40
  have o10 := wf.o10
  have hok := wf.ok
  have hos := wf.os
  have hC : 2 ^ (n0 + nlat cs) ≤ 64 := Nat.le_trans (Nat.pow_le_pow_right (by decide) (show n0 + nlat cs ≤ 6 by omega)) (by decide)
  have hwl : (cs.map cellD).length = cs.length := List.length_map _
  have hcc := case_count_ok (T outs) (.tuple h4) n0 cs (by omega) (by omega) (by omega)
  have hcs := check_size_ev _ _ hC hcc
  have hla := fun (c : Nat) (a w : Int) (hw : w = 0 ∨ w = 1) => law_answers_ok (.tuple h4) c n0 a w hw cs outs hok n3 (by omega) (by omega) o10 hos
  have hcases := law_cases_ok (T outs) (.tuple h4) n0 cs (by omega) (by omega) (by omega)
  have hflaw : ∀ a v : Int, (0 ≤ a ∧ a < n0 + cs.length) → (v = 0 ∨ v = 1) → F_first_case [.tuple [.int n0, .tuple (cs.map cellD), T outs, .tuple h4], .tuple [.int a, .int v]] = .ok (.z, optD ((List.range (2 ^ (n0 + nlat cs))).find? fun c => !(decide (ans a v n0 (n0 + nlat cs) c cs outs = ans (-1) 0 n0 (n0 + nlat cs) c cs outs)))) := by
    intro a v ha hv
    have hck : F_check_flaw [.tuple [.int n0, .tuple (cs.map cellD), T outs, .tuple h4], .tuple [.int a, .int v]] = .ok (.z, .none) := by
      rw [check_flaw_ev, if_pos ⟨⟨ha.1, by rw [hwl]; exact ha.2⟩, hv⟩]
    exact first_case_ev _ _ _ _ hC hcs hck hcc fun c hc => shows_ev _ a v c _ _ hck (answers_ok (.tuple h4) c n0 a v _ (rs_one a v) hv cs outs hok n3 (by omega) (by omega) o10 hos hc) (answers_ok (.tuple h4) c n0 (-1) 0 _ rs_nil (.inl rfl) cs outs hok n3 (by omega) (by omega) o10 hos hc)
  have hbad : ∀ a v : Int, ¬ ((0 ≤ a ∧ a < n0 + cs.length) ∧ (v = 0 ∨ v = 1)) → F_law_refuses [.tuple [.int n0, .tuple (cs.map cellD), T outs, .tuple h4], .tuple [.int a, .int v]] = .ok (.z, .bool true) := by
    intro a v h
    refine refuses_ev _ _ (first_case_bad _ _ hcs ?_)
    rw [check_flaw_ev, if_neg (fun z => h ⟨⟨z.1.1, by have := z.1.2; rw [hwl] at this; exact this⟩, z.2⟩)]
  -- the loop over all flaws
  obtain ⟨a5, a6, a7, a8, a9, e5⟩ := l3_loop (some (.z, scr ns)) (some (.z, L ps)) (.tuple [.int n0, .tuple (cs.map cellD), T outs, .tuple h4]) ((List.range (2 ^ (n0 + nlat cs))).map fun j => L (ans (-1) 0 n0 (n0 + nlat cs) j cs outs)) (fun f => (List.range (2 ^ (n0 + nlat cs))).find? fun c => !(decide (ans f.1 f.2 n0 (n0 + nlat cs) c cs outs = ans (-1) 0 n0 (n0 + nlat cs) c cs outs))) (n0 + cs.length) (by omega) none (by
      intro j hj v hv hid b7 b8 b9 hhid
      obtain ⟨kv, el⟩ := l1_loop (some (.z, scr ns)) (some (.z, L ps)) (some (.l .z, .list hid)) (.tuple [.int n0, .tuple (cs.map cellD), T outs, .tuple h4]) (2 ^ (n0 + nlat cs)) (j : Nat) v (fun c => ans (j : Nat) v n0 (n0 + nlat cs) c cs outs) (fun c => ans (-1) 0 n0 (n0 + nlat cs) c cs outs) b9 none b8 (fun c hc => hla c (j : Nat) v hv)
      exact ⟨kv, l2_turn _ _ _ (2 ^ (n0 + nlat cs)) _ hid (by rw [List.length_map, List.length_range]) hC hhid (j : Nat) v _ b7 b8 b9 none kv el (hflaw (j : Nat) v ⟨by omega, by omega⟩ hv)⟩)
  have e6 := hidden_ev (.tuple [.int n0, .tuple (cs.map cellD), T outs, .tuple h4]) (fun f => (List.range (2 ^ (n0 + nlat cs))).find? fun c => !(decide (ans f.1 f.2 n0 (n0 + nlat cs) c cs outs = ans (-1) 0 n0 (n0 + nlat cs) c cs outs))) (flaws (n0 + cs.length)) (by rw [flaws_len]; omega) hcs (all_flaws_ev n0 (cs.map cellD) (T outs) (.tuple h4) (n0 + cs.length) (by rw [hwl]; omega) (by omega)) (fun f hf => by
    unfold flaws at hf
    obtain ⟨j, hj, hf⟩ := List.mem_flatMap.mp hf
    have hj := List.mem_range.mp hj
    rcases List.mem_cons.mp hf with rfl | hf
    · exact hflaw (j : Nat) 0 ⟨by omega, by omega⟩ (.inl rfl)
    · rw [List.mem_singleton.mp hf]
      exact hflaw (j : Nat) 1 ⟨by omega, by omega⟩ (.inr rfl))
  obtain ⟨y, e8⟩ := l4_loop (some (.z, scr ns)) (some (.z, .tuple [.int n0, .tuple (cs.map cellD), T outs, .tuple h4])) (some (.z, L ps)) (some (.z, .list ((List.range (2 ^ (n0 + nlat cs))).map fun j => L (ans (-1) 0 n0 (n0 + nlat cs) j cs outs)))) (some (.l .z, .list (hidL (fun f => (List.range (2 ^ (n0 + nlat cs))).find? fun c => !(decide (ans f.1 f.2 n0 (n0 + nlat cs) c cs outs = ans (-1) 0 n0 (n0 + nlat cs) c cs outs))) (flaws (n0 + cs.length))))) a5 a6 a7 a8 (some (.z, .list (hidL (fun f => (List.range (2 ^ (n0 + nlat cs))).find? fun c => !(decide (ans f.1 f.2 n0 (n0 + nlat cs) c cs outs = ans (-1) 0 n0 (n0 + nlat cs) c cs outs))) (flaws (n0 + cs.length))))) ((flaws (n0 + cs.length)).filter fun f => isN ((List.range (2 ^ (n0 + nlat cs))).find? fun c => !(decide (ans f.1 f.2 n0 (n0 + nlat cs) c cs outs = ans (-1) 0 n0 (n0 + nlat cs) c cs outs)))) none
  exact law_ev (scr ns) d0 (T outs) (.tuple h4) n0 cell p0 p1 (cs.map cellD) _ _ (n0 + cs.length) (by rw [hwl]; omega) (by omega) ps a5 a6 a7 a8 a9 y e0 e1 e2 e3 b0 b1 (fun s d pt hd => plain_comp s d pt _ hd _ hC _ hcases fun j hj => hla j (-1) 0 (.inl rfl)) e5 e6 (ne_fl _) e8 (hbad _ _ (fun z => by have := z.1.2; rw [hwl] at this; omega)) (hbad _ _ (fun z => by rcases z.2 with q | q <;> omega)) (hbad _ _ (fun z => by rcases z.2 with q | q <;> omega)) (hbad _ _ (fun z => by have := z.1.1; omega))
end K09
namespace K09
open PySem PySem.Spec PyProof.Rows L2 PV
theorem law_ok {P : Program} {w : World} {K : PySem.W.Frag} {mg : Str → Option Value} {base : Heap} (T : Tx K mg w) : FnOk P w K mg base (L2.CX P w) 9 T.f_law T.fd_law ["script"] (spTop K) := top_ok (ok_law T) law_true
theorem all_mk {P : Program} {w : World} {K : PySem.W.Frag} {h : Heap} {mg : Str → Option Value} {fa : Addr}
    {f_cell_value : Addr} {od_cell_value an_cell_value : Option Addr} {sl_cell_value : Array (Option Value)} {oc_cell_value kV_cell_value dc_cell_value pm_cell_value cd_cell_value ct_cell_value : Value}
    {f_latch_cells : Addr} {od_latch_cells an_latch_cells : Option Addr} {sl_latch_cells : Array (Option Value)} {oc_latch_cells kV_latch_cells dc_latch_cells pm_latch_cells cd_latch_cells ct_latch_cells : Value}
    {f_settled_values : Addr} {od_settled_values an_settled_values : Option Addr} {sl_settled_values : Array (Option Value)} {oc_settled_values kV_settled_values dc_settled_values pm_settled_values cd_settled_values ct_settled_values : Value}
    {f_bit_count : Addr} {od_bit_count an_bit_count : Option Addr} {sl_bit_count : Array (Option Value)} {oc_bit_count kV_bit_count dc_bit_count pm_bit_count cd_bit_count ct_bit_count : Value}
    {f_case_count : Addr} {od_case_count an_case_count : Option Addr} {sl_case_count : Array (Option Value)} {oc_case_count kV_case_count dc_case_count pm_case_count cd_case_count ct_case_count : Value}
    {f_case_bits : Addr} {od_case_bits an_case_bits : Option Addr} {sl_case_bits : Array (Option Value)} {oc_case_bits kV_case_bits dc_case_bits pm_case_bits cd_case_bits ct_case_bits : Value}
    {f_check_flaw : Addr} {od_check_flaw an_check_flaw : Option Addr} {sl_check_flaw : Array (Option Value)} {oc_check_flaw kV_check_flaw dc_check_flaw pm_check_flaw cd_check_flaw ct_check_flaw : Value}
    {f_answers : Addr} {od_answers an_answers : Option Addr} {sl_answers : Array (Option Value)} {oc_answers kV_answers dc_answers pm_answers cd_answers ct_answers : Value}
    {f_shows : Addr} {od_shows an_shows : Option Addr} {sl_shows : Array (Option Value)} {oc_shows kV_shows dc_shows pm_shows cd_shows ct_shows : Value}
    {f_check_size : Addr} {od_check_size an_check_size : Option Addr} {sl_check_size : Array (Option Value)} {oc_check_size kV_check_size dc_check_size pm_check_size cd_check_size ct_check_size : Value}
    {f_all_flaws : Addr} {od_all_flaws an_all_flaws : Option Addr} {sl_all_flaws : Array (Option Value)} {oc_all_flaws kV_all_flaws dc_all_flaws pm_all_flaws cd_all_flaws ct_all_flaws : Value}
    {f_first_case : Addr} {od_first_case an_first_case : Option Addr} {sl_first_case : Array (Option Value)} {oc_first_case kV_first_case dc_first_case pm_first_case cd_first_case ct_first_case : Value}
    {f_hidden_flaws : Addr} {od_hidden_flaws an_hidden_flaws : Option Addr} {sl_hidden_flaws : Array (Option Value)} {oc_hidden_flaws kV_hidden_flaws dc_hidden_flaws pm_hidden_flaws cd_hidden_flaws ct_hidden_flaws : Value}
    {f_law_cell : Addr} {od_law_cell an_law_cell : Option Addr} {sl_law_cell : Array (Option Value)} {oc_law_cell kV_law_cell dc_law_cell pm_law_cell cd_law_cell ct_law_cell : Value}
    {f_law_parts : Addr} {od_law_parts an_law_parts : Option Addr} {sl_law_parts : Array (Option Value)} {oc_law_parts kV_law_parts dc_law_parts pm_law_parts cd_law_parts ct_law_parts : Value}
    {f_law_is_integer : Addr} {od_law_is_integer an_law_is_integer : Option Addr} {sl_law_is_integer : Array (Option Value)} {oc_law_is_integer kV_law_is_integer dc_law_is_integer pm_law_is_integer cd_law_is_integer ct_law_is_integer : Value}
    {f_law_kind : Addr} {od_law_kind an_law_kind : Option Addr} {sl_law_kind : Array (Option Value)} {oc_law_kind kV_law_kind dc_law_kind pm_law_kind cd_law_kind ct_law_kind : Value}
    {f_law_drawn : Addr} {od_law_drawn an_law_drawn : Option Addr} {sl_law_drawn : Array (Option Value)} {oc_law_drawn kV_law_drawn dc_law_drawn pm_law_drawn cd_law_drawn ct_law_drawn : Value}
    {f_law_circuit : Addr} {od_law_circuit an_law_circuit : Option Addr} {sl_law_circuit : Array (Option Value)} {oc_law_circuit kV_law_circuit dc_law_circuit pm_law_circuit cd_law_circuit ct_law_circuit : Value}
    {f_law_value : Addr} {od_law_value an_law_value : Option Addr} {sl_law_value : Array (Option Value)} {oc_law_value kV_law_value dc_law_value pm_law_value cd_law_value ct_law_value : Value}
    {f_law_answers : Addr} {od_law_answers an_law_answers : Option Addr} {sl_law_answers : Array (Option Value)} {oc_law_answers kV_law_answers dc_law_answers pm_law_answers cd_law_answers ct_law_answers : Value}
    {f_law_cases : Addr} {od_law_cases an_law_cases : Option Addr} {sl_law_cases : Array (Option Value)} {oc_law_cases kV_law_cases dc_law_cases pm_law_cases cd_law_cases ct_law_cases : Value}
    {f_law_refuses : Addr} {od_law_refuses an_law_refuses : Option Addr} {sl_law_refuses : Array (Option Value)} {oc_law_refuses kV_law_refuses dc_law_refuses pm_law_refuses cd_law_refuses ct_law_refuses : Value}
    {f_law_bare : Addr} {od_law_bare an_law_bare : Option Addr} {sl_law_bare : Array (Option Value)} {oc_law_bare kV_law_bare dc_law_bare pm_law_bare cd_law_bare ct_law_bare : Value}
    {f_law : Addr} {od_law an_law : Option Addr} {sl_law : Array (Option Value)} {oc_law kV_law dc_law pm_law cd_law ct_law : Value}
    {c_GatesError : Addr}
    {c_NoSuchThing : Addr}
    {c_TooLarge : Addr}
    {a_CONSTANTS : Addr} {es_CONSTANTS : Array DictEntry} {n_CONSTANTS : Nat}
    {u0_CONSTANTS : Value}
    {u1_CONSTANTS : Value}
    {u_MOST_CASES : Value}
    {u_NANDS : Value}
    {ta_dv_NANDS : Addr} {to_dv_NANDS : Option Addr} {ts_dv_NANDS : Array Value} {tn_dv_NANDS : Nat} {tl_dv_NANDS : Array (Option Value)} (X : K.In h) (G : h.Ns mainGlobals mg) (hfa : mg "law" = some (.ref fa))
    (a_cell_value : PySem.W.nsIn K mainGlobals "cell_value" = some (some (.ref f_cell_value)))
    (l_cell_value : K.lookup f_cell_value = some ⟨oc_cell_value, od_cell_value, .func (PySem.W.fnOf "cell_value" "cell_value" (defArgs s_cell_value) (defBody s_cell_value) (defScope s_cell_value) .none kV_cell_value dc_cell_value pm_cell_value an_cell_value cd_cell_value ct_cell_value), sl_cell_value⟩)
    (c_cell_value : PySem.W.codeIn K cd_cell_value "cell_value" = true)
    (k_cell_value : PySem.W.keepIn K (.ref f_cell_value) = true)
    (a_latch_cells : PySem.W.nsIn K mainGlobals "latch_cells" = some (some (.ref f_latch_cells)))
    (l_latch_cells : K.lookup f_latch_cells = some ⟨oc_latch_cells, od_latch_cells, .func (PySem.W.fnOf "latch_cells" "latch_cells" (defArgs s_latch_cells) (defBody s_latch_cells) (defScope s_latch_cells) .none kV_latch_cells dc_latch_cells pm_latch_cells an_latch_cells cd_latch_cells ct_latch_cells), sl_latch_cells⟩)
    (c_latch_cells : PySem.W.codeIn K cd_latch_cells "latch_cells" = true)
    (k_latch_cells : PySem.W.keepIn K (.ref f_latch_cells) = true)
    (a_settled_values : PySem.W.nsIn K mainGlobals "settled_values" = some (some (.ref f_settled_values)))
    (l_settled_values : K.lookup f_settled_values = some ⟨oc_settled_values, od_settled_values, .func (PySem.W.fnOf "settled_values" "settled_values" (defArgs s_settled_values) (defBody s_settled_values) (defScope s_settled_values) .none kV_settled_values dc_settled_values pm_settled_values an_settled_values cd_settled_values ct_settled_values), sl_settled_values⟩)
    (c_settled_values : PySem.W.codeIn K cd_settled_values "settled_values" = true)
    (k_settled_values : PySem.W.keepIn K (.ref f_settled_values) = true)
    (a_bit_count : PySem.W.nsIn K mainGlobals "bit_count" = some (some (.ref f_bit_count)))
    (l_bit_count : K.lookup f_bit_count = some ⟨oc_bit_count, od_bit_count, .func (PySem.W.fnOf "bit_count" "bit_count" (defArgs s_bit_count) (defBody s_bit_count) (defScope s_bit_count) .none kV_bit_count dc_bit_count pm_bit_count an_bit_count cd_bit_count ct_bit_count), sl_bit_count⟩)
    (c_bit_count : PySem.W.codeIn K cd_bit_count "bit_count" = true)
    (k_bit_count : PySem.W.keepIn K (.ref f_bit_count) = true)
    (a_case_count : PySem.W.nsIn K mainGlobals "case_count" = some (some (.ref f_case_count)))
    (l_case_count : K.lookup f_case_count = some ⟨oc_case_count, od_case_count, .func (PySem.W.fnOf "case_count" "case_count" (defArgs s_case_count) (defBody s_case_count) (defScope s_case_count) .none kV_case_count dc_case_count pm_case_count an_case_count cd_case_count ct_case_count), sl_case_count⟩)
    (c_case_count : PySem.W.codeIn K cd_case_count "case_count" = true)
    (k_case_count : PySem.W.keepIn K (.ref f_case_count) = true)
    (a_case_bits : PySem.W.nsIn K mainGlobals "case_bits" = some (some (.ref f_case_bits)))
    (l_case_bits : K.lookup f_case_bits = some ⟨oc_case_bits, od_case_bits, .func (PySem.W.fnOf "case_bits" "case_bits" (defArgs s_case_bits) (defBody s_case_bits) (defScope s_case_bits) .none kV_case_bits dc_case_bits pm_case_bits an_case_bits cd_case_bits ct_case_bits), sl_case_bits⟩)
    (c_case_bits : PySem.W.codeIn K cd_case_bits "case_bits" = true)
    (k_case_bits : PySem.W.keepIn K (.ref f_case_bits) = true)
    (a_check_flaw : PySem.W.nsIn K mainGlobals "check_flaw" = some (some (.ref f_check_flaw)))
    (l_check_flaw : K.lookup f_check_flaw = some ⟨oc_check_flaw, od_check_flaw, .func (PySem.W.fnOf "check_flaw" "check_flaw" (defArgs s_check_flaw) (defBody s_check_flaw) (defScope s_check_flaw) .none kV_check_flaw dc_check_flaw pm_check_flaw an_check_flaw cd_check_flaw ct_check_flaw), sl_check_flaw⟩)
    (c_check_flaw : PySem.W.codeIn K cd_check_flaw "check_flaw" = true)
    (k_check_flaw : PySem.W.keepIn K (.ref f_check_flaw) = true)
    (a_answers : PySem.W.nsIn K mainGlobals "answers" = some (some (.ref f_answers)))
    (l_answers : K.lookup f_answers = some ⟨oc_answers, od_answers, .func (PySem.W.fnOf "answers" "answers" (defArgs s_answers) (defBody s_answers) (defScope s_answers) .none kV_answers dc_answers pm_answers an_answers cd_answers ct_answers), sl_answers⟩)
    (c_answers : PySem.W.codeIn K cd_answers "answers" = true)
    (k_answers : PySem.W.keepIn K (.ref f_answers) = true)
    (a_shows : PySem.W.nsIn K mainGlobals "shows" = some (some (.ref f_shows)))
    (l_shows : K.lookup f_shows = some ⟨oc_shows, od_shows, .func (PySem.W.fnOf "shows" "shows" (defArgs s_shows) (defBody s_shows) (defScope s_shows) .none kV_shows dc_shows pm_shows an_shows cd_shows ct_shows), sl_shows⟩)
    (c_shows : PySem.W.codeIn K cd_shows "shows" = true)
    (k_shows : PySem.W.keepIn K (.ref f_shows) = true)
    (a_check_size : PySem.W.nsIn K mainGlobals "check_size" = some (some (.ref f_check_size)))
    (l_check_size : K.lookup f_check_size = some ⟨oc_check_size, od_check_size, .func (PySem.W.fnOf "check_size" "check_size" (defArgs s_check_size) (defBody s_check_size) (defScope s_check_size) .none kV_check_size dc_check_size pm_check_size an_check_size cd_check_size ct_check_size), sl_check_size⟩)
    (c_check_size : PySem.W.codeIn K cd_check_size "check_size" = true)
    (k_check_size : PySem.W.keepIn K (.ref f_check_size) = true)
    (a_all_flaws : PySem.W.nsIn K mainGlobals "all_flaws" = some (some (.ref f_all_flaws)))
    (l_all_flaws : K.lookup f_all_flaws = some ⟨oc_all_flaws, od_all_flaws, .func (PySem.W.fnOf "all_flaws" "all_flaws" (defArgs s_all_flaws) (defBody s_all_flaws) (defScope s_all_flaws) .none kV_all_flaws dc_all_flaws pm_all_flaws an_all_flaws cd_all_flaws ct_all_flaws), sl_all_flaws⟩)
    (c_all_flaws : PySem.W.codeIn K cd_all_flaws "all_flaws" = true)
    (k_all_flaws : PySem.W.keepIn K (.ref f_all_flaws) = true)
    (a_first_case : PySem.W.nsIn K mainGlobals "first_case" = some (some (.ref f_first_case)))
    (l_first_case : K.lookup f_first_case = some ⟨oc_first_case, od_first_case, .func (PySem.W.fnOf "first_case" "first_case" (defArgs s_first_case) (defBody s_first_case) (defScope s_first_case) .none kV_first_case dc_first_case pm_first_case an_first_case cd_first_case ct_first_case), sl_first_case⟩)
    (c_first_case : PySem.W.codeIn K cd_first_case "first_case" = true)
    (k_first_case : PySem.W.keepIn K (.ref f_first_case) = true)
    (a_hidden_flaws : PySem.W.nsIn K mainGlobals "hidden_flaws" = some (some (.ref f_hidden_flaws)))
    (l_hidden_flaws : K.lookup f_hidden_flaws = some ⟨oc_hidden_flaws, od_hidden_flaws, .func (PySem.W.fnOf "hidden_flaws" "hidden_flaws" (defArgs s_hidden_flaws) (defBody s_hidden_flaws) (defScope s_hidden_flaws) .none kV_hidden_flaws dc_hidden_flaws pm_hidden_flaws an_hidden_flaws cd_hidden_flaws ct_hidden_flaws), sl_hidden_flaws⟩)
    (c_hidden_flaws : PySem.W.codeIn K cd_hidden_flaws "hidden_flaws" = true)
    (k_hidden_flaws : PySem.W.keepIn K (.ref f_hidden_flaws) = true)
    (a_law_cell : PySem.W.nsIn K mainGlobals "_law_cell" = some (some (.ref f_law_cell)))
    (l_law_cell : K.lookup f_law_cell = some ⟨oc_law_cell, od_law_cell, .func (PySem.W.fnOf "_law_cell" "_law_cell" (defArgs s_law_cell) (defBody s_law_cell) (defScope s_law_cell) .none kV_law_cell dc_law_cell pm_law_cell an_law_cell cd_law_cell ct_law_cell), sl_law_cell⟩)
    (c_law_cell : PySem.W.codeIn K cd_law_cell "_law_cell" = true)
    (k_law_cell : PySem.W.keepIn K (.ref f_law_cell) = true)
    (a_law_parts : PySem.W.nsIn K mainGlobals "_law_parts" = some (some (.ref f_law_parts)))
    (l_law_parts : K.lookup f_law_parts = some ⟨oc_law_parts, od_law_parts, .func (PySem.W.fnOf "_law_parts" "_law_parts" (defArgs s_law_parts) (defBody s_law_parts) (defScope s_law_parts) .none kV_law_parts dc_law_parts pm_law_parts an_law_parts cd_law_parts ct_law_parts), sl_law_parts⟩)
    (c_law_parts : PySem.W.codeIn K cd_law_parts "_law_parts" = true)
    (k_law_parts : PySem.W.keepIn K (.ref f_law_parts) = true)
    (a_law_is_integer : PySem.W.nsIn K mainGlobals "_law_is_integer" = some (some (.ref f_law_is_integer)))
    (l_law_is_integer : K.lookup f_law_is_integer = some ⟨oc_law_is_integer, od_law_is_integer, .func (PySem.W.fnOf "_law_is_integer" "_law_is_integer" (defArgs s_law_is_integer) (defBody s_law_is_integer) (defScope s_law_is_integer) .none kV_law_is_integer dc_law_is_integer pm_law_is_integer an_law_is_integer cd_law_is_integer ct_law_is_integer), sl_law_is_integer⟩)
    (c_law_is_integer : PySem.W.codeIn K cd_law_is_integer "_law_is_integer" = true)
    (k_law_is_integer : PySem.W.keepIn K (.ref f_law_is_integer) = true)
    (a_law_kind : PySem.W.nsIn K mainGlobals "_law_kind" = some (some (.ref f_law_kind)))
    (l_law_kind : K.lookup f_law_kind = some ⟨oc_law_kind, od_law_kind, .func (PySem.W.fnOf "_law_kind" "_law_kind" (defArgs s_law_kind) (defBody s_law_kind) (defScope s_law_kind) .none kV_law_kind dc_law_kind pm_law_kind an_law_kind cd_law_kind ct_law_kind), sl_law_kind⟩)
    (c_law_kind : PySem.W.codeIn K cd_law_kind "_law_kind" = true)
    (k_law_kind : PySem.W.keepIn K (.ref f_law_kind) = true)
    (a_law_drawn : PySem.W.nsIn K mainGlobals "_law_drawn" = some (some (.ref f_law_drawn)))
    (l_law_drawn : K.lookup f_law_drawn = some ⟨oc_law_drawn, od_law_drawn, .func (PySem.W.fnOf "_law_drawn" "_law_drawn" (defArgs s_law_drawn) (defBody s_law_drawn) (defScope s_law_drawn) .none kV_law_drawn dc_law_drawn pm_law_drawn an_law_drawn cd_law_drawn ct_law_drawn), sl_law_drawn⟩)
    (c_law_drawn : PySem.W.codeIn K cd_law_drawn "_law_drawn" = true)
    (k_law_drawn : PySem.W.keepIn K (.ref f_law_drawn) = true)
    (a_law_circuit : PySem.W.nsIn K mainGlobals "_law_circuit" = some (some (.ref f_law_circuit)))
    (l_law_circuit : K.lookup f_law_circuit = some ⟨oc_law_circuit, od_law_circuit, .func (PySem.W.fnOf "_law_circuit" "_law_circuit" (defArgs s_law_circuit) (defBody s_law_circuit) (defScope s_law_circuit) .none kV_law_circuit dc_law_circuit pm_law_circuit an_law_circuit cd_law_circuit ct_law_circuit), sl_law_circuit⟩)
    (c_law_circuit : PySem.W.codeIn K cd_law_circuit "_law_circuit" = true)
    (k_law_circuit : PySem.W.keepIn K (.ref f_law_circuit) = true)
    (a_law_value : PySem.W.nsIn K mainGlobals "_law_value" = some (some (.ref f_law_value)))
    (l_law_value : K.lookup f_law_value = some ⟨oc_law_value, od_law_value, .func (PySem.W.fnOf "_law_value" "_law_value" (defArgs s_law_value) (defBody s_law_value) (defScope s_law_value) .none kV_law_value dc_law_value pm_law_value an_law_value cd_law_value ct_law_value), sl_law_value⟩)
    (c_law_value : PySem.W.codeIn K cd_law_value "_law_value" = true)
    (k_law_value : PySem.W.keepIn K (.ref f_law_value) = true)
    (a_law_answers : PySem.W.nsIn K mainGlobals "_law_answers" = some (some (.ref f_law_answers)))
    (l_law_answers : K.lookup f_law_answers = some ⟨oc_law_answers, od_law_answers, .func (PySem.W.fnOf "_law_answers" "_law_answers" (defArgs s_law_answers) (defBody s_law_answers) (defScope s_law_answers) .none kV_law_answers dc_law_answers pm_law_answers an_law_answers cd_law_answers ct_law_answers), sl_law_answers⟩)
    (c_law_answers : PySem.W.codeIn K cd_law_answers "_law_answers" = true)
    (k_law_answers : PySem.W.keepIn K (.ref f_law_answers) = true)
    (a_law_cases : PySem.W.nsIn K mainGlobals "_law_cases" = some (some (.ref f_law_cases)))
    (l_law_cases : K.lookup f_law_cases = some ⟨oc_law_cases, od_law_cases, .func (PySem.W.fnOf "_law_cases" "_law_cases" (defArgs s_law_cases) (defBody s_law_cases) (defScope s_law_cases) .none kV_law_cases dc_law_cases pm_law_cases an_law_cases cd_law_cases ct_law_cases), sl_law_cases⟩)
    (c_law_cases : PySem.W.codeIn K cd_law_cases "_law_cases" = true)
    (k_law_cases : PySem.W.keepIn K (.ref f_law_cases) = true)
    (a_law_refuses : PySem.W.nsIn K mainGlobals "_law_refuses" = some (some (.ref f_law_refuses)))
    (l_law_refuses : K.lookup f_law_refuses = some ⟨oc_law_refuses, od_law_refuses, .func (PySem.W.fnOf "_law_refuses" "_law_refuses" (defArgs s_law_refuses) (defBody s_law_refuses) (defScope s_law_refuses) .none kV_law_refuses dc_law_refuses pm_law_refuses an_law_refuses cd_law_refuses ct_law_refuses), sl_law_refuses⟩)
    (c_law_refuses : PySem.W.codeIn K cd_law_refuses "_law_refuses" = true)
    (k_law_refuses : PySem.W.keepIn K (.ref f_law_refuses) = true)
    (a_law_bare : PySem.W.nsIn K mainGlobals "_law_bare" = some (some (.ref f_law_bare)))
    (l_law_bare : K.lookup f_law_bare = some ⟨oc_law_bare, od_law_bare, .func (PySem.W.fnOf "_law_bare" "_law_bare" (defArgs s_law_bare) (defBody s_law_bare) (defScope s_law_bare) .none kV_law_bare dc_law_bare pm_law_bare an_law_bare cd_law_bare ct_law_bare), sl_law_bare⟩)
    (c_law_bare : PySem.W.codeIn K cd_law_bare "_law_bare" = true)
    (k_law_bare : PySem.W.keepIn K (.ref f_law_bare) = true)
    (a_law : PySem.W.nsIn K mainGlobals "law" = some (some (.ref f_law)))
    (l_law : K.lookup f_law = some ⟨oc_law, od_law, .func (PySem.W.fnOf "law" "law" (defArgs s_law) (defBody s_law) (defScope s_law) .none kV_law dc_law pm_law an_law cd_law ct_law), sl_law⟩)
    (c_law : PySem.W.codeIn K cd_law "law" = true)
    (k_law : PySem.W.keepIn K (.ref f_law) = true)
    (z_all : PySem.W.nsIn K mainGlobals "all" = some none)
    (z_any : PySem.W.nsIn K mainGlobals "any" = some none)
    (z_bool : PySem.W.nsIn K mainGlobals "bool" = some none)
    (z_enumerate : PySem.W.nsIn K mainGlobals "enumerate" = some none)
    (z_int : PySem.W.nsIn K mainGlobals "int" = some none)
    (z_isinstance : PySem.W.nsIn K mainGlobals "isinstance" = some none)
    (z_len : PySem.W.nsIn K mainGlobals "len" = some none)
    (z_list : PySem.W.nsIn K mainGlobals "list" = some none)
    (z_max : PySem.W.nsIn K mainGlobals "max" = some none)
    (z_min : PySem.W.nsIn K mainGlobals "min" = some none)
    (z_range : PySem.W.nsIn K mainGlobals "range" = some none)
    (z_sum : PySem.W.nsIn K mainGlobals "sum" = some none)
    (z_tuple : PySem.W.nsIn K mainGlobals "tuple" = some none)
    (e1_GatesError : PySem.W.nsIn K mainGlobals "GatesError" = some (some (.ref c_GatesError)))
    (e3_GatesError : PySem.W.keepIn K (.ref c_GatesError) = true)
    (e4_GatesError : PySem.W.subIn K (.ref c_GatesError) (.type "BaseException") = some true)
    (e5_GatesError : PySem.W.typeIn K (.ref c_GatesError) = some (.type "type"))
    (e6_GatesError : PySem.W.isClsIn K c_GatesError = true)
    (e7_GatesError : PySem.W.subIn K (.ref c_GatesError) (.ref c_GatesError) = some true)
    (e1_NoSuchThing : PySem.W.nsIn K mainGlobals "NoSuchThing" = some (some (.ref c_NoSuchThing)))
    (e2_NoSuchThing : PySem.W.excIn K c_NoSuchThing [.type "ValueError", .type "Exception", .type "BaseException", .type "object"] "ValueError.__new__" = true)
    (e3_NoSuchThing : PySem.W.keepIn K (.ref c_NoSuchThing) = true)
    (e4_NoSuchThing : PySem.W.subIn K (.ref c_NoSuchThing) (.type "BaseException") = some true)
    (e5_NoSuchThing : PySem.W.typeIn K (.ref c_NoSuchThing) = some (.type "type"))
    (e6_NoSuchThing : PySem.W.isClsIn K c_NoSuchThing = true)
    (e7_NoSuchThing : PySem.W.subIn K (.ref c_NoSuchThing) (.ref c_NoSuchThing) = some true)
    (e1_TooLarge : PySem.W.nsIn K mainGlobals "TooLarge" = some (some (.ref c_TooLarge)))
    (e2_TooLarge : PySem.W.excIn K c_TooLarge [.type "ValueError", .type "Exception", .type "BaseException", .type "object"] "ValueError.__new__" = true)
    (e3_TooLarge : PySem.W.keepIn K (.ref c_TooLarge) = true)
    (e4_TooLarge : PySem.W.subIn K (.ref c_TooLarge) (.type "BaseException") = some true)
    (e5_TooLarge : PySem.W.typeIn K (.ref c_TooLarge) = some (.type "type"))
    (e6_TooLarge : PySem.W.isClsIn K c_TooLarge = true)
    (e7_TooLarge : PySem.W.subIn K (.ref c_TooLarge) (.ref c_TooLarge) = some true)
    (es_GatesError_NoSuchThing : PySem.W.subIn K (.ref c_NoSuchThing) (.ref c_GatesError) = some true)
    (es_GatesError_TooLarge : PySem.W.subIn K (.ref c_TooLarge) (.ref c_GatesError) = some true)
    (es_NoSuchThing_TooLarge : PySem.W.subIn K (.ref c_TooLarge) (.ref c_NoSuchThing) = some false)
    (xa_NoSuchThing : PySem.W.findIn K (.ref c_NoSuchThing) "__getattribute__" = some (some (.builtin "BaseException.__getattribute__")))
    (xb_NoSuchThing : PySem.W.findIn K (.ref c_NoSuchThing) "__getattr__" = some none)
    (xd_NoSuchThing : PySem.W.hasDictIn K c_NoSuchThing = true)
    (xe_NoSuchThing : PySem.W.findIn K (.ref c_NoSuchThing) "__class__" = some (some (.builtin "object.__class__")))
    (xm_NoSuchThing : PySem.W.mroIn K c_NoSuchThing (.type "object") = some true)
    (xa_TooLarge : PySem.W.findIn K (.ref c_TooLarge) "__getattribute__" = some (some (.builtin "BaseException.__getattribute__")))
    (xb_TooLarge : PySem.W.findIn K (.ref c_TooLarge) "__getattr__" = some none)
    (xd_TooLarge : PySem.W.hasDictIn K c_TooLarge = true)
    (xe_TooLarge : PySem.W.findIn K (.ref c_TooLarge) "__class__" = some (some (.builtin "object.__class__")))
    (xm_TooLarge : PySem.W.mroIn K c_TooLarge (.type "object") = some true)
    (xn : PySem.W.specialIn K (.builtin "object.__class__") "__get__" = some (some (.builtin "getset_descriptor.__get__")))
    (xt : PySem.W.takesIn K (.builtin "object.__class__") = some true)
    (d1_CONSTANTS : PySem.W.nsIn K mainGlobals "CONSTANTS" = some (some (.ref a_CONSTANTS)))
    (d2_CONSTANTS : K.lookup a_CONSTANTS = some ⟨.type "dict", none, .dict es_CONSTANTS n_CONSTANTS, #[]⟩)
    (d3_CONSTANTS : PySem.W.KeysLit w.params es_CONSTANTS.toList)
    (d4_CONSTANTS : (a_CONSTANTS == sysModules) = false)
    (dn0_CONSTANTS : PySem.W.nsIn K a_CONSTANTS "not" = some none)
    (dn1_CONSTANTS : PySem.W.nsIn K a_CONSTANTS "nand2" = some none)
    (dn2_CONSTANTS : PySem.W.nsIn K a_CONSTANTS "nand3" = some none)
    (dn3_CONSTANTS : PySem.W.nsIn K a_CONSTANTS "nor2" = some none)
    (dn4_CONSTANTS : PySem.W.nsIn K a_CONSTANTS "nor3" = some none)
    (dy0_CONSTANTS : PySem.W.nsIn K a_CONSTANTS "tie0" = some (some u0_CONSTANTS))
    (r_dv0_CONSTANTS : RelV (.int 0) u0_CONSTANTS)
    (dy1_CONSTANTS : PySem.W.nsIn K a_CONSTANTS "tie1" = some (some u1_CONSTANTS))
    (r_dv1_CONSTANTS : RelV (.int 1) u1_CONSTANTS)
    (d1_MOST_CASES : PySem.W.nsIn K mainGlobals "MOST_CASES" = some (some u_MOST_CASES))
    (r_dv_MOST_CASES : RelV (.int 64) u_MOST_CASES)
    (d1_NANDS : PySem.W.nsIn K mainGlobals "NANDS" = some (some u_NANDS))
    (r_dv_NANDS : RelV (.ref ta_dv_NANDS) u_NANDS)
    (tk_dv_NANDS : K.lookup ta_dv_NANDS = some ⟨.type "tuple", to_dv_NANDS, .seq ts_dv_NANDS tn_dv_NANDS, tl_dv_NANDS⟩)
    (tv_dv_NANDS : Vals [V.str (S "not"), V.str (S "nand2"), V.str (S "nand3")] ts_dv_NANDS.toList)
    (tz_dv_NANDS : ts_dv_NANDS.size ≤ sizeLine) :
    ∃ fd : FuncData, (∀ (s : Shared) (v : Value), BindsTo s fd ⟨[v], []⟩ [("script", v)]) ∧ ∀ base : Heap, K.In base → base.Ns mainGlobals mg → FnOk P w K mg base (L2.CX P w) 9 fa fd ["script"] (spTop K) := by
  have e := hfa.symm.trans (PySem.W.mg_of X G a_law)
  cases e
  have F_cell_value := fun_mk (st := s_cell_value) l_cell_value c_cell_value k_cell_value
  have b_cell_value := F_cell_value.binds (ps := ["kind", "values"]) fun _ _ _ _ _ _ us hl => match us, hl with | [_, _], _ => rfl
  have F_latch_cells := fun_mk (st := s_latch_cells) l_latch_cells c_latch_cells k_latch_cells
  have b_latch_cells := F_latch_cells.binds (ps := ["circuit"]) fun _ _ _ _ _ _ us hl => match us, hl with | [_], _ => rfl
  have F_settled_values := fun_mk (st := s_settled_values) l_settled_values c_settled_values k_settled_values
  have b_settled_values := F_settled_values.binds (ps := ["circuit", "inputs", "states", "stuck"]) fun _ _ _ _ _ _ us hl => match us, hl with | [_, _, _, _], _ => rfl
  have F_bit_count := fun_mk (st := s_bit_count) l_bit_count c_bit_count k_bit_count
  have b_bit_count := F_bit_count.binds (ps := ["circuit"]) fun _ _ _ _ _ _ us hl => match us, hl with | [_], _ => rfl
  have F_case_count := fun_mk (st := s_case_count) l_case_count c_case_count k_case_count
  have b_case_count := F_case_count.binds (ps := ["circuit"]) fun _ _ _ _ _ _ us hl => match us, hl with | [_], _ => rfl
  have F_case_bits := fun_mk (st := s_case_bits) l_case_bits c_case_bits k_case_bits
  have b_case_bits := F_case_bits.binds (ps := ["circuit", "case"]) fun _ _ _ _ _ _ us hl => match us, hl with | [_, _], _ => rfl
  have F_check_flaw := fun_mk (st := s_check_flaw) l_check_flaw c_check_flaw k_check_flaw
  have b_check_flaw := F_check_flaw.binds (ps := ["circuit", "flaw"]) fun _ _ _ _ _ _ us hl => match us, hl with | [_, _], _ => rfl
  have F_answers := fun_mk (st := s_answers) l_answers c_answers k_answers
  have b_answers := F_answers.binds (ps := ["circuit", "case", "stuck"]) fun _ _ _ _ _ _ us hl => match us, hl with | [_, _, _], _ => rfl
  have F_shows := fun_mk (st := s_shows) l_shows c_shows k_shows
  have b_shows := F_shows.binds (ps := ["circuit", "flaw", "case"]) fun _ _ _ _ _ _ us hl => match us, hl with | [_, _, _], _ => rfl
  have F_check_size := fun_mk (st := s_check_size) l_check_size c_check_size k_check_size
  have b_check_size := F_check_size.binds (ps := ["circuit"]) fun _ _ _ _ _ _ us hl => match us, hl with | [_], _ => rfl
  have F_all_flaws := fun_mk (st := s_all_flaws) l_all_flaws c_all_flaws k_all_flaws
  have b_all_flaws := F_all_flaws.binds (ps := ["circuit"]) fun _ _ _ _ _ _ us hl => match us, hl with | [_], _ => rfl
  have F_first_case := fun_mk (st := s_first_case) l_first_case c_first_case k_first_case
  have b_first_case := F_first_case.binds (ps := ["circuit", "flaw"]) fun _ _ _ _ _ _ us hl => match us, hl with | [_, _], _ => rfl
  have F_hidden_flaws := fun_mk (st := s_hidden_flaws) l_hidden_flaws c_hidden_flaws k_hidden_flaws
  have b_hidden_flaws := F_hidden_flaws.binds (ps := ["circuit"]) fun _ _ _ _ _ _ us hl => match us, hl with | [_], _ => rfl
  have F_law_cell := fun_mk (st := s_law_cell) l_law_cell c_law_cell k_law_cell
  have b_law_cell := F_law_cell.binds (ps := ["script", "k"]) fun _ _ _ _ _ _ us hl => match us, hl with | [_, _], _ => rfl
  have F_law_parts := fun_mk (st := s_law_parts) l_law_parts c_law_parts k_law_parts
  have b_law_parts := F_law_parts.binds (ps := ["cell", "sizes"]) fun _ _ _ _ _ _ us hl => match us, hl with | [_, _], _ => rfl
  have F_law_is_integer := fun_mk (st := s_law_is_integer) l_law_is_integer c_law_is_integer k_law_is_integer
  have b_law_is_integer := F_law_is_integer.binds (ps := ["actual"]) fun _ _ _ _ _ _ us hl => match us, hl with | [_], _ => rfl
  have F_law_kind := fun_mk (st := s_law_kind) l_law_kind c_law_kind k_law_kind
  have b_law_kind := F_law_kind.binds (ps := ["parts", "nets", "latches"]) fun _ _ _ _ _ _ us hl => match us, hl with | [_, _, _], _ => rfl
  have F_law_drawn := fun_mk (st := s_law_drawn) l_law_drawn c_law_drawn k_law_drawn
  have b_law_drawn := F_law_drawn.binds (ps := ["parts", "count", "nets"]) fun _ _ _ _ _ _ us hl => match us, hl with | [_, _, _], _ => rfl
  have F_law_circuit := fun_mk (st := s_law_circuit) l_law_circuit c_law_circuit k_law_circuit
  have b_law_circuit := F_law_circuit.binds (ps := ["script", "most"]) fun _ _ _ _ _ _ us hl => match us, hl with | [_, _], _ => rfl
  have F_law_value := fun_mk (st := s_law_value) l_law_value c_law_value k_law_value
  have b_law_value := F_law_value.binds (ps := ["kind", "bits"]) fun _ _ _ _ _ _ us hl => match us, hl with | [_, _], _ => rfl
  have F_law_answers := fun_mk (st := s_law_answers) l_law_answers c_law_answers k_law_answers
  have b_law_answers := F_law_answers.binds (ps := ["circuit", "case", "net", "value"]) fun _ _ _ _ _ _ us hl => match us, hl with | [_, _, _, _], _ => rfl
  have F_law_cases := fun_mk (st := s_law_cases) l_law_cases c_law_cases k_law_cases
  have b_law_cases := F_law_cases.binds (ps := ["circuit"]) fun _ _ _ _ _ _ us hl => match us, hl with | [_], _ => rfl
  have F_law_refuses := fun_mk (st := s_law_refuses) l_law_refuses c_law_refuses k_law_refuses
  have b_law_refuses := F_law_refuses.binds (ps := ["circuit", "flaw"]) fun _ _ _ _ _ _ us hl => match us, hl with | [_, _], _ => rfl
  have F_law_bare := fun_mk (st := s_law_bare) l_law_bare c_law_bare k_law_bare
  have b_law_bare := F_law_bare.binds (ps := ["script", "circuit"]) fun _ _ _ _ _ _ us hl => match us, hl with | [_, _], _ => rfl
  have F_law := fun_mk (st := s_law) l_law c_law k_law
  have b_law := F_law.binds (ps := ["script"]) fun _ _ _ _ _ _ us hl => match us, hl with | [_], _ => rfl
  have T : ∃ T : Tx K mg w, T.f_law = fa ∧ T.fd_law = PySem.W.fnOf "law" "law" (defArgs s_law) (defBody s_law) (defScope s_law) .none kV_law dc_law pm_law an_law cd_law ct_law := ⟨{
    f_cell_value := f_cell_value,
    fd_cell_value := _,
    F_cell_value := F_cell_value,
    g_cell_value := PySem.W.mg_of X G a_cell_value,
    kp_cell_value := k_cell_value,
    b_cell_value := b_cell_value,
    f_latch_cells := f_latch_cells,
    fd_latch_cells := _,
    F_latch_cells := F_latch_cells,
    g_latch_cells := PySem.W.mg_of X G a_latch_cells,
    kp_latch_cells := k_latch_cells,
    b_latch_cells := b_latch_cells,
    f_settled_values := f_settled_values,
    fd_settled_values := _,
    F_settled_values := F_settled_values,
    g_settled_values := PySem.W.mg_of X G a_settled_values,
    kp_settled_values := k_settled_values,
    b_settled_values := b_settled_values,
    f_bit_count := f_bit_count,
    fd_bit_count := _,
    F_bit_count := F_bit_count,
    g_bit_count := PySem.W.mg_of X G a_bit_count,
    kp_bit_count := k_bit_count,
    b_bit_count := b_bit_count,
    f_case_count := f_case_count,
    fd_case_count := _,
    F_case_count := F_case_count,
    g_case_count := PySem.W.mg_of X G a_case_count,
    kp_case_count := k_case_count,
    b_case_count := b_case_count,
    f_case_bits := f_case_bits,
    fd_case_bits := _,
    F_case_bits := F_case_bits,
    g_case_bits := PySem.W.mg_of X G a_case_bits,
    kp_case_bits := k_case_bits,
    b_case_bits := b_case_bits,
    f_check_flaw := f_check_flaw,
    fd_check_flaw := _,
    F_check_flaw := F_check_flaw,
    g_check_flaw := PySem.W.mg_of X G a_check_flaw,
    kp_check_flaw := k_check_flaw,
    b_check_flaw := b_check_flaw,
    f_answers := f_answers,
    fd_answers := _,
    F_answers := F_answers,
    g_answers := PySem.W.mg_of X G a_answers,
    kp_answers := k_answers,
    b_answers := b_answers,
    f_shows := f_shows,
    fd_shows := _,
    F_shows := F_shows,
    g_shows := PySem.W.mg_of X G a_shows,
    kp_shows := k_shows,
    b_shows := b_shows,
    f_check_size := f_check_size,
    fd_check_size := _,
    F_check_size := F_check_size,
    g_check_size := PySem.W.mg_of X G a_check_size,
    kp_check_size := k_check_size,
    b_check_size := b_check_size,
    f_all_flaws := f_all_flaws,
    fd_all_flaws := _,
    F_all_flaws := F_all_flaws,
    g_all_flaws := PySem.W.mg_of X G a_all_flaws,
    kp_all_flaws := k_all_flaws,
    b_all_flaws := b_all_flaws,
    f_first_case := f_first_case,
    fd_first_case := _,
    F_first_case := F_first_case,
    g_first_case := PySem.W.mg_of X G a_first_case,
    kp_first_case := k_first_case,
    b_first_case := b_first_case,
    f_hidden_flaws := f_hidden_flaws,
    fd_hidden_flaws := _,
    F_hidden_flaws := F_hidden_flaws,
    g_hidden_flaws := PySem.W.mg_of X G a_hidden_flaws,
    kp_hidden_flaws := k_hidden_flaws,
    b_hidden_flaws := b_hidden_flaws,
    f_law_cell := f_law_cell,
    fd_law_cell := _,
    F_law_cell := F_law_cell,
    g_law_cell := PySem.W.mg_of X G a_law_cell,
    kp_law_cell := k_law_cell,
    b_law_cell := b_law_cell,
    f_law_parts := f_law_parts,
    fd_law_parts := _,
    F_law_parts := F_law_parts,
    g_law_parts := PySem.W.mg_of X G a_law_parts,
    kp_law_parts := k_law_parts,
    b_law_parts := b_law_parts,
    f_law_is_integer := f_law_is_integer,
    fd_law_is_integer := _,
    F_law_is_integer := F_law_is_integer,
    g_law_is_integer := PySem.W.mg_of X G a_law_is_integer,
    kp_law_is_integer := k_law_is_integer,
    b_law_is_integer := b_law_is_integer,
    f_law_kind := f_law_kind,
    fd_law_kind := _,
    F_law_kind := F_law_kind,
    g_law_kind := PySem.W.mg_of X G a_law_kind,
    kp_law_kind := k_law_kind,
    b_law_kind := b_law_kind,
    f_law_drawn := f_law_drawn,
    fd_law_drawn := _,
    F_law_drawn := F_law_drawn,
    g_law_drawn := PySem.W.mg_of X G a_law_drawn,
    kp_law_drawn := k_law_drawn,
    b_law_drawn := b_law_drawn,
    f_law_circuit := f_law_circuit,
    fd_law_circuit := _,
    F_law_circuit := F_law_circuit,
    g_law_circuit := PySem.W.mg_of X G a_law_circuit,
    kp_law_circuit := k_law_circuit,
    b_law_circuit := b_law_circuit,
    f_law_value := f_law_value,
    fd_law_value := _,
    F_law_value := F_law_value,
    g_law_value := PySem.W.mg_of X G a_law_value,
    kp_law_value := k_law_value,
    b_law_value := b_law_value,
    f_law_answers := f_law_answers,
    fd_law_answers := _,
    F_law_answers := F_law_answers,
    g_law_answers := PySem.W.mg_of X G a_law_answers,
    kp_law_answers := k_law_answers,
    b_law_answers := b_law_answers,
    f_law_cases := f_law_cases,
    fd_law_cases := _,
    F_law_cases := F_law_cases,
    g_law_cases := PySem.W.mg_of X G a_law_cases,
    kp_law_cases := k_law_cases,
    b_law_cases := b_law_cases,
    f_law_refuses := f_law_refuses,
    fd_law_refuses := _,
    F_law_refuses := F_law_refuses,
    g_law_refuses := PySem.W.mg_of X G a_law_refuses,
    kp_law_refuses := k_law_refuses,
    b_law_refuses := b_law_refuses,
    f_law_bare := f_law_bare,
    fd_law_bare := _,
    F_law_bare := F_law_bare,
    g_law_bare := PySem.W.mg_of X G a_law_bare,
    kp_law_bare := k_law_bare,
    b_law_bare := b_law_bare,
    f_law := fa,
    fd_law := _,
    F_law := F_law,
    g_law := PySem.W.mg_of X G a_law,
    kp_law := k_law,
    b_law := b_law,
    m_all := PySem.W.mg_none_of X G z_all,
    m_any := PySem.W.mg_none_of X G z_any,
    m_bool := PySem.W.mg_none_of X G z_bool,
    m_enumerate := PySem.W.mg_none_of X G z_enumerate,
    m_int := PySem.W.mg_none_of X G z_int,
    m_isinstance := PySem.W.mg_none_of X G z_isinstance,
    m_len := PySem.W.mg_none_of X G z_len,
    m_list := PySem.W.mg_none_of X G z_list,
    m_max := PySem.W.mg_none_of X G z_max,
    m_min := PySem.W.mg_none_of X G z_min,
    m_range := PySem.W.mg_none_of X G z_range,
    m_sum := PySem.W.mg_none_of X G z_sum,
    m_tuple := PySem.W.mg_none_of X G z_tuple,
    c_GatesError := c_GatesError,
    g_GatesError := PySem.W.mg_of X G e1_GatesError,
    kp_GatesError := e3_GatesError,
    sb_GatesError := e4_GatesError,
    ty_GatesError := e5_GatesError,
    x_NoSuchThing := e2_NoSuchThing,
    c_NoSuchThing := c_NoSuchThing,
    g_NoSuchThing := PySem.W.mg_of X G e1_NoSuchThing,
    kp_NoSuchThing := e3_NoSuchThing,
    sb_NoSuchThing := e4_NoSuchThing,
    ty_NoSuchThing := e5_NoSuchThing,
    x_TooLarge := e2_TooLarge,
    c_TooLarge := c_TooLarge,
    g_TooLarge := PySem.W.mg_of X G e1_TooLarge,
    kp_TooLarge := e3_TooLarge,
    sb_TooLarge := e4_TooLarge,
    ty_TooLarge := e5_TooLarge,
    em_GatesError_NoSuchThing := exm_of2 e4_GatesError e6_GatesError e5_GatesError es_GatesError_NoSuchThing,
    em_GatesError_TooLarge := exm_of2 e4_GatesError e6_GatesError e5_GatesError es_GatesError_TooLarge,
    ki_NoSuchThing_NoSuchThing := kit_of2 e7_NoSuchThing e6_NoSuchThing e5_NoSuchThing e7_NoSuchThing,
    ki_NoSuchThing_TooLarge := kit_of2 e7_TooLarge e6_NoSuchThing e5_NoSuchThing es_NoSuchThing_TooLarge,
    xc_NoSuchThing := ⟨xa_NoSuchThing, xb_NoSuchThing, e4_NoSuchThing, xd_NoSuchThing, xe_NoSuchThing, xn, xt, xm_NoSuchThing⟩,
    xc_TooLarge := ⟨xa_TooLarge, xb_TooLarge, e4_TooLarge, xd_TooLarge, xe_TooLarge, xn, xt, xm_TooLarge⟩,
    a_CONSTANTS := a_CONSTANTS,
    g_CONSTANTS := PySem.W.mg_of X G d1_CONSTANTS,
    t_CONSTANTS := ktab_mk ⟨_, _, d2_CONSTANTS, d3_CONSTANTS, d4_CONSTANTS⟩ (⟨⟨_, _, dy0_CONSTANTS, r_dv0_CONSTANTS, fun _ => .int _⟩, ⟨⟨_, _, dy1_CONSTANTS, r_dv1_CONSTANTS, fun _ => .int _⟩, ⟨dn0_CONSTANTS, ⟨dn1_CONSTANTS, ⟨dn2_CONSTANTS, ⟨dn3_CONSTANTS, ⟨dn4_CONSTANTS, trivial⟩⟩⟩⟩⟩⟩⟩),
    a_MOST_CASES := .int 64,
    u_MOST_CASES := _,
    g_MOST_CASES := PySem.W.mg_of X G d1_MOST_CASES,
    r_MOST_CASES := r_dv_MOST_CASES,
    k_MOST_CASES := fun _ => .int _,
    a_NANDS := .ref ta_dv_NANDS,
    u_NANDS := _,
    g_NANDS := PySem.W.mg_of X G d1_NANDS,
    r_NANDS := r_dv_NANDS,
    k_NANDS := fun _ => .tup (.inr ⟨_, _, _, tk_dv_NANDS, rfl, rfl, tz_dv_NANDS, tv_dv_NANDS⟩) (.cons (.str _) (.cons (.str _) (.cons (.str _) (.nil)))) }, rfl, rfl⟩
  obtain ⟨T, e1, e2⟩ := T
  refine ⟨PySem.W.fnOf "law" "law" (defArgs s_law) (defBody s_law) (defScope s_law) .none kV_law dc_law pm_law an_law cd_law ct_law, fun s v => .of_eq rfl, fun base _ _ => ?_⟩
  have z := law_ok (P := P) (base := base) T
  rw [e1, e2] at z
  exact z
end K09
open PySem PySem.W PyProof.Rows
theorem PySem.Challenge.cw_pinsalone_k09_hidden_flaws_holds : PySem.Challenge.rw_pinsalone_k09_hidden_flaws.Holds := by
  w_on; o_law; k_head; (case hw => w_witness2)
  k_fill
  refine L2.walk_of (l := PySem.Challenge.rw_pinsalone_k09_hidden_flaws) (n := 63) (k := 9) (x := "script") (CX := fun w => L2.CX PySem.Challenge.rw_pinsalone_k09_hidden_flaws.prog w) (sp := fun w => PV.spTop _) rfl (by decide) rfl ⟨rfl, by decide, by decide⟩ (fun w h Y => PySem.W.kIn_of Y) ?F (fun _ _ a ns hl _ hS => ⟨a, ns, rfl, hS, hl, fun _ => rfl⟩) (fun w H s e s' h => PV.cx_false h)
  case F =>
    intro w mg fa h KX G hmg
    refine' K09.all_mk KX G hmg ?a_cell_value ?l_cell_value ?c_cell_value ?k_cell_value ?a_latch_cells ?l_latch_cells ?c_latch_cells ?k_latch_cells ?a_settled_values ?l_settled_values ?c_settled_values ?k_settled_values ?a_bit_count ?l_bit_count ?c_bit_count ?k_bit_count ?a_case_count ?l_case_count ?c_case_count ?k_case_count ?a_case_bits ?l_case_bits ?c_case_bits ?k_case_bits ?a_check_flaw ?l_check_flaw ?c_check_flaw ?k_check_flaw ?a_answers ?l_answers ?c_answers ?k_answers ?a_shows ?l_shows ?c_shows ?k_shows ?a_check_size ?l_check_size ?c_check_size ?k_check_size ?a_all_flaws ?l_all_flaws ?c_all_flaws ?k_all_flaws ?a_first_case ?l_first_case ?c_first_case ?k_first_case ?a_hidden_flaws ?l_hidden_flaws ?c_hidden_flaws ?k_hidden_flaws ?a_law_cell ?l_law_cell ?c_law_cell ?k_law_cell ?a_law_parts ?l_law_parts ?c_law_parts ?k_law_parts ?a_law_is_integer ?l_law_is_integer ?c_law_is_integer ?k_law_is_integer ?a_law_kind ?l_law_kind ?c_law_kind ?k_law_kind ?a_law_drawn ?l_law_drawn ?c_law_drawn ?k_law_drawn ?a_law_circuit ?l_law_circuit ?c_law_circuit ?k_law_circuit ?a_law_value ?l_law_value ?c_law_value ?k_law_value ?a_law_answers ?l_law_answers ?c_law_answers ?k_law_answers ?a_law_cases ?l_law_cases ?c_law_cases ?k_law_cases ?a_law_refuses ?l_law_refuses ?c_law_refuses ?k_law_refuses ?a_law_bare ?l_law_bare ?c_law_bare ?k_law_bare ?a_law ?l_law ?c_law ?k_law ?z_all ?z_any ?z_bool ?z_enumerate ?z_int ?z_isinstance ?z_len ?z_list ?z_max ?z_min ?z_range ?z_sum ?z_tuple ?e1_GatesError ?e3_GatesError ?e4_GatesError ?e5_GatesError ?e6_GatesError ?e7_GatesError ?e1_NoSuchThing ?e2_NoSuchThing ?e3_NoSuchThing ?e4_NoSuchThing ?e5_NoSuchThing ?e6_NoSuchThing ?e7_NoSuchThing ?e1_TooLarge ?e2_TooLarge ?e3_TooLarge ?e4_TooLarge ?e5_TooLarge ?e6_TooLarge ?e7_TooLarge ?es_GatesError_NoSuchThing ?es_GatesError_TooLarge ?es_NoSuchThing_TooLarge ?xa_NoSuchThing ?xb_NoSuchThing ?xd_NoSuchThing ?xe_NoSuchThing ?xm_NoSuchThing ?xa_TooLarge ?xb_TooLarge ?xd_TooLarge ?xe_TooLarge ?xm_TooLarge ?xn ?xt ?d1_CONSTANTS ?d2_CONSTANTS ?d3_CONSTANTS ?d4_CONSTANTS ?dn0_CONSTANTS ?dn1_CONSTANTS ?dn2_CONSTANTS ?dn3_CONSTANTS ?dn4_CONSTANTS ?dy0_CONSTANTS ?r_dv0_CONSTANTS ?dy1_CONSTANTS ?r_dv1_CONSTANTS ?d1_MOST_CASES ?r_dv_MOST_CASES ?d1_NANDS ?r_dv_NANDS ?tk_dv_NANDS ?tv_dv_NANDS ?tz_dv_NANDS
    (case a_cell_value => k_is)
    (case l_cell_value => k_is)
    (case c_cell_value => k_is)
    (case k_cell_value => k_is)
    (case a_latch_cells => k_is)
    (case l_latch_cells => k_is)
    (case c_latch_cells => k_is)
    (case k_latch_cells => k_is)
    (case a_settled_values => k_is)
    (case l_settled_values => k_is)
    (case c_settled_values => k_is)
    (case k_settled_values => k_is)
    (case a_bit_count => k_is)
    (case l_bit_count => k_is)
    (case c_bit_count => k_is)
    (case k_bit_count => k_is)
    (case a_case_count => k_is)
    (case l_case_count => k_is)
    (case c_case_count => k_is)
    (case k_case_count => k_is)
    (case a_case_bits => k_is)
    (case l_case_bits => k_is)
    (case c_case_bits => k_is)
    (case k_case_bits => k_is)
    (case a_check_flaw => k_is)
    (case l_check_flaw => k_is)
    (case c_check_flaw => k_is)
    (case k_check_flaw => k_is)
    (case a_answers => k_is)
    (case l_answers => k_is)
    (case c_answers => k_is)
    (case k_answers => k_is)
    (case a_shows => k_is)
    (case l_shows => k_is)
    (case c_shows => k_is)
    (case k_shows => k_is)
    (case a_check_size => k_is)
    (case l_check_size => k_is)
    (case c_check_size => k_is)
    (case k_check_size => k_is)
    (case a_all_flaws => k_is)
    (case l_all_flaws => k_is)
    (case c_all_flaws => k_is)
    (case k_all_flaws => k_is)
    (case a_first_case => k_is)
    (case l_first_case => k_is)
    (case c_first_case => k_is)
    (case k_first_case => k_is)
    (case a_hidden_flaws => k_is)
    (case l_hidden_flaws => k_is)
    (case c_hidden_flaws => k_is)
    (case k_hidden_flaws => k_is)
    (case a_law_cell => k_is)
    (case l_law_cell => k_is)
    (case c_law_cell => k_is)
    (case k_law_cell => k_is)
    (case a_law_parts => k_is)
    (case l_law_parts => k_is)
    (case c_law_parts => k_is)
    (case k_law_parts => k_is)
    (case a_law_is_integer => k_is)
    (case l_law_is_integer => k_is)
    (case c_law_is_integer => k_is)
    (case k_law_is_integer => k_is)
    (case a_law_kind => k_is)
    (case l_law_kind => k_is)
    (case c_law_kind => k_is)
    (case k_law_kind => k_is)
    (case a_law_drawn => k_is)
    (case l_law_drawn => k_is)
    (case c_law_drawn => k_is)
    (case k_law_drawn => k_is)
    (case a_law_circuit => k_is)
    (case l_law_circuit => k_is)
    (case c_law_circuit => k_is)
    (case k_law_circuit => k_is)
    (case a_law_value => k_is)
    (case l_law_value => k_is)
    (case c_law_value => k_is)
    (case k_law_value => k_is)
    (case a_law_answers => k_is)
    (case l_law_answers => k_is)
    (case c_law_answers => k_is)
    (case k_law_answers => k_is)
    (case a_law_cases => k_is)
    (case l_law_cases => k_is)
    (case c_law_cases => k_is)
    (case k_law_cases => k_is)
    (case a_law_refuses => k_is)
    (case l_law_refuses => k_is)
    (case c_law_refuses => k_is)
    (case k_law_refuses => k_is)
    (case a_law_bare => k_is)
    (case l_law_bare => k_is)
    (case c_law_bare => k_is)
    (case k_law_bare => k_is)
    (case a_law => k_is)
    (case l_law => k_is)
    (case c_law => k_is)
    (case k_law => k_is)
    (case z_all => k_is)
    (case z_any => k_is)
    (case z_bool => k_is)
    (case z_enumerate => k_is)
    (case z_int => k_is)
    (case z_isinstance => k_is)
    (case z_len => k_is)
    (case z_list => k_is)
    (case z_max => k_is)
    (case z_min => k_is)
    (case z_range => k_is)
    (case z_sum => k_is)
    (case z_tuple => k_is)
    (case e1_GatesError => k_is)
    (case e3_GatesError => k_is)
    (case e4_GatesError => k_is)
    (case e5_GatesError => k_is)
    (case e6_GatesError => k_is)
    (case e7_GatesError => first | rfl | k_is)
    (case e1_NoSuchThing => k_is)
    (case e2_NoSuchThing => k_exc)
    (case e3_NoSuchThing => k_is)
    (case e4_NoSuchThing => k_is)
    (case e5_NoSuchThing => k_is)
    (case e6_NoSuchThing => k_is)
    (case e7_NoSuchThing => first | rfl | k_is)
    (case e1_TooLarge => k_is)
    (case e2_TooLarge => k_exc)
    (case e3_TooLarge => k_is)
    (case e4_TooLarge => k_is)
    (case e5_TooLarge => k_is)
    (case e6_TooLarge => k_is)
    (case e7_TooLarge => first | rfl | k_is)
    (case es_GatesError_NoSuchThing => first | rfl | k_is)
    (case es_GatesError_TooLarge => first | rfl | k_is)
    (case es_NoSuchThing_TooLarge => first | rfl | k_is)
    (case xa_NoSuchThing => k_is)
    (case xb_NoSuchThing => k_is)
    (case xd_NoSuchThing => k_is)
    (case xe_NoSuchThing => k_is)
    (case xm_NoSuchThing => k_is)
    (case xa_TooLarge => k_is)
    (case xb_TooLarge => k_is)
    (case xd_TooLarge => k_is)
    (case xe_TooLarge => k_is)
    (case xm_TooLarge => k_is)
    (case xn => k_is)
    (case xt => k_is)
    (case d1_CONSTANTS => k_is)
    (case d2_CONSTANTS => k_is)
    (case d3_CONSTANTS => k_keys)
    (case d4_CONSTANTS => decide)
    (case dn0_CONSTANTS => k_is)
    (case dn1_CONSTANTS => k_is)
    (case dn2_CONSTANTS => k_is)
    (case dn3_CONSTANTS => k_is)
    (case dn4_CONSTANTS => k_is)
    (case dy0_CONSTANTS => k_is)
    (case r_dv0_CONSTANTS => exact ⟨_, rfl⟩)
    (case dy1_CONSTANTS => k_is)
    (case r_dv1_CONSTANTS => exact ⟨_, rfl⟩)
    (case d1_MOST_CASES => k_is)
    (case r_dv_MOST_CASES => exact ⟨_, rfl⟩)
    (case d1_NANDS => k_is)
    (case r_dv_NANDS => rfl)
    (case tk_dv_NANDS => k_is)
    (case tv_dv_NANDS => exact .cons ⟨_, rfl⟩ (.cons ⟨_, rfl⟩ (.cons ⟨_, rfl⟩ (.nil))))
    (case tz_dv_NANDS => decide)
