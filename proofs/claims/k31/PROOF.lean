import PyProof.Rows.All
import HandS.ForMost
import HandS.Exc
import HandS.TryOnly
import HandS.ExcOwn
import HandS.WordsExc
import HandS.TupAny
import HandS.IsInst
import HandS.Deep
import HandS.Wide
import HandS.More
import HandS.Conv
import PySem.Challenge.RW_pinsalone_k31_values_of_any_circuit
set_option Elab.async false
set_option linter.all false
set_option maxRecDepth 100000
set_option maxHeartbeats 4000000
namespace PV
open PySem PySem.Spec PyProof.Rows L2

abbrev D := PyData
abbrev Hp := L2.Hp
abbrev St := L2.St

def kD : Key → D
  | .inl i => .int i
  | .inr x => .str x

/-! ### data that stands still -/
mutual
inductive Fz (K : PySem.W.Frag) (H : Hp) : V → D → Prop
  | non : Fz K H .non .none
  | bl (b : Bool) : Fz K H (.bl b) (.bool b)
  | int (i : Int) : Fz K H (.int i) (.int i)
  | str (x : Str) : Fz K H (.str x) (.str x)
  | lst {a : Addr} {xs : List V} {ds : List D} : H a = some (.lst xs) → FzAll K H xs ds → Fz K H (.ref a) (.list ds)
  /-- the script -/
  | scr {a : Addr} (ns : List Int) : SqL K H a (ns.map V.int) → Fz K H (.ref a) (.dict [(.none, .list (ns.map .int))])
  | tup {a : Addr} {xs : List V} {ds : List D} : SqT K H a xs → FzAll K H xs ds → Fz K H (.ref a) (.tuple ds)
  | dK {a : Addr} {kvs : List (Key × V)} {ds : List D} : H a = some (.dK kvs) → FzAll K H (kvs.map (·.2)) ds → Fz K H (.ref a) (.dict ((kvs.map fun p => kD p.1).zip ds))
inductive FzAll (K : PySem.W.Frag) (H : Hp) : List V → List D → Prop
  | nil : FzAll K H [] []
  | cons {v : V} {vs : List V} {d : D} {ds : List D} : Fz K H v d → FzAll K H vs ds → FzAll K H (v :: vs) (d :: ds)
end

theorem Same.rd {H H' : Hp} {a : Addr} {u : HO} (e : Same H H') (h : Rd H a u) : Rd H' a u := by
  rcases h with h | ⟨o, h⟩
  · exact .inl (e _ _ h)
  · exact .inr ⟨o, e _ _ h⟩
theorem Same.seqT {K : PySem.W.Frag} {H H' : Hp} {a : Addr} {xs : List V} (e : Same H H') (h : SqT K H a xs) : SqT K H' a xs := by
  rcases h with (h | ⟨o, h⟩) | h
  · exact .inl (.inl (e _ _ h))
  · exact .inl (.inr ⟨o, e _ _ h⟩)
  · exact .inr h
mutual
theorem Fz.mono {K : PySem.W.Frag} {H H' : Hp} (s : Same H H') : ∀ {v : V} {d : D}, Fz K H v d → Fz K H' v d
  | _, _, .non => .non
  | _, _, .bl b => .bl b
  | _, _, .int i => .int i
  | _, _, .str x => .str x
  | _, _, .lst h r => .lst (s _ _ h) (FzAll.mono s r)
  | _, _, .scr ns h => .scr ns (s.seq h)
  | _, _, .tup h r => .tup (Same.seqT s h) (FzAll.mono s r)
  | _, _, .dK h r => .dK (s _ _ h) (FzAll.mono s r)
theorem FzAll.mono {K : PySem.W.Frag} {H H' : Hp} (s : Same H H') : ∀ {v : List V} {d : List D}, FzAll K H v d → FzAll K H' v d
  | _, _, .nil => .nil
  | _, _, .cons h r => .cons (Fz.mono s h) (FzAll.mono s r)
end
theorem FzAll.length {K : PySem.W.Frag} {H : Hp} : ∀ {vs : List V} {ds : List D}, FzAll K H vs ds → vs.length = ds.length
  | _, _, .nil => rfl
  | _, _, .cons _ r => congrArg (· + 1) r.length
theorem FzAll.get {K : PySem.W.Frag} {H : Hp} : ∀ {vs : List V} {ds : List D} {i : Nat} {d : D}, FzAll K H vs ds → ds[i]? = some d → ∃ v, vs[i]? = some v ∧ Fz K H v d
  | _, _, _, _, .nil, e => by simp at e
  | _, _, 0, _, .cons h _, e => by
    simp at e
    subst e
    exact ⟨_, rfl, h⟩
  | _, _, i + 1, _, .cons _ r, e => r.get (i := i) (by simpa using e)
theorem FzAll.append {K : PySem.W.Frag} {H : Hp} : ∀ {vs ws : List V} {ds es : List D}, FzAll K H vs ds → FzAll K H ws es → FzAll K H (vs ++ ws) (ds ++ es)
  | _, _, _, _, .nil, s => s
  | _, _, _, _, .cons h r, s => .cons h (r.append s)
theorem FzAll.take {K : PySem.W.Frag} {H : Hp} : ∀ {vs : List V} {ds : List D} (n : Nat), FzAll K H vs ds → FzAll K H (vs.take n) (ds.take n)
  | _, _, 0, _ => .nil
  | _, _, _ + 1, .nil => .nil
  | _, _, n + 1, .cons h r => .cons h (r.take n)
theorem FzAll.drop {K : PySem.W.Frag} {H : Hp} : ∀ {vs : List V} {ds : List D} (n : Nat), FzAll K H vs ds → FzAll K H (vs.drop n) (ds.drop n)
  | _, _, 0, r => r
  | _, _, _ + 1, .nil => .nil
  | _, _, n + 1, .cons _ r => r.drop n
theorem FzAll.eraseIdx {K : PySem.W.Frag} {H : Hp} : ∀ {vs : List V} {ds : List D} (i : Nat), FzAll K H vs ds → FzAll K H (vs.eraseIdx i) (ds.eraseIdx i)
  | _, _, _, .nil => .nil
  | _, _, 0, .cons _ t => t
  | _, _, i + 1, .cons r t => .cons r (t.eraseIdx i)
theorem FzAll.set {K : PySem.W.Frag} {H : Hp} {v : V} {d : D} (h : Fz K H v d) : ∀ {vs : List V} {ds : List D} (i : Nat), FzAll K H vs ds → FzAll K H (vs.set i v) (ds.set i d)
  | _, _, _, .nil => .nil
  | _, _, 0, .cons _ t => .cons h t
  | _, _, i + 1, .cons r t => .cons r (FzAll.set h i t)
theorem FzAll.reverse {K : PySem.W.Frag} {H : Hp} {vs : List V} {ds : List D} (h : FzAll K H vs ds) : FzAll K H vs.reverse ds.reverse := by
  induction vs generalizing ds with
  | nil => cases h; exact .nil
  | cons v vs ih =>
    cases h with
    | cons h r => rw [List.reverse_cons, List.reverse_cons]; exact (ih r).append (.cons h .nil)
theorem FzAll.ints {K : PySem.W.Frag} {H : Hp} : ∀ {vs : List V} {ns : List Int}, FzAll K H vs (ns.map .int) → vs = ns.map V.int
  | _, [], .nil => rfl
  | _, _ :: _, .cons (.int _) r => by rw [List.map_cons, r.ints]
theorem FzAll.of_ints {K : PySem.W.Frag} {H : Hp} : ∀ (ns : List Int), FzAll K H (ns.map V.int) (ns.map .int)
  | [] => .nil
  | n :: ns => .cons (.int n) (of_ints ns)
theorem FzAll.bools {K : PySem.W.Frag} {H : Hp} : ∀ {vs : List V} {ns : List Bool}, FzAll K H vs (ns.map .bool) → vs = ns.map V.bl
  | _, [], .nil => rfl
  | _, _ :: _, .cons (.bl _) r => by rw [List.map_cons, r.bools]
theorem FzAll.strs {K : PySem.W.Frag} {H : Hp} : ∀ {vs : List V} {ns : List Str}, FzAll K H vs (ns.map .str) → vs = ns.map V.str
  | _, [], .nil => rfl
  | _, _ :: _, .cons (.str _) r => by rw [List.map_cons, r.strs]
mutual
theorem Fz.dp {K : PySem.W.Frag} {H : Hp} : ∀ {v : V} {d : D}, Fz K H v d → d.canLay0 = true → Dp K H v d
  | _, _, .non, _ => .non
  | _, _, .bl b, _ => .bl b
  | _, _, .int i, _ => .int i
  | _, _, .str x, _ => .str x
  | _, _, .lst h r, c => .lst (.inl (.inl h)) (FzAll.dp r c)
  | _, _, .scr _ _, c => nomatch c
  | _, _, .tup h r, c => .tup h (FzAll.dp r c)
  | _, _, .dK _ _, c => nomatch c
theorem FzAll.dp {K : PySem.W.Frag} {H : Hp} : ∀ {v : List V} {d : List D}, FzAll K H v d → PyData.canLayAll0 d = true → DpAll K H v d
  | _, _, .nil, _ => .nil
  | _, _, .cons h r, c => by
    have c' := Bool.and_eq_true_iff.mp (show (_ && _) = true from c)
    exact .cons (Fz.dp h c'.1) (FzAll.dp r c'.2)
end

/-! ### owned data -/
inductive Sh where
  | z | l (s : Sh)
  deriving DecidableEq
inductive OwnL (R : V → D → List Addr → Prop) : List V → List D → List Addr → Prop
  | nil : OwnL R [] [] []
  | cons {v : V} {d : D} {A : List Addr} {vs : List V} {ds : List D} {B : List Addr} : R v d A → OwnL R vs ds B → OwnL R (v :: vs) (d :: ds) (A ++ B)
def Own (K : PySem.W.Frag) (Hf H : Hp) : Sh → V → D → List Addr → Prop
  | .z, v, d, A => A = [] ∧ Fz K Hf v d
  | .l s, v, d, A => ∃ a vs ds B, v = .ref a ∧ d = .list ds ∧ H a = some (.lst vs) ∧ OwnL (Own K Hf H s) vs ds B ∧ A = a :: B
section
variable {K : PySem.W.Frag} {Hf Hf' H H' : Hp}
theorem OwnL.imp {R R' : V → D → List Addr → Prop} : ∀ {vs : List V} {ds : List D} {A : List Addr}, OwnL R vs ds A → (∀ v d B, (∀ a ∈ B, a ∈ A) → R v d B → R' v d B) → OwnL R' vs ds A
  | _, _, _, .nil, _ => .nil
  | _, _, _, .cons h r, f => .cons (f _ _ _ (fun a ha => List.mem_append_left _ ha) h) (r.imp fun v d B hB => f v d B fun a ha => List.mem_append_right _ (hB a ha))
theorem OwnL.append {R : V → D → List Addr → Prop} : ∀ {vs ws : List V} {ds es : List D} {A B : List Addr}, OwnL R vs ds A → OwnL R ws es B → OwnL R (vs ++ ws) (ds ++ es) (A ++ B)
  | _, _, _, _, _, _, .nil, s => s
  | _, _, _, _, _, _, .cons h r, s => by rw [List.append_assoc]; exact .cons h (r.append s)
theorem OwnL.length {R : V → D → List Addr → Prop} : ∀ {vs : List V} {ds : List D} {A : List Addr}, OwnL R vs ds A → vs.length = ds.length
  | _, _, _, .nil => rfl
  | _, _, _, .cons _ r => congrArg (· + 1) r.length
/-- what is owned stands as long as its footprint does -/
theorem Own.keep (sf : Same Hf Hf') : ∀ {s : Sh} {v : V} {d : D} {A : List Addr}, Own K Hf H s v d A → (∀ a ∈ A, H' a = H a) → Own K Hf' H' s v d A
  | .z, _, _, _, h, _ => ⟨h.1, h.2.mono sf⟩
  | .l s, _, _, _, ⟨a, vs, ds, B, e1, e2, e3, r, e4⟩, k =>
    ⟨a, vs, ds, B, e1, e2, (k a (by rw [e4]; exact List.mem_cons_self)).trans e3, r.imp fun v d C hC h => Own.keep sf h fun b hb => k b (by rw [e4]; exact List.mem_cons_of_mem _ (hC b hb)), e4⟩
mutual
/-- frozen -/
theorem Own.fz (sf : Same Hf Hf') : ∀ {s : Sh} {v : V} {d : D} {A : List Addr}, Own K Hf H s v d A → (∀ a ∈ A, Hf' a = H a) → Fz K Hf' v d
  | .z, _, _, _, h, _ => h.2.mono sf
  | .l s, _, _, _, ⟨a, vs, ds, B, e1, e2, e3, r, e4⟩, k => by
    subst e1 e2
    exact .lst ((k a (by rw [e4]; exact List.mem_cons_self)).trans e3) (OwnL.fz sf r fun b hb => k b (by rw [e4]; exact List.mem_cons_of_mem _ hb))
theorem OwnL.fz (sf : Same Hf Hf') {s : Sh} : ∀ {vs : List V} {ds : List D} {A : List Addr}, OwnL (Own K Hf H s) vs ds A → (∀ a ∈ A, Hf' a = H a) → FzAll K Hf' vs ds
  | _, _, _, .nil, _ => .nil
  | _, _, _, .cons h r, k => .cons (Own.fz sf h fun a ha => k a (List.mem_append_left _ ha)) (OwnL.fz sf r fun a ha => k a (List.mem_append_right _ ha))
end
theorem OwnL.zs : ∀ {vs : List V} {ds : List D} {A : List Addr}, OwnL (Own K Hf H .z) vs ds A → A = [] ∧ FzAll K Hf vs ds
  | _, _, _, .nil => ⟨rfl, .nil⟩
  | _, _, _, .cons h r => by
    obtain ⟨e, q⟩ := OwnL.zs r
    refine ⟨?_, .cons h.2 q⟩
    rw [h.1, e]
    rfl
theorem OwnL.of_zs : ∀ {vs : List V} {ds : List D}, FzAll K Hf vs ds → OwnL (Own K Hf H .z) vs ds []
  | _, _, .nil => .nil
  | _, _, .cons h r => .cons (A := []) ⟨rfl, h⟩ (OwnL.of_zs r)
theorem Own.there : ∀ {s : Sh} {v : V} {d : D} {A : List Addr}, Own K Hf H s v d A → ∀ a ∈ A, H a ≠ none
  | .z, _, _, _, h, a, ha => by rw [h.1] at ha; cases ha
  | .l s, _, _, _, ⟨a, vs, ds, B, e1, e2, e3, r, e4⟩, b, hb => by
    rw [e4] at hb
    rcases List.mem_cons.mp hb with rfl | hb
    · rw [e3]; exact fun z => by cases z
    · have : ∀ {vs : List V} {ds : List D} {A : List Addr}, OwnL (Own K Hf H s) vs ds A → ∀ b ∈ A, H b ≠ none := fun {vs ds A} r => by
        induction r with
        | nil => intro b hb; cases hb
        | cons h _ ih =>
          intro b hb
          rcases List.mem_append.mp hb with hb | hb
          · exact Own.there h b hb
          · exact ih b hb
      exact this r b hb
end

/-! ### the state of a def -/
abbrev Va := Sh × D
abbrev Ev := List (Option Va)
structure Exc where
  c : Str
  fs : List (Str × D)
inductive Out (α : Type) where
  | ok (a : α) (Γ : Ev)
  | ex (e : Exc) (Γ : Ev)
  | st
inductive SO where
  | nx (Γ : Ev)
  | rt (x : Va) (Γ : Ev)
  | bk (Γ : Ev)
  | ct (Γ : Ev)
  | ex (e : Exc) (Γ : Ev)
  | st
inductive Res where
  | ok (x : Va)
  | ex (e : Exc)
  | st
/-- what is fixed while a def runs: what stood frozen and what was tracked at its entry, the wish about exceptions -/
structure Gh where
  K : PySem.W.Frag
  f0 : Hp
  h0 : Hp
abbrev Ow := Addr → Option (Nat ⊕ Nat)
def Has (g : Gh) (Hf H : Hp) (ω : Ow) (i : Nat ⊕ Nat) (v : V) (x : Va) : Prop := ∃ A, Own g.K Hf H x.1 v x.2 A ∧ A.Nodup ∧ ∀ a ∈ A, ω a = some i
def FrOk (g : Gh) (Hf H : Hp) (ω : Ow) : List (V × Va) → Prop
  | [] => True
  | p :: fr => Has g Hf H ω (.inr fr.length) p.1 p.2 ∧ FrOk g Hf H ω fr
structure StW (g : Gh) (Hf H : Hp) (σ : St) (Γ : Ev) (fr : List (V × Va)) (ω : Ow) : Prop where
  base : Same g.h0 H
  sub : Same Hf H
  old : Same g.f0 Hf
  new : ∀ a, Hf a ≠ none → g.f0 a ≠ none ∨ g.h0 a = none
  own : ∀ a i, ω a = some i → g.h0 a = none ∧ Hf a = none ∧ H a ≠ none
  len : Γ.length = σ.length
  slots : ∀ i x, Γ[i]? = some (some x) → ∃ v, σ[i]? = some (some v) ∧ Has g Hf H ω (.inl i) v x
  fr : FrOk g Hf H ω fr
def StOk (g : Gh) (Hf H : Hp) (σ : St) (Γ : Ev) (fr : List (V × Va)) : Prop := ∃ ω, StW g Hf H σ Γ fr ω
section
variable {g : Gh} {Hf Hf' H H' : Hp} {σ : St} {Γ : Ev} {fr : List (V × Va)} {ω ω' : Ow}
theorem Has.mono {i : Nat ⊕ Nat} {v : V} {x : Va} (h : Has g Hf H ω i v x) (sf : Same Hf Hf') (k : ∀ a, ω a = some i → H' a = H a ∧ ω' a = some i) : Has g Hf' H' ω' i v x := by
  obtain ⟨A, o, nd, q⟩ := h
  exact ⟨A, o.keep sf fun a ha => (k a (q a ha)).1, nd, fun a ha => (k a (q a ha)).2⟩
theorem FrOk.mono : ∀ {fr : List (V × Va)}, FrOk g Hf H ω fr → Same Hf Hf' → (∀ a j, j < fr.length → ω a = some (.inr j) → H' a = H a ∧ ω' a = some (.inr j)) → FrOk g Hf' H' ω' fr
  | [], _, _, _ => trivial
  | p :: fr, h, sf, k => ⟨h.1.mono sf fun a => k a _ (Nat.lt_succ_self _), FrOk.mono h.2 sf fun a j hj => k a j (Nat.lt_succ_of_lt hj)⟩
theorem FrOk.pop : ∀ {fr fr' : List (V × Va)}, FrOk g Hf H ω (fr ++ fr') → FrOk g Hf H ω fr'
  | [], _, h => h
  | _ :: fr, _, h => FrOk.pop (fr := fr) h.2
theorem StOk.pop {p : V × Va} (h : StOk g Hf H σ Γ (p :: fr)) : StOk g Hf H σ Γ fr := by
  obtain ⟨ω, h⟩ := h
  exact ⟨ω, { h with fr := h.fr.2 }⟩
theorem StOk.sub (h : StOk g Hf H σ Γ fr) : Same Hf H := h.choose_spec.sub
/-- the heap has grown -/
theorem StOk.grow (h : StOk g Hf H σ Γ fr) (s : Same H H') : StOk g Hf H' σ Γ fr := by
  obtain ⟨ω, h⟩ := h
  have k : ∀ a i, ω a = some i → H' a = H a := fun a i e => by
    have n := (h.own a i e).2.2
    cases q : H a with
    | none => exact absurd q n
    | some o => exact s a o q
  refine ⟨ω, fun b o e => s b o (h.base b o e), fun b o e => s b o (h.sub b o e), h.old, h.new, fun a i e => ⟨(h.own a i e).1, (h.own a i e).2.1, by rw [k a i e]; exact (h.own a i e).2.2⟩, h.len, fun i x e => ?_, h.fr.mono (Same.refl _) fun a j _ e => ⟨k a _ e, e⟩⟩
  obtain ⟨v, e1, q⟩ := h.slots i x e
  exact ⟨v, e1, q.mono (Same.refl _) fun a e => ⟨k a _ e, e⟩⟩
/-- the frozen part has grown by something new -/
theorem StOk.freeze (h : StOk g Hf H σ Γ fr) (s : Same H H') (f1 : Same Hf Hf') (f2 : Same Hf' H') (f3 : ∀ a, Hf' a ≠ none → Hf a ≠ none ∨ H a = none) : StOk g Hf' H' σ Γ fr := by
  obtain ⟨ω, h⟩ := h
  have k : ∀ a i, ω a = some i → H' a = H a := fun a i e => by
    have n := (h.own a i e).2.2
    cases q : H a with
    | none => exact absurd q n
    | some o => exact s a o q
  have kf : ∀ a i, ω a = some i → Hf' a = none := fun a i e => by
    cases q : Hf' a with
    | none => rfl
    | some o =>
      rcases f3 a (by rw [q]; exact fun z => nomatch z) with z | z
      · exact absurd (h.own a i e).2.1 z
      · exact absurd z (h.own a i e).2.2
  refine ⟨ω, fun b o e => s b o (h.base b o e), f2, fun b o e => f1 b o (h.old b o e), fun a n => ?_, fun a i e => ⟨(h.own a i e).1, kf a i e, by rw [k a i e]; exact (h.own a i e).2.2⟩, h.len, fun i x e => ?_, h.fr.mono f1 fun a j _ e => ⟨k a _ e, e⟩⟩
  · rcases f3 a n with z | z
    · exact h.new a z
    · exact .inr (Same.free h.base z)
  · obtain ⟨v, e1, q⟩ := h.slots i x e
    exact ⟨v, e1, q.mono f1 fun a e => ⟨k a _ e, e⟩⟩
/-- a value that stands frozen is pushed -/
theorem StOk.push (h : StOk g Hf H σ Γ fr) {v : V} {d : D} (q : Fz g.K Hf v d) : StOk g Hf H σ Γ ((v, .z, d) :: fr) := by
  obtain ⟨ω, h⟩ := h
  exact ⟨ω, { h with fr := ⟨⟨[], ⟨rfl, q⟩, List.nodup_nil, fun _ z => nomatch z⟩, h.fr⟩ }⟩
/-- the top of the frame is frozen data -/
theorem StOk.top (h : StOk g Hf H σ Γ ((v, .z, d) :: fr)) : Fz g.K Hf v d := by
  obtain ⟨ω, h⟩ := h
  obtain ⟨A, o, _⟩ := h.fr.1
  exact o.2
/-- what a value needs to be new: its owned part is new, its frozen part stands -/
structure NewV (K : PySem.W.Frag) (Hf H H' : Hp) (Hf' : Hp) (v : V) (x : Va) : Prop where
  s : Same H H'
  f1 : Same Hf Hf'
  f2 : Same Hf' H'
  f3 : ∀ a, Hf' a ≠ none → Hf a ≠ none ∨ H a = none
  o : ∃ A, Own K Hf' H' x.1 v x.2 A ∧ A.Nodup ∧ ∀ a ∈ A, H a = none ∧ Hf' a = none
/-- a new value is pushed -/
theorem StOk.pushN (h0 : StOk g Hf H σ Γ fr) {v : V} {x : Va} (n : NewV g.K Hf H H' Hf' v x) : StOk g Hf' H' σ Γ ((v, x) :: fr) := by
  obtain ⟨A, o, nd, hA⟩ := n.o
  have h1 : Same g.h0 H := by
    obtain ⟨ω, h⟩ := h0
    exact h.base
  obtain ⟨ω0, k0⟩ := id h0
  obtain ⟨ω, h⟩ := h0.freeze n.s n.f1 n.f2 n.f3
  have nA : ∀ a ∈ A, ω0 a = none := fun a ha => by
    cases q : ω0 a with
    | none => rfl
    | some i => exact absurd (hA a ha).1 (k0.own a i q).2.2
  have hw : StW g Hf' H' σ Γ fr ω0 := by
    have k : ∀ a i, ω0 a = some i → H' a = H a := fun a i e => by
      have z := (k0.own a i e).2.2
      cases q : H a with
      | none => exact absurd q z
      | some o => exact n.s a o q
    have kf : ∀ a i, ω0 a = some i → Hf' a = none := fun a i e => by
      cases q : Hf' a with
      | none => rfl
      | some o =>
        rcases n.f3 a (by rw [q]; exact fun z => nomatch z) with z | z
        · exact absurd (k0.own a i e).2.1 z
        · exact absurd z (k0.own a i e).2.2
    refine ⟨h.base, h.sub, h.old, h.new, fun a i e => ⟨(k0.own a i e).1, kf a i e, by rw [k a i e]; exact (k0.own a i e).2.2⟩, h.len, fun i x e => ?_, k0.fr.mono n.f1 fun a j _ e => ⟨k a _ e, e⟩⟩
    obtain ⟨v, e1, q⟩ := k0.slots i x e
    exact ⟨v, e1, q.mono n.f1 fun a e => ⟨k a _ e, e⟩⟩
  classical
  refine ⟨fun a => if a ∈ A then some (.inr fr.length) else ω0 a, hw.base, hw.sub, hw.old, hw.new, fun a i e => ?_, hw.len, fun i x e => ?_, ⟨⟨A, o, nd, fun a ha => if_pos ha⟩, hw.fr.mono (Same.refl _) fun a j _ e => ⟨rfl, ?_⟩⟩⟩
  · by_cases ha : a ∈ A
    · exact ⟨Same.free h1 (hA a ha).1, (hA a ha).2, o.there a ha⟩
    · simp only [if_neg ha] at e
      exact hw.own a i e
  · obtain ⟨v, e1, q⟩ := hw.slots i x e
    refine ⟨v, e1, q.mono (Same.refl _) fun a e => ⟨rfl, ?_⟩⟩
    by_cases ha : a ∈ A
    · rw [nA a ha] at e; cases e
    · simp only [if_neg ha]; exact e
  · by_cases ha : a ∈ A
    · rw [nA a ha] at e; cases e
    · simp only [if_neg ha]; exact e
/-- owner i is frozen -/
theorem StW.freezeAt (h : StW g Hf H σ Γ fr ω) (i : Nat ⊕ Nat) : ∃ (Hf' : Hp) (ω' : Ow), Same Hf Hf' ∧ (∀ a, ω a = some i → Hf' a = H a) ∧ Same Hf' H ∧ Same g.f0 Hf' ∧ (∀ a, Hf' a ≠ none → g.f0 a ≠ none ∨ g.h0 a = none) ∧ (∀ a j, ω' a = some j → g.h0 a = none ∧ Hf' a = none ∧ H a ≠ none) ∧ (∀ a j, j ≠ i → ω a = some j → ω' a = some j) := by
  classical
  refine ⟨fun a => if ω a = some i then H a else Hf a, fun a => if ω a = some i then none else ω a, fun a o e => ?_, fun a e => if_pos e, fun a o e => ?_, fun a o e => ?_, fun a n => ?_, fun a j e => ?_, fun a j hj e => ?_⟩
  · by_cases z : ω a = some i
    · rw [(h.own a i z).2.1] at e; cases e
    · simp only [if_neg z]; exact e
  · by_cases z : ω a = some i
    · simp only [if_pos z] at e; exact e
    · simp only [if_neg z] at e; exact h.sub a o e
  · by_cases z : ω a = some i
    · have := h.old a o e
      rw [(h.own a i z).2.1] at this; cases this
    · simp only [if_neg z]; exact h.old a o e
  · by_cases z : ω a = some i
    · exact .inr (h.own a i z).1
    · simp only [if_neg z] at n; exact h.new a n
  · by_cases z : ω a = some i
    · simp only [if_pos z] at e; cases e
    · simp only [if_neg z] at e
      simp only [if_neg z]
      exact h.own a j e
  · have z : ¬ ω a = some i := fun z => hj (Option.some.inj (e.symm.trans z))
    simp only [if_neg z]; exact e
/-- the top of the frame is frozen -/
theorem StOk.frz {v : V} {x : Va} (h : StOk g Hf H σ Γ ((v, x) :: fr)) : ∃ Hf', Same Hf Hf' ∧ StOk g Hf' H σ Γ ((v, .z, x.2) :: fr) := by
  obtain ⟨ω, h⟩ := h
  obtain ⟨Hf', ω', f1, f2, f3, f4, f5, f6, f7⟩ := h.freezeAt (.inr fr.length)
  obtain ⟨⟨A, o, nd, hA⟩, hr⟩ := h.fr
  refine ⟨Hf', f1, ω', h.base, f3, f4, f5, f6, h.len, fun i x e => ?_, ⟨⟨[], ⟨rfl, o.fz f1 fun a ha => f2 a (hA a ha)⟩, List.nodup_nil, fun _ z => nomatch z⟩, hr.mono f1 fun a j hj e => ⟨rfl, f7 a _ (fun z => by cases z; exact absurd hj (Nat.lt_irrefl _)) e⟩⟩⟩
  obtain ⟨v, e1, q⟩ := h.slots i x e
  exact ⟨v, e1, q.mono f1 fun a e => ⟨rfl, f7 a _ (fun z => nomatch z) e⟩⟩
/-- a slot is frozen -/
theorem StOk.frzSlot {i : Nat} {x : Va} (h : StOk g Hf H σ Γ fr) (hi : Γ[i]? = some (some x)) : ∃ Hf' v, Same Hf Hf' ∧ σ[i]? = some (some v) ∧ StOk g Hf' H σ (Γ.set i (some (.z, x.2))) ((v, .z, x.2) :: fr) := by
  obtain ⟨ω, h⟩ := h
  obtain ⟨Hf', ω', f1, f2, f3, f4, f5, f6, f7⟩ := h.freezeAt (.inl i)
  obtain ⟨v, e1, A, o, nd, hA⟩ := h.slots i x hi
  have fz : Fz g.K Hf' v x.2 := o.fz f1 fun a ha => f2 a (hA a ha)
  refine ⟨Hf', v, f1, e1, ω', h.base, f3, f4, f5, f6, by rw [List.length_set]; exact h.len, fun j y e => ?_, ⟨⟨[], ⟨rfl, fz⟩, List.nodup_nil, fun _ z => nomatch z⟩, h.fr.mono f1 fun a j _ e => ⟨rfl, f7 a _ (fun z => nomatch z) e⟩⟩⟩
  by_cases hj : i = j
  · subst hj
    rw [List.getElem?_set_self (List.getElem?_eq_some_iff.mp hi).1] at e
    cases e
    exact ⟨v, e1, [], ⟨rfl, fz⟩, List.nodup_nil, fun _ z => nomatch z⟩
  · rw [List.getElem?_set_ne hj] at e
    obtain ⟨w, e2, q⟩ := h.slots j y e
    exact ⟨w, e2, q.mono f1 fun a e => ⟨rfl, f7 a _ (fun z => by cases z; exact hj rfl) e⟩⟩
/-- the top of the frame is stored -/
theorem StOk.store {v : V} {x : Va} (h : StOk g Hf H σ Γ ((v, x) :: fr)) (i : Nat) : StOk g Hf H (σ.set i (some v)) (Γ.set i (some x)) fr := by
  obtain ⟨ω, h⟩ := h
  obtain ⟨⟨A, o, nd, hA⟩, hr⟩ := h.fr
  classical
  refine ⟨fun a => if ω a = some (.inr fr.length) then some (.inl i) else ω a, h.base, h.sub, h.old, h.new, fun a j e => ?_, by rw [List.length_set, List.length_set]; exact h.len, fun j y e => ?_, hr.mono (Same.refl _) fun a j hj e => ⟨rfl, ?_⟩⟩
  · by_cases z : ω a = some (.inr fr.length)
    · exact h.own a _ z
    · simp only [if_neg z] at e; exact h.own a j e
  · by_cases hj : i = j
    · subst hj
      have hi : i < Γ.length := by
        have := (List.getElem?_eq_some_iff.mp e).1
        simpa using this
      rw [List.getElem?_set_self hi] at e
      cases e
      refine ⟨v, List.getElem?_set_self (by rw [← h.len]; exact hi), A, o, nd, fun a ha => if_pos (hA a ha)⟩
    · rw [List.getElem?_set_ne hj] at e
      obtain ⟨w, e2, q⟩ := h.slots j y e
      refine ⟨w, by rw [List.getElem?_set_ne hj]; exact e2, q.mono (Same.refl _) fun a e => ⟨rfl, ?_⟩⟩
      have z : ¬ ω a = some (.inr fr.length) := fun z => by rw [e] at z; cases z
      simp only [if_neg z]; exact e
  · have z : ¬ ω a = some (.inr fr.length) := fun z => by
      rw [e] at z
      cases z
      exact absurd hj (Nat.lt_irrefl _)
    simp only [if_neg z]; exact e
/-- slots forgotten -/
theorem StOk.weak {σ' : St} {Γ' : Ev} (h : StOk g Hf H σ Γ fr) (hl : Γ'.length = σ'.length) (k : ∀ (i : Nat) (x : Va), Γ'[i]? = some (some x) → Γ[i]? = some (some x) ∧ σ'[i]? = σ[i]?) : StOk g Hf H σ' Γ' fr := by
  obtain ⟨ω, h⟩ := h
  refine ⟨ω, h.base, h.sub, h.old, h.new, h.own, hl, fun i x e => ?_, h.fr⟩
  obtain ⟨e1, e2⟩ := k i x e
  obtain ⟨v, q1, q2⟩ := h.slots i x e1
  exact ⟨v, by rw [e2]; exact q1, q2⟩
/-- what stands at a slot, frozen -/
theorem StOk.getZ {i : Nat} {d : D} (h : StOk g Hf H σ Γ fr) (hi : Γ[i]? = some (some (.z, d))) : ∃ v, σ[i]? = some (some v) ∧ Fz g.K Hf v d := by
  obtain ⟨ω, h⟩ := h
  obtain ⟨v, e, A, o, _⟩ := h.slots i _ hi
  exact ⟨v, e, o.2⟩
/-- the owned list at a slot -/
theorem StOk.getL {i : Nat} {s : Sh} {ds : List D} (h : StOk g Hf H σ Γ fr) (hi : Γ[i]? = some (some (.l s, .list ds))) : ∃ a vs, σ[i]? = some (some (.ref a)) ∧ H a = some (.lst vs) ∧ vs.length = ds.length := by
  obtain ⟨ω, h⟩ := h
  obtain ⟨v, e, A, o, _⟩ := h.slots i _ hi
  obtain ⟨a, vs, ds', B, e1, e2, e3, r, e4⟩ := o
  cases e2
  subst e1
  exact ⟨a, vs, e, e3, r.length⟩
/-- the owned list of frozen items at a slot is rewritten with frozen items -/
theorem StOk.mut {i : Nat} {ds ds' : List D} {a : Addr} {vs' : List V} (h : StOk g Hf H σ Γ fr) (hi : Γ[i]? = some (some (.l .z, .list ds))) (ha : σ[i]? = some (some (.ref a))) (hv : FzAll g.K Hf vs' ds') :
    StOk g Hf (upd H a (.lst vs')) σ (Γ.set i (some (.l .z, .list ds'))) fr := by
  obtain ⟨ω, h⟩ := h
  obtain ⟨v, e, A, o, nd, hA⟩ := h.slots i _ hi
  obtain ⟨a', vs, ds0, B, e1, e2, e3, r, e4⟩ := o
  rw [e] at ha
  cases ha
  cases e1
  have wa : ω a = some (.inl i) := hA a (by rw [e4]; exact List.mem_cons_self)
  have ow := h.own a _ wa
  have k : ∀ b j, j ≠ Sum.inl i → ω b = some j → upd H a (.lst vs') b = H b := fun b j hj e => upd_ne (fun z => hj (by rw [z, wa] at e; exact (Option.some.inj e).symm))
  refine ⟨ω, fun b o e => ?_, fun b o e => ?_, h.old, h.new, fun b j e => ⟨(h.own b j e).1, (h.own b j e).2.1, ?_⟩, by rw [List.length_set]; exact h.len, fun j y e' => ?_, h.fr.mono (Same.refl _) fun b j _ e => ⟨k b (.inr j) (fun z => nomatch z) e, e⟩⟩
  · rw [upd_ne (ne_of_none e ow.1)]; exact h.base b o e
  · rw [upd_ne (ne_of_none e ow.2.1)]; exact h.sub b o e
  · by_cases z : b = a
    · subst z; rw [upd_same]; exact fun z => nomatch z
    · rw [upd_ne z]; exact (h.own b j e).2.2
  · by_cases hj : i = j
    · subst hj
      rw [List.getElem?_set_self (List.getElem?_eq_some_iff.mp hi).1] at e'
      cases e'
      exact ⟨.ref a, e, [a], ⟨a, vs', ds', [], rfl, rfl, upd_same, OwnL.of_zs hv, rfl⟩, by simp, fun b hb => by rw [List.mem_singleton.mp hb]; exact wa⟩
    · rw [List.getElem?_set_ne hj] at e'
      obtain ⟨w, e2, q⟩ := h.slots j y e'
      exact ⟨w, e2, q.mono (Same.refl _) fun b e => ⟨k b _ (fun z => by cases z; exact hj rfl) e, e⟩⟩
end

/-! ### new values -/
section
variable {K : PySem.W.Frag} {Hf H : Hp}
theorem NewV.z {v : V} {d : D} (s : Same Hf H) (h : Fz K Hf v d) : NewV K Hf H H Hf v (.z, d) := ⟨Same.refl _, Same.refl _, s, fun _ n => .inl n, [], ⟨rfl, h⟩, List.nodup_nil, fun _ z => nomatch z⟩
theorem same_new {H : Hp} {p : Addr} {o : HO} (n : H p = none) : Same H (upd H p o) := fun b u e => by rw [upd_ne (ne_of_none e n)]; exact e
theorem NewV.lst {p : Addr} {vs : List V} {ds : List D} (s : Same Hf H) (n : H p = none) (h : FzAll K Hf vs ds) : NewV K Hf H (upd H p (.lst vs)) Hf (.ref p) (.l .z, .list ds) :=
  ⟨same_new n, Same.refl _, s.trans (same_new n), fun _ n => .inl n, [p], ⟨p, vs, ds, [], rfl, rfl, upd_same, OwnL.of_zs h, rfl⟩, by simp, fun a ha => by rw [List.mem_singleton.mp ha]; exact ⟨n, Same.free s n⟩⟩
theorem NewV.tup {p : Addr} {vs : List V} {ds : List D} (s : Same Hf H) (n : H p = none) (h : FzAll K Hf vs ds) : NewV K Hf H (upd H p (.tup vs)) (upd Hf p (.tup vs)) (.ref p) (.z, .tuple ds) := by
  have nf : Hf p = none := Same.free s n
  refine ⟨same_new n, same_new nf, fun b o e => ?_, fun b e => ?_, [], ⟨rfl, .tup (.inl (.inl upd_same)) (h.mono (same_new nf))⟩, List.nodup_nil, fun _ z => nomatch z⟩
  · by_cases z : b = p
    · subst z; rw [upd_same] at e ⊢; exact e
    · rw [upd_ne z] at e ⊢; exact s b o e
  · by_cases z : b = p
    · subst z; exact .inr n
    · rw [upd_ne z] at e; exact .inl e
end
end PV
namespace PV
open PySem PySem.Spec PyProof.Rows L2

/-! ### what a def computes, as plain functions -/
def Out.bind {α β : Type} (o : Out α) (k : α → Ev → Out β) : Out β := match o with
  | .ok a Γ => k a Γ
  | .ex e Γ => .ex e Γ
  | .st => .st
def Out.of {α : Type} (o : Option α) (Γ : Ev) : Out α := match o with
  | some a => .ok a Γ
  | none => .st
/-- an operand: what it gives when it is asked, and what stands there when it is used -/
structure Opn where
  f : Ev → Out D
  l : Ev → D → Option D
structure Opns where
  f : Ev → Out (List D)
  l : Ev → List D → Option (List D)
/-- the top node is read in H, what is below stands frozen -/
def Fz1 (K : PySem.W.Frag) (Hf H : Hp) (v : V) (d : D) : Prop := Fz K Hf v d ∨ ∃ a vs ds, v = .ref a ∧ d = .list ds ∧ H a = some (.lst vs) ∧ FzAll K Hf vs ds
inductive Fz1All (K : PySem.W.Frag) (Hf H : Hp) : List V → List D → Prop
  | nil : Fz1All K Hf H [] []
  | cons {v : V} {vs : List V} {d : D} {ds : List D} : Fz1 K Hf H v d → Fz1All K Hf H vs ds → Fz1All K Hf H (v :: vs) (d :: ds)
/-- .. and the module's names, the wish about exceptions -/
structure GW where
  h : Gh
  mg : Str → Option Value
  W : WX
def ExOk (g : GW) (Hf : Hp) (e : Exc) (cls : Value) (dx : Option Addr) : Prop :=
  g.mg e.c = some cls ∧ ((e.fs = [] ∧ dx = none) ∨ ∃ a fv, dx = some a ∧ Hf a = some (.xd fv) ∧ fv.map (·.1) = e.fs.map (·.1) ∧ FzAll g.h.K Hf (fv.map (·.2)) (e.fs.map (·.2)))
def PEx (g : GW) (Hf : Hp) (σ : St) (fr : List (V × Va)) (e : Exc) (Γ' : Ev) : Prop :=
  ∀ cls dx H' Hf', Same Hf Hf' → ExOk g Hf' e cls dx → StOk g.h Hf' H' σ Γ' fr → g.W cls dx σ H'
def Late (g : GW) (Hf : Hp) (σ : St) (v : V) (L : Ev → Option D) : Prop :=
  ∀ Γ2 Hf2 H2 fr2, Same Hf Hf2 → StOk g.h Hf2 H2 σ Γ2 fr2 → ∀ d, L Γ2 = some d → Fz1 g.h.K Hf2 H2 v d
def Lates (g : GW) (Hf : Hp) (σ : St) (v : List V) (L : Ev → Option (List D)) : Prop :=
  ∀ Γ2 Hf2 H2 fr2, Same Hf Hf2 → StOk g.h Hf2 H2 σ Γ2 fr2 → ∀ d, L Γ2 = some d → Fz1All g.h.K Hf2 H2 v d
/-- generic ends -/
def Post {α β : Type} (g : GW) (σ : St) (fr : List (V × Va)) (R : Hp → Hp → α → Ev → β → Prop) (Hf : Hp) (Q : β → Hp → Prop) : Out α → Prop
  | .ok a Γ' => ∀ b H' Hf', Same Hf Hf' → R Hf' H' a Γ' b → Q b H'
  | .ex e Γ' => PEx g Hf σ fr e Γ'
  | .st => False
def RV (g : GW) (σ : St) (fr : List (V × Va)) : Hp → Hp → Va → Ev → V → Prop := fun Hf H x Γ v => StOk g.h Hf H σ Γ ((v, x) :: fr)
def RO (g : GW) (σ : St) (fr : List (V × Va)) (l : Ev → D → Option D) : Hp → Hp → D → Ev → V → Prop := fun Hf H d Γ v => StOk g.h Hf H σ Γ fr ∧ Late g Hf σ v fun Γ2 => l Γ2 d
def RA (g : GW) (σ : St) (fr : List (V × Va)) (l : Ev → List D → Option (List D)) : Hp → Hp → List D → Ev → List V → Prop := fun Hf H d Γ v => StOk g.h Hf H σ Γ fr ∧ Lates g Hf σ v fun Γ2 => l Γ2 d
def RT (g : GW) (σ : St) (fr : List (V × Va)) : Hp → Hp → Bool → Ev → Bool → Prop := fun Hf H b Γ c => StOk g.h Hf H σ Γ fr ∧ c = b
def tV (g : GW) (f : Ev → Out Va) : TE := fun σ H Q => ∃ Hf Γ fr, StOk g.h Hf H σ Γ fr ∧ Post g σ fr (RV g σ fr) Hf Q (f Γ)
def tO (g : GW) (o : Opn) : TE := fun σ H Q => ∃ Hf Γ fr, StOk g.h Hf H σ Γ fr ∧ Post g σ fr (RO g σ fr o.l) Hf Q (o.f Γ)
def tA (g : GW) (o : Opns) : TA := fun σ H Q => ∃ Hf Γ fr, StOk g.h Hf H σ Γ fr ∧ Post g σ fr (RA g σ fr o.l) Hf Q (o.f Γ)
def tT (g : GW) (c : Ev → Out Bool) : TT := fun σ H Q => ∃ Hf Γ fr, StOk g.h Hf H σ Γ fr ∧ Post g σ fr (RT g σ fr) Hf Q (c Γ)
abbrev gh (X : Cx) (W : WX) (f0 h0 : Hp) : GW := ⟨⟨X.K, f0, h0⟩, X.mg, W⟩
structure PV (X : Cx) (W : WX) (e : Expr) (f : Ev → Out Va) : Prop where
  run : ∀ f0 h0, PE X e (tV (gh X W f0 h0) f)
structure PZ (X : Cx) (W : WX) (e : Expr) (o : Opn) : Prop where
  run : ∀ f0 h0, PE X e (tO (gh X W f0 h0) o)
structure PZs (X : Cx) (W : WX) (es : List Expr) (o : Opns) : Prop where
  run : ∀ f0 h0, PA X es (tA (gh X W f0 h0) o)
structure PB (X : Cx) (W : WX) (e : Expr) (c : Ev → Out Bool) : Prop where
  run : ∀ f0 h0, PT X e (tT (gh X W f0 h0) c)
/-- and, or: a test whatever its whole is -/
structure PBw (X : Cx) (W : WX) (e : Expr) (c : Ev → Out Bool) : Prop where
  run : ∀ f0 h0, L2.PW X e (tT (gh X W f0 h0) c)

theorem _root_.L2.PE.imp {X : Cx} {e : Expr} {t t' : TE} (h : PE X e t) (k : ∀ σ H Q, t' σ H Q → t σ H Q) : PE X e t' := ⟨fun pins s σ H Q I q => h.run pins s σ H Q I (k σ H Q q)⟩
theorem _root_.L2.PT.imp {X : Cx} {e : Expr} {t t' : TT} (h : PT X e t) (k : ∀ σ H Q, t' σ H Q → t σ H Q) : PT X e t' := ⟨fun pins s σ H Q I q => h.run pins s σ H Q I (k σ H Q q)⟩
theorem _root_.L2.PW.imp {X : Cx} {e : Expr} {t t' : TT} (h : L2.PW X e t) (k : ∀ σ H Q, t' σ H Q → t σ H Q) : L2.PW X e t' := ⟨fun wh pins s σ H Q I q => h.run wh pins s σ H Q I (k σ H Q q)⟩
theorem _root_.L2.PA.imp {X : Cx} {e : List Expr} {t t' : TA} (h : PA X e t) (k : ∀ σ H Q, t' σ H Q → t σ H Q) : PA X e t' := ⟨fun p pins s σ H Q I q => h.run p pins s σ H Q I (k σ H Q q)⟩
theorem _root_.L2.PS.imp {X : Cx} {e : Stmt} {t t' : TS} (h : PS X e t) (k : ∀ D σ H, t' D σ H → t D σ H) : PS X e t' := ⟨fun pins s σ H Q I q => h.run pins s σ H Q I (k Q σ H q)⟩
theorem _root_.L2.PSs.imp {X : Cx} {e : List Stmt} {t t' : TS} (h : PSs X e t) (k : ∀ D σ H, t' D σ H → t D σ H) : PSs X e t' := ⟨fun pins s σ H Q I q => h.run pins s σ H Q I (k Q σ H q)⟩

section
variable {g : GW} {Hf Hf' H H' : Hp} {σ : St} {Γ Γ' : Ev} {fr fr' : List (V × Va)} {α β γ δ : Type}
theorem PEx.mono {e : Exc} (h : PEx g Hf σ fr e Γ) (s : Same Hf Hf') : PEx g Hf' σ fr e Γ := fun cls dx H1 Hf1 s1 x st => h cls dx H1 Hf1 (s.trans s1) x st
theorem PEx.pop {e : Exc} {p : V × Va} (h : PEx g Hf σ fr e Γ) : PEx g Hf σ (p :: fr) e Γ := fun cls dx H1 Hf1 s1 x st => h cls dx H1 Hf1 s1 x st.pop
theorem Post.mono {R : Hp → Hp → α → Ev → β → Prop} {Q : β → Hp → Prop} {o : Out α} (h : Post g σ fr R Hf Q o) (s : Same Hf Hf') : Post g σ fr R Hf' Q o := by
  cases o with
  | ok a Γ' => exact fun b H1 Hf1 s1 r => h b H1 Hf1 (s.trans s1) r
  | ex e Γ' => exact PEx.mono h s
  | st => exact h
theorem Post.pop {R : Hp → Hp → α → Ev → β → Prop} {Q : β → Hp → Prop} {p : V × Va} {o : Out α} {R' : Hp → Hp → α → Ev → β → Prop} (h : Post g σ fr R Hf Q o) (hr : ∀ Hf H a Γ b, R' Hf H a Γ b → R Hf H a Γ b) : Post g σ (p :: fr) R' Hf Q o := by
  cases o with
  | ok a Γ' => exact fun b H1 Hf1 s1 r => h b H1 Hf1 s1 (hr _ _ _ _ _ r)
  | ex e Γ' => exact PEx.pop h
  | st => exact h
/-- the first of two steps -/
theorem Post.bind {o : Out α} {k : α → Ev → Out γ} {R : Hp → Hp → γ → Ev → δ → Prop} {Q : δ → Hp → Prop} {R1 : Hp → Hp → α → Ev → β → Prop} {Q1 : β → Hp → Prop} (h : Post g σ fr R Hf Q (o.bind k))
    (h1 : ∀ a Γ1, o = .ok a Γ1 → ∀ b H1 Hf1, Same Hf Hf1 → R1 Hf1 H1 a Γ1 b → Post g σ fr R Hf1 Q (k a Γ1) → Q1 b H1) : Post g σ fr R1 Hf Q1 o := by
  cases o with
  | ok a Γ1 => exact fun b H1 Hf1 s1 r => h1 a Γ1 rfl b H1 Hf1 s1 r (Post.mono (show Post g σ fr R Hf Q (k a Γ1) from h) s1)
  | ex e Γ1 => exact h
  | st => exact h
theorem Post.of {R : Hp → Hp → α → Ev → β → Prop} {Q : β → Hp → Prop} {o : Option α} (h : Post g σ fr R Hf Q (.of o Γ)) : ∃ a, o = some a ∧ ∀ b H' Hf', Same Hf Hf' → R Hf' H' a Γ b → Q b H' := by
  cases o with
  | none => exact h.elim
  | some a => exact ⟨a, rfl, h⟩
theorem Late.mono {v : V} {L : Ev → Option D} (h : Late g Hf σ v L) (s : Same Hf Hf') : Late g Hf' σ v L := fun Γ2 Hf2 H2 fr2 s2 => h Γ2 Hf2 H2 fr2 (s.trans s2)
theorem Late.fz {v : V} {d : D} (h : Fz g.h.K Hf v d) : Late g Hf σ v fun _ => some d := fun Γ2 Hf2 H2 fr2 s2 st d' e => by
  cases e
  exact .inl (h.mono s2)
theorem Fz1All.length {K : PySem.W.Frag} : ∀ {vs : List V} {ds : List D}, Fz1All K Hf H vs ds → vs.length = ds.length
  | _, _, .nil => rfl
  | _, _, .cons _ r => congrArg (· + 1) r.length
end

/-! ### operands -/
def RF (g : GW) (σ : St) (fr : List (V × Va)) : Hp → Hp → D → Ev → V → Prop := fun Hf H d Γ v => StOk g.h Hf H σ Γ fr ∧ Fz g.h.K Hf v d
def tF (g : GW) (f : Ev → Out D) : TE := fun σ H Q => ∃ Hf Γ fr, StOk g.h Hf H σ Γ fr ∧ Post g σ fr (RF g σ fr) Hf Q (f Γ)
/-- frozen data -/
structure PF (X : Cx) (W : WX) (e : Expr) (f : Ev → Out D) : Prop where
  run : ∀ f0 h0, PE X e (tF (gh X W f0 h0) f)
def fC (d : D) : Ev → Out D := fun Γ => .ok d Γ
def fN (i : Nat) : Ev → Out D := fun Γ => match Γ[i]? with | some (some (.z, d)) => .ok d Γ | _ => .st
def fZ (i : Nat) : Ev → Out D := fun Γ => match Γ[i]? with | some (some x) => .ok x.2 (Γ.set i (some (.z, x.2))) | _ => .st
def fV (f : Ev → Out Va) : Ev → Out D := fun Γ => (f Γ).bind fun x Γ1 => .ok x.2 Γ1
def vF (f : Ev → Out D) : Ev → Out Va := fun Γ => (f Γ).bind fun d Γ1 => .ok (.z, d) Γ1
def oF (f : Ev → Out D) : Opn := ⟨f, fun _ d => some d⟩
/-- a slot whose list is read when it is used -/
def oB (i : Nat) : Opn := ⟨fun Γ => match Γ[i]? with | some (some _) => .ok .none Γ | _ => .st, fun Γ _ => match Γ[i]? with | some (some (.l .z, .list ds)) => some (.list ds) | some (some (.z, d)) => some d | _ => none⟩
def osN : Opns := ⟨fun Γ => .ok [] Γ, fun _ ds => some ds⟩
def osC (o : Opn) (os : Opns) : Opns := ⟨fun Γ => (o.f Γ).bind fun d Γ1 => (os.f Γ1).bind fun ds Γ2 => .ok (d :: ds) Γ2, fun Γ ds => match ds with | d :: ds => (o.l Γ d).bind fun d => (os.l Γ ds).bind fun ds => some (d :: ds) | [] => none⟩
section
variable {X : Cx} {W : WX} {e : Expr} {pos : Pos}
theorem pf_c {v : V} {d : D} (h : PE X e (tC v)) (q : ∀ K Hf, Fz K Hf v d) : PF X W e (fC d) := ⟨fun f0 h0 => h.imp fun σ H Q ⟨Hf, Γ, fr, st, p⟩ => p v H Hf (Same.refl _) ⟨st, q _ _⟩⟩
theorem pf_int {i j} : PF X W (.Constant (.int i) j pos) (fC (.int i)) := pf_c pe_int fun _ _ => .int i
theorem pf_bl {b j} : PF X W (.Constant (.bool b) j pos) (fC (.bool b)) := pf_c pe_bl fun _ _ => .bl b
theorem pf_non {j} : PF X W (.Constant .none j pos) (fC .none) := pf_c pe_non fun _ _ => .non
theorem pf_str {x j} : PF X W (.Constant (.str x) j pos) (fC (.str x)) := pf_c pe_str fun _ _ => .str x
theorem pf_v {f : Ev → Out Va} (h : PV X W e f) : PF X W e (fV f) := ⟨fun f0 h0 => (h.run f0 h0).imp fun σ H Q ⟨Hf, Γ, fr, st, p⟩ => ⟨Hf, Γ, fr, st, Post.bind p fun x Γ1 _ v H1 Hf1 s1 st1 q => by
  obtain ⟨Hf2, s2, st2⟩ := StOk.frz st1
  exact q v H1 Hf2 s2 ⟨st2.pop, st2.top⟩⟩⟩
theorem pv_f {f : Ev → Out D} (h : PF X W e f) : PV X W e (vF f) := ⟨fun f0 h0 => (h.run f0 h0).imp fun σ H Q ⟨Hf, Γ, fr, st, p⟩ => ⟨Hf, Γ, fr, st, Post.bind p fun x Γ1 _ v H1 Hf1 s1 ⟨st1, z⟩ q => q v H1 Hf1 (Same.refl _) (st1.push z)⟩⟩
theorem pz_f {f : Ev → Out D} (h : PF X W e f) : PZ X W e (oF f) := ⟨fun f0 h0 => (h.run f0 h0).imp fun σ H Q ⟨Hf, Γ, fr, st, p⟩ => by
  refine ⟨Hf, Γ, fr, st, ?_⟩
  have p' : Post (gh X W f0 h0) σ fr (RO (gh X W f0 h0) σ fr (oF f).l) Hf Q (f Γ) := p
  cases hf : f Γ with
  | ok d Γ1 =>
    rw [hf] at p'
    exact fun v H1 Hf1 s1 ⟨st1, z⟩ => p' v H1 Hf1 s1 ⟨st1, .fz z⟩
  | ex e Γ1 => rw [hf] at p'; exact p'
  | st => rw [hf] at p'; exact p'⟩
theorem pf_n (i : Nat) {x : Str} (hN : X.N[i]? = some x := by rfl) (hv : Vis X.env.scope x := by first | exact Or.inl rfl | exact Or.inr (Or.inl rfl) | exact Or.inr (Or.inr rfl)) (hd : (x == ("__debug__" : Str)) = false := by decide)
    (hcd : (x == ("__classdict__" : Str)) = false := by decide) : PF X W (.Name x pos) (fN i) := ⟨fun f0 h0 => (pe_var hN hv hd hcd).imp fun σ H Q ⟨Hf, Γ, fr, st, p⟩ => by
  unfold fN at p
  split at p
  · rename_i d e'
    obtain ⟨v, e1, fz⟩ := st.getZ e'
    exact ⟨v, e1, p v H Hf (Same.refl _) ⟨st, fz⟩⟩
  · exact p.elim⟩
theorem pf_z (i : Nat) {x : Str} (hN : X.N[i]? = some x := by rfl) (hv : Vis X.env.scope x := by first | exact Or.inl rfl | exact Or.inr (Or.inl rfl) | exact Or.inr (Or.inr rfl)) (hd : (x == ("__debug__" : Str)) = false := by decide)
    (hcd : (x == ("__classdict__" : Str)) = false := by decide) : PF X W (.Name x pos) (fZ i) := ⟨fun f0 h0 => (pe_var hN hv hd hcd).imp fun σ H Q ⟨Hf, Γ, fr, st, p⟩ => by
  unfold fZ at p
  split at p
  · rename_i x e
    obtain ⟨Hf1, v, s1, e1, st1⟩ := st.frzSlot e
    exact ⟨v, e1, p v H Hf1 s1 ⟨st1.pop, st1.top⟩⟩
  · exact p.elim⟩
theorem pz_b (i : Nat) {x : Str} (hN : X.N[i]? = some x := by rfl) (hv : Vis X.env.scope x := by first | exact Or.inl rfl | exact Or.inr (Or.inl rfl) | exact Or.inr (Or.inr rfl)) (hd : (x == ("__debug__" : Str)) = false := by decide)
    (hcd : (x == ("__classdict__" : Str)) = false := by decide) : PZ X W (.Name x pos) (oB i) := ⟨fun f0 h0 => (pe_var hN hv hd hcd).imp fun σ H Q ⟨Hf, Γ, fr, st, p⟩ => by
  unfold oB at p
  dsimp only at p
  split at p
  · rename_i x e
    have : ∃ v, σ[i]? = some (some v) := by
      obtain ⟨ω, st⟩ := st
      obtain ⟨v, e, _⟩ := st.slots i _ e
      exact ⟨v, e⟩
    obtain ⟨v, e1⟩ := this
    refine ⟨v, e1, p v H Hf (Same.refl _) ⟨st, fun Γ2 Hf2 H2 fr2 s2 st2 d h => ?_⟩⟩
    dsimp only at h
    split at h
    · rename_i ds q
      cases h
      obtain ⟨ω, st2⟩ := st2
      obtain ⟨v', e2, A, o, _⟩ := st2.slots i _ q
      rw [e1] at e2
      cases e2
      obtain ⟨a, vs, ds', B, rfl, e4, e5, e6, _⟩ := o
      cases e4
      exact .inr ⟨a, vs, ds, rfl, rfl, e5, e6.zs.2⟩
    · rename_i d' q
      cases h
      obtain ⟨v', e2, fz⟩ := st2.getZ q
      rw [e1] at e2
      cases e2
      exact .inl fz
    · cases h
  · exact p.elim⟩
theorem pzs_n : PZs X W [] osN := ⟨fun f0 h0 => pa_nil.imp fun σ H Q ⟨Hf, Γ, fr, st, p⟩ => p [] H Hf (Same.refl _) ⟨st, fun Γ2 Hf2 H2 fr2 s2 st2 d e => by
  cases e
  exact .nil⟩⟩
theorem pzs_c {es : List Expr} {o : Opn} {os : Opns} (h : PZ X W e o) (hs : PZs X W es os) (hst : starEach (e :: es) X.env = (false, eval e X.env) :: starEach es X.env := by rfl) : PZs X W (e :: es) (osC o os) :=
  ⟨fun f0 h0 => (pa_cons (h.run f0 h0) (hs.run f0 h0) hst).imp fun σ H Q ⟨Hf, Γ, fr, st, p⟩ => ⟨Hf, Γ, fr, st, Post.bind p fun d Γ1 _ v H1 Hf1 s1 ⟨st1, l1⟩ q => ⟨Hf1, Γ1, fr, st1, Post.bind q fun ds Γ2 _ vs H2 Hf2 s2 ⟨st2, l2⟩ q => q (v :: vs) H2 Hf2 (Same.refl _)
    ⟨st2, fun Γ3 Hf3 H3 fr3 s3 st3 r e => by
      cases h1 : o.l Γ3 d with
      | none => simp [osC, h1] at e
      | some d1 =>
        cases h2 : os.l Γ3 ds with
        | none => simp [osC, h1, h2] at e
        | some ds1 =>
          have e' : d1 :: ds1 = r := by simpa [osC, h1, h2] using e
          subst e'
          exact .cons (l1 Γ3 Hf3 H3 fr3 (s2.trans s3) st3 d1 h1) (l2 Γ3 Hf3 H3 fr3 s3 st3 ds1 h2)⟩⟩⟩⟩
end

/-! ### operators -/
/-- what a two-place operation gives, by the data -/
def OpS (K : PySem.W.Frag) (r : R2) (op : D → D → Option Va) : Prop := ∀ (Hf H : Hp) (x y : V) (dx dy : D) (z : Va) (Q : VK), Same Hf H → Fz1 K Hf H x dx → Fz1 K Hf H y dy → op dx dy = some z → (∀ v H' Hf', NewV K Hf H H' Hf' v z → Q v H') → r x y H Q
def o2 (op : D → D → Option Va) (a b : Opn) : Ev → Out Va := fun Γ => (a.f Γ).bind fun x Γ1 => (b.f Γ1).bind fun y Γ2 => .of ((a.l Γ2 x).bind fun x => (b.l Γ2 y).bind fun y => op x y) Γ2
theorem OpS.or {K : PySem.W.Frag} {r r' : R2} {op : D → D → Option Va} (h : OpS K r op) : OpS K (fun x y H Q => r x y H Q ∨ r' x y H Q) op := fun Hf H x y dx dy z Q s h1 h2 e q => .inl (h Hf H x y dx dy z Q s h1 h2 e q)
section
variable {X : Cx} {W : WX} {a b : Expr} {oa ob : Opn} {pos : Pos}
theorem bind2 {α β γ : Type} {x : Option α} {y : Option β} {f : α → β → Option γ} {z : γ} (h : (x.bind fun x => y.bind fun y => f x y) = some z) : ∃ a b, x = some a ∧ y = some b ∧ f a b = some z := by
  cases x with
  | none => cases h
  | some a =>
    cases y with
    | none => cases h
    | some b => exact ⟨a, b, rfl, rfl, h⟩
theorem tOp_of {g : GW} {r : R2} {op : D → D → Option Va} (hs : OpS g.h.K r op) {σ : St} {H : Hp} {Q : VK} (h : tV g (o2 op oa ob) σ H Q) : tOp r (tO g oa) (tO g ob) σ H Q := by
  obtain ⟨Hf, Γ, fr, st, p⟩ := h
  refine ⟨Hf, Γ, fr, st, Post.bind p fun x Γ1 _ v H1 Hf1 s1 ⟨st1, l1⟩ q => ⟨Hf1, Γ1, fr, st1, Post.bind q fun y Γ2 _ u H2 Hf2 s2 ⟨st2, l2⟩ q => ?_⟩⟩
  obtain ⟨z, e, q⟩ := Post.of q
  obtain ⟨x', y', e1, e2, e3⟩ := bind2 e
  exact hs Hf2 H2 v u x' y' z Q st2.sub (l1 Γ2 Hf2 H2 fr s2 st2 x' e1) (l2 Γ2 Hf2 H2 fr (Same.refl _) st2 y' e2) e3 fun v' H' Hf' n => q v' H' Hf' n.f1 (st2.pushN n)
theorem pv_bin {op : Operator} {r : R2} {f : D → D → Option Va} (ho : OpR X (binaryOp op) r) (hs : OpS X.K r f) (ha : PZ X W a oa) (hb : PZ X W b ob) : PV X W (.BinOp a op b pos) (o2 f oa ob) :=
  ⟨fun f0 h0 => (pe_op ho (ha.run f0 h0) (hb.run f0 h0)).imp fun σ H Q h => tOp_of hs h⟩
theorem pv_cmp {op : CmpOp} {r : R2} {f : D → D → Option Va} (ho : OpR X (compareOp op) r) (hs : OpS X.K r f) (ha : PZ X W a oa) (hb : PZ X W b ob) (hm : behindInMarks op b = false) : PV X W (.Compare a [op] [b] pos) (o2 f oa ob) :=
  ⟨fun f0 h0 => (pe_cmpR ho (ha.run f0 h0) (hb.run f0 h0) hm).imp fun σ H Q h => tOp_of hs h⟩
theorem pv_ix {r : R2} {f : D → D → Option Va} (ho : IxR X r) (hs : OpS X.K r f) (ha : PZ X W a oa) (hb : PZ X W b ob) (hp : PlainIx b) : PV X W (.Subscript a b pos) (o2 f oa ob) :=
  ⟨fun f0 h0 => (pe_ix ho (ha.run f0 h0) (hb.run f0 h0) hp).imp fun σ H Q h => tOp_of hs h⟩
/-- a value as a test -/
def bV (f : Ev → Out Va) : Ev → Out Bool := fun Γ => (f Γ).bind fun x Γ1 => .of (match x.2 with | .bool c => some c | _ => none) Γ1
theorem tTest_of {g : GW} {t : TE} {f : Ev → Out Va} {σ : St} {H : Hp} {Q : Bool → Hp → Prop} (hv : ∀ Q, tV g f σ H Q → t σ H Q) (h : tT g (bV f) σ H Q) : tTest t σ H Q := by
  obtain ⟨Hf, Γ, fr, st, p⟩ := h
  refine hv _ ⟨Hf, Γ, fr, st, Post.bind p fun x Γ1 _ v H1 Hf1 s1 st1 q => ?_⟩
  obtain ⟨c, e, q⟩ := Post.of q
  obtain ⟨s, d⟩ := x
  cases d with
  | bool k =>
    have e' : k = c := Option.some.inj e
    subst e'
    obtain ⟨Hf2, s2, st2⟩ := StOk.frz st1
    have z := st2.top
    cases z
    exact ⟨k, rfl, q k H1 Hf2 s2 ⟨st2.pop, rfl⟩⟩
  | _ => cases e
theorem pb_cmp {op : CmpOp} {r : R2} {f : D → D → Option Va} (ho : OpR X (compareOp op) r) (hs : OpS X.K r f) (ha : PZ X W a oa) (hb : PZ X W b ob) (hm : behindInMarks op b = false) : PB X W (.Compare a [op] [b] pos) (bV (o2 f oa ob)) :=
  ⟨fun f0 h0 => (pt_cmpR ho (ha.run f0 h0) (hb.run f0 h0) hm).imp fun σ H Q h => tTest_of (f := o2 f oa ob) (fun Q h => tOp_of hs h) h⟩
end
/-! ### the data's own operations -/
def b2 (o : Option Bool) : Option Va := o.map fun b => (.z, .bool b)
def mulOk (i j : Int) : Bool := decide (i.natAbs < 2 ^ 64) || decide (j.natAbs < 2 ^ 64)
def dAdd : D → D → Option Va
  | .int i, .int j => some (.z, .int (i + j))
  | .str i, .str j => if i.length + j.length ≤ 16777216 then some (.z, .str (i ++ j)) else none
  | .list i, .list j => if i.length + j.length ≤ 16777216 then some (.l .z, .list (i ++ j)) else none
  | .tuple i, .tuple j => if i.length + j.length ≤ 16777216 then some (.z, .tuple (i ++ j)) else none
  | _, _ => none
def dSub : D → D → Option Va
  | .int i, .int j => some (.z, .int (i - j))
  | _, _ => none
def dMul : D → D → Option Va
  | .int i, .int j => if mulOk i j then some (.z, .int (i * j)) else none
  | .list i, .int j => if 0 ≤ j ∧ j < 2 ^ 63 ∧ i.length * j.toNat ≤ 16777216 then some (.l .z, .list (List.replicate j.toNat i).flatten) else none
  | _, _ => none
def dDiv : D → D → Option Va
  | .int i, .int j => if 0 < j ∧ j < 2 ^ 64 then some (.z, .int (i / j)) else none
  | _, _ => none
def dMod : D → D → Option Va
  | .int i, .int j => if 0 < j then some (.z, .int (i % j)) else none
  | _, _ => none
def dPow : D → D → Option Va
  | .int i, .int j => if 0 ≤ j ∧ j ≤ 1000000 ∧ i.natAbs < 2 ^ 64 then some (.z, .int (i ^ j.toNat)) else none
  | _, _ => none
def dShl : D → D → Option Va
  | .int i, .int j => if 0 ≤ j ∧ j ≤ 1000000 ∧ i.natAbs < 2 ^ 64 then some (.z, .int (i * 2 ^ j.toNat)) else none
  | _, _ => none
def dShr : D → D → Option Va
  | .int i, .int j => if 0 ≤ j then some (.z, .int (i / 2 ^ j.toNat)) else none
  | _, _ => none
def dAnd : D → D → Option Va
  | .int i, .int j => some (.z, .int (Builtin.bitAnd i j))
  | _, _ => none
def dFlat : D → Bool
  | .none => true
  | .bool _ => true
  | .int _ => true
  | .str _ => true
  | _ => false
/-- == : of flat data, of data of a kind -/
def dEqv (a b : D) : Option Bool := if SeqAt.shaped a && SeqAt.shaped b then some (PyData.eqv a b) else none
def dSc : D → D → Option Bool
  | .none, .none => some true | .none, .int _ => some false | .int _, .none => some false | .none, .bool _ => some false | .bool _, .none => some false | .none, .str _ => some false | .str _, .none => some false
  | .int i, .int j => some (decide (i = j)) | .bool i, .bool j => some (decide (i = j)) | .str i, .str j => some (decide (i = j))
  | .int _, .str _ => some false | .str _, .int _ => some false | .bool _, .str _ => some false | .str _, .bool _ => some false
  | a, b => dEqv a b
def dEq (a b : D) : Option Va := b2 (dSc a b)
def dNe (a b : D) : Option Va := b2 ((dSc a b).map not)
def dLt : D → D → Option Va
  | .int i, .int j => some (.z, .bool (decide (i < j)))
  | .str i, .str j => some (.z, .bool (decide (i.cps.toList < j.cps.toList)))
  | _, _ => none
def dLe : D → D → Option Va
  | .int i, .int j => some (.z, .bool (decide (i ≤ j)))
  | _, _ => none
def dGt (a b : D) : Option Va := dLt b a
def dGe (a b : D) : Option Va := dLe b a
def dIs : D → D → Option Va
  | a, .none => some (.z, .bool (match a with | .none => true | _ => false))
  | _, _ => none
def dIsnt : D → D → Option Va
  | a, .none => some (.z, .bool (match a with | .none => false | _ => true))
  | _, _ => none
def dAt : D → D → Option Va
  | .list ds, .int i => (atI ds i).map fun d => (.z, d)
  | .tuple ds, .int i => (atI ds i).map fun d => (.z, d)
  | .str z, .int i => if z.length ≤ 16777216 then (atI z.cps.toList i).map fun c => (.z, .str ⟨#[c]⟩) else none
  | .dict [(.none, .list ds)], .int i => (atI ds i).map fun d => (.z, d)
  | _, _ => none
section
variable {K : PySem.W.Frag} {Hf H : Hp}
theorem atI_map {α β : Type} (f : α → β) (xs : List α) (i : Int) : atI (xs.map f) i = (atI xs i).map f := by
  unfold atI
  rw [List.length_map]
  cases ixN xs.length i with
  | none => rfl
  | some j => simp
theorem FzAll.at {vs : List V} {ds : List D} {i : Int} {d : D} (h : FzAll K H vs ds) (e : atI ds i = some d) : ∃ v, atI vs i = some v ∧ Fz K H v d := by
  unfold atI at e ⊢
  rw [h.length]
  cases q : ixN ds.length i with
  | none => rw [q] at e; cases e
  | some j =>
    rw [q] at e
    exact h.get e
theorem Fz1.list {v : V} {ds : List D} (h : Fz1 K Hf H v (.list ds)) (s : Same Hf H) : ∃ a vs, v = .ref a ∧ H a = some (.lst vs) ∧ FzAll K Hf vs ds := by
  rcases h with h | ⟨a, vs, ds', rfl, e, h, r⟩
  · cases h with
    | lst h r => exact ⟨_, _, rfl, s _ _ h, r⟩
  · cases e
    exact ⟨a, vs, rfl, h, r⟩
theorem Fz1.tup {v : V} {ds : List D} (h : Fz1 K Hf H v (.tuple ds)) : ∃ a vs, v = .ref a ∧ SqT K Hf a vs ∧ FzAll K Hf vs ds := by
  rcases h with h | ⟨a, vs, ds', rfl, e, h, r⟩
  · cases h with
    | tup h r => exact ⟨_, _, rfl, h, r⟩
  · cases e
theorem Fz1.int {v : V} {i : Int} (h : Fz1 K Hf H v (.int i)) : v = .int i := by
  rcases h with h | ⟨a, vs, ds', rfl, e, h, r⟩
  · cases h; rfl
  · cases e
theorem Fz1.str {v : V} {i : Str} (h : Fz1 K Hf H v (.str i)) : v = .str i := by
  rcases h with h | ⟨a, vs, ds', rfl, e, h, r⟩
  · cases h; rfl
  · cases e
theorem Fz1.bool {v : V} {i : Bool} (h : Fz1 K Hf H v (.bool i)) : v = .bl i := by
  rcases h with h | ⟨a, vs, ds', rfl, e, h, r⟩
  · cases h; rfl
  · cases e
theorem Fz1.none {v : V} (h : Fz1 K Hf H v .none) : v = .non := by
  rcases h with h | ⟨a, vs, ds', rfl, e, h, r⟩
  · cases h; rfl
  · cases e
theorem Fz1.non_iff {v : V} {d : D} (h : Fz1 K Hf H v d) : decide (v = .non) = (match d with | .none => true | _ => false) := by
  rcases h with h | ⟨a, vs, ds', rfl, rfl, h, r⟩
  · cases h <;> rfl
  · rfl
theorem Fz1.scr {v : V} {ds : List D} (h : Fz1 K Hf H v (.dict [(.none, .list ds)])) (s : Same Hf H) : ∃ (a : Addr) (ns : List Int), v = .ref a ∧ SqL K H a (ns.map V.int) ∧ ds = ns.map .int := by
  rcases h with h | ⟨a, vs, ds', rfl, e, h, r⟩
  · generalize hd : PyData.dict [(.none, .list ds)] = d at h
    cases h with
    | scr ns h =>
      have hd' : ds = ns.map .int := by
        injection hd with hd
        injection hd with hd _
        injection hd with _ hd
        injection hd
      exact ⟨_, ns, rfl, s.seq h, hd'⟩
    | @dK a kvs ds' h r =>
      injection hd with hd
      cases kvs with
      | nil => cases ds' <;> cases hd
      | cons p kvs =>
        cases ds' with
        | nil => cases hd
        | cons d' ds' =>
          rw [List.map_cons, List.zip_cons_cons] at hd
          injection hd with hd _
          injection hd with hd _
          obtain ⟨k, w⟩ := p
          cases k <;> cases hd
    | _ => cases hd
  · cases e
theorem Fz1.dp {v : V} {d : D} (h : Fz1 K Hf H v d) (s : Same Hf H) (c : d.canLay0 = true) : Dp K H v d := by
  rcases h with h | ⟨a, vs, ds', rfl, rfl, h, r⟩
  · exact (h.mono s).dp c
  · exact .lst (.inl (.inl h)) ((r.mono s).dp c)
end
end PV
namespace PV
open PySem PySem.Spec PyProof.Rows L2

section
variable {X : Cx} {K : PySem.W.Frag}
def rI' (C : Int → Int → Prop) (g : Int → Int → V) : R2 := rI C g
/-- ints -/
theorem ops_int {C : Int → Int → Prop} {g : Int → Int → Int} {op : D → D → Option Va} (h : ∀ dx dy z, op dx dy = some z → ∃ i j, dx = .int i ∧ dy = .int j ∧ C i j ∧ z = (.z, .int (g i j))) : OpS K (rI C fun i j => .int (g i j)) op := fun Hf H x y dx dy z Q s h1 h2 e q => by
  obtain ⟨i, j, rfl, rfl, c, rfl⟩ := h dx dy z e
  exact ⟨i, j, h1.int, h2.int, c, q _ H Hf (.z s (.int _))⟩
theorem ops_int0 {g : Int → Int → Int} {op : D → D → Option Va} (h : ∀ dx dy z, op dx dy = some z → ∃ i j, dx = .int i ∧ dy = .int j ∧ z = (.z, .int (g i j))) : OpS K (rI0 fun i j => .int (g i j)) op := fun Hf H x y dx dy z Q s h1 h2 e q => by
  obtain ⟨i, j, rfl, rfl, rfl⟩ := h dx dy z e
  exact ⟨i, j, h1.int, h2.int, q _ H Hf (.z s (.int _))⟩
def rAddV (K : PySem.W.Frag) : R2 := fun x y H Q => (rI0 (fun i j => .int (i + j)) x y H Q ∨ ∃ i j, x = .str i ∧ y = .str j ∧ i.length + j.length ≤ sizeLine ∧ Q (.str (i ++ j)) H) ∨ rCat x y H Q ∨ rCatA K x y H Q
theorem op_addV : OpR X (binaryOp .Add) (rAddV X.K) := (op_add.or op_add_str).or (op_cat.or op_catA)
theorem ops_add : OpS K (rAddV K) dAdd := fun Hf H x y dx dy z Q s h1 h2 e q => by
  cases dx <;> cases dy <;> first
    | (cases e; done)
    | (cases e; exact .inl (.inl ⟨_, _, h1.int, h2.int, q _ H Hf (.z s (.int _))⟩))
    | (simp only [dAdd] at e; split at e <;> cases e <;> first
        | exact .inl (.inr ⟨_, _, h1.str, h2.str, ‹_›, q _ H Hf (.z s (.str _))⟩)
        | (obtain ⟨a, vs, rfl, r1, f1⟩ := h1.list s
           obtain ⟨b, ws, rfl, r2, f2⟩ := h2.list s
           exact .inr (.inl ⟨a, b, vs, ws, rfl, rfl, r1, r2, by rw [f1.length, f2.length]; assumption, fun p n => q _ _ Hf (.lst s n (f1.append f2))⟩))
        | (obtain ⟨a, vs, rfl, r1, f1⟩ := h1.tup
           obtain ⟨b, ws, rfl, r2, f2⟩ := h2.tup
           refine .inr (.inr ⟨a, b, vs, ws, rfl, rfl, Same.seqT s r1, Same.seqT s r2, by rw [f1.length, f2.length]; assumption, fun e => ?_, fun _ e => ?_, fun _ _ p n => q _ _ _ (.tup s n (f1.append f2))⟩)
           · subst e
             cases f1
             exact q _ H Hf (.z s (.tup r2 f2))
           · subst e
             cases f2
             rw [List.append_nil] at q
             exact q _ H Hf (.z s (.tup r1 f1))))
theorem ops_sub : OpS K (rI0 fun i j => .int (i - j)) dSub := ops_int0 fun dx dy z e => by
  cases dx <;> cases dy <;> cases e
  exact ⟨_, _, rfl, rfl, rfl⟩
def CMul' (i j : Int) : Prop := mulOk i j = true
theorem cmul_of {i j : Int} (h : CMul' i j) : CMul i j := by
  unfold CMul' mulOk at h
  rw [Bool.or_eq_true, decide_eq_true_eq, decide_eq_true_eq] at h
  unfold CMul
  omega
def rMulV : R2 := fun x y H Q => rI CMul (fun i j => .int (i * j)) x y H Q ∨ rRep x y H Q
theorem op_mulV : OpR X (binaryOp .Mult) rMulV := op_mul.or op_rep
theorem ops_mul : OpS K rMulV dMul := fun Hf H x y dx dy z Q s h1 h2 e q => by
  cases dx <;> cases dy <;> first
    | (cases e; done)
    | (simp only [dMul] at e; split at e <;> cases e <;> first
        | exact .inl ⟨_, _, h1.int, h2.int, cmul_of ‹_›, q _ H Hf (.z s (.int _))⟩
        | (obtain ⟨a, vs, rfl, r1, f1⟩ := h1.list s
           obtain ⟨c1, c2, c3⟩ := ‹_ ∧ _›
           refine .inr ⟨a, _, vs, rfl, h2.int, r1, by omega, c2, by rw [f1.length]; exact c3, fun p n => q _ _ Hf (.lst s n ?_)⟩
           rename_i k
           have : ∀ m : Nat, FzAll K Hf (List.replicate m vs).flatten (List.replicate m ‹List PyData›).flatten := fun m => by
             induction m with
             | zero => exact .nil
             | succ m ih =>
               rw [List.replicate_succ, List.replicate_succ, List.flatten_cons, List.flatten_cons]
               exact f1.append ih
           exact this _))
def CDiv' (i j : Int) : Prop := 0 < j ∧ j < 2 ^ 64
theorem op_divV : OpR X (binaryOp .FloorDiv) (rI CDiv' fun i j => .int (i / j)) := fun pins s σ H x y v u Q I rx ry h => by
  obtain ⟨i, j, e1, e2, c, q⟩ := h
  have c' : 0 < j ∧ j < 2 ^ 64 := c
  exact op_fdivW pins s σ H x y v u Q I rx ry ⟨i, j, e1, e2, wide_div (b := 64) c'.1 (by omega) (by decide) (by decide), q⟩
theorem ops_div : OpS K (rI CDiv' fun i j => .int (i / j)) dDiv := ops_int fun dx dy z e => by
  cases dx <;> cases dy <;> first
    | (cases e; done)
    | (simp only [dDiv] at e; split at e <;> cases e; exact ⟨_, _, rfl, rfl, ‹_›, rfl⟩)
theorem ops_mod : OpS K (rI (fun _ j => 0 < j) fun i j => .int (i % j)) dMod := ops_int fun dx dy z e => by
  cases dx <;> cases dy <;> first
    | (cases e; done)
    | (simp only [dMod] at e; split at e <;> cases e; exact ⟨_, _, rfl, rfl, ‹_›, rfl⟩)
theorem ops_pow : OpS K (rI CPow fun i j => .int (i ^ j.toNat)) dPow := ops_int fun dx dy z e => by
  cases dx <;> cases dy <;> first
    | (cases e; done)
    | (simp only [dPow] at e; split at e <;> cases e; exact ⟨_, _, rfl, rfl, ‹_›, rfl⟩)
theorem ops_shl : OpS K (rI CPow fun i j => .int (i * 2 ^ j.toNat)) dShl := ops_int fun dx dy z e => by
  cases dx <;> cases dy <;> first
    | (cases e; done)
    | (simp only [dShl] at e; split at e <;> cases e; exact ⟨_, _, rfl, rfl, ‹_›, rfl⟩)
theorem ops_shr : OpS K (rI (fun _ j => 0 ≤ j) fun i j => .int (i / 2 ^ j.toNat)) dShr := ops_int fun dx dy z e => by
  cases dx <;> cases dy <;> first
    | (cases e; done)
    | (simp only [dShr] at e; split at e <;> cases e; exact ⟨_, _, rfl, rfl, ‹_›, rfl⟩)
theorem ops_and : OpS K (rI0 fun i j => .int (Builtin.bitAnd i j)) dAnd := ops_int0 fun dx dy z e => by
  cases dx <;> cases dy <;> cases e
  exact ⟨_, _, rfl, rfl, rfl⟩
/-! comparisons -/
def rEqV (K : PySem.W.Frag) : R2 := fun x y H Q => rEq x y H Q ∨ rEqD K x y H Q
def rNeV (K : PySem.W.Frag) : R2 := fun x y H Q => rNe x y H Q ∨ rNeD K x y H Q
theorem op_eqV (hu : X.A.units + 64 < cLine) : OpR X (compareOp .Eq) (rEqV X.K) := op_eq.or (op_eqD hu)
theorem op_neV (hu : X.A.units + 64 < cLine) : OpR X (compareOp .NotEq) (rNeV X.K) := op_ne.or (op_neD hu)
theorem dEqv_some {a b : D} {c : Bool} (h : dEqv a b = some c) : SeqAt.shaped a = true ∧ SeqAt.shaped b = true ∧ PyData.eqv a b = c := by
  unfold dEqv at h
  split at h
  · rename_i q
    rw [Bool.and_eq_true] at q
    exact ⟨q.1, q.2, Option.some.inj h⟩
  · cases h
theorem dSc_ok {x y : V} {a b : D} {c : Bool} (s : Same Hf H) (h1 : Fz1 K Hf H x a) (h2 : Fz1 K Hf H y b) (e : dSc a b = some c) :
    (L2.scal x y = true ∧ decide (x = y) = c) ∨ ∃ d e, Dp K H x d ∧ Dp K H y e ∧ SeqAt.shaped d = true ∧ SeqAt.shaped e = true ∧ PyData.eqv d e = c := by
  have go : ∀ {a b : D}, Fz1 K Hf H x a → Fz1 K Hf H y b → dEqv a b = some c → ∃ d e, Dp K H x d ∧ Dp K H y e ∧ SeqAt.shaped d = true ∧ SeqAt.shaped e = true ∧ PyData.eqv d e = c := fun {a b} h1 h2 e => by
    obtain ⟨q1, q2, q3⟩ := dEqv_some e
    exact ⟨a, b, h1.dp s (SeqAt.canLay_of_shaped q1), h2.dp s (SeqAt.canLay_of_shaped q2), q1, q2, q3⟩
  cases a <;> cases b <;> first
    | exact .inr (go h1 h2 e)
    | (have e' := Option.some.inj e
       subst e'
       first
         | (cases h1.none; cases h2.none; exact .inl ⟨rfl, by simp⟩)
         | (cases h1.none; cases h2.int; exact .inl ⟨rfl, by simp⟩)
         | (cases h1.none; cases h2.bool; exact .inl ⟨rfl, by simp⟩)
         | (cases h1.none; cases h2.str; exact .inl ⟨rfl, by simp⟩)
         | (cases h1.int; cases h2.none; exact .inl ⟨rfl, by simp⟩)
         | (cases h1.bool; cases h2.none; exact .inl ⟨rfl, by simp⟩)
         | (cases h1.str; cases h2.none; exact .inl ⟨rfl, by simp⟩)
         | (cases h1.int; cases h2.int; exact .inl ⟨rfl, by simp⟩)
         | (cases h1.bool; cases h2.bool; exact .inl ⟨rfl, by simp⟩)
         | (cases h1.str; cases h2.str; exact .inl ⟨rfl, by simp⟩)
         | (cases h1.int; cases h2.str; exact .inl ⟨rfl, by simp⟩)
         | (cases h1.str; cases h2.int; exact .inl ⟨rfl, by simp⟩)
         | (cases h1.bool; cases h2.str; exact .inl ⟨rfl, by simp⟩)
         | (cases h1.str; cases h2.bool; exact .inl ⟨rfl, by simp⟩))
theorem ops_eq : OpS K (rEqV K) dEq := fun Hf H x y dx dy z Q s h1 h2 e q => by
  cases h : dSc dx dy with
  | none => rw [dEq, h] at e; cases e
  | some c =>
    rw [dEq, h] at e
    cases e
    rcases dSc_ok s h1 h2 h with ⟨a, b⟩ | ⟨d, e, a1, a2, a3, a4, a5⟩
    · exact .inl ⟨a, by rw [b]; exact q _ H Hf (.z s (.bl _))⟩
    · exact .inr ⟨d, e, a1, a2, a3, a4, by rw [a5]; exact q _ H Hf (.z s (.bl _))⟩
theorem ops_ne : OpS K (rNeV K) dNe := fun Hf H x y dx dy z Q s h1 h2 e q => by
  cases h : dSc dx dy with
  | none => rw [dNe, h] at e; cases e
  | some c =>
    rw [dNe, h] at e
    cases e
    rcases dSc_ok s h1 h2 h with ⟨a, b⟩ | ⟨d, e, a1, a2, a3, a4, a5⟩
    · exact .inl ⟨a, by rw [b]; exact q _ H Hf (.z s (.bl _))⟩
    · exact .inr ⟨d, e, a1, a2, a3, a4, by rw [a5]; exact q _ H Hf (.z s (.bl _))⟩
def rLtV : R2 := fun x y H Q => rI0 (fun i j => .bl (decide (i < j))) x y H Q ∨ ∃ i j, x = .str i ∧ y = .str j ∧ Q (.bl (decide (i.cps.toList < j.cps.toList))) H
def rGtV : R2 := fun x y H Q => rI0 (fun i j => .bl (decide (j < i))) x y H Q ∨ ∃ i j, x = .str i ∧ y = .str j ∧ Q (.bl (decide (j.cps.toList < i.cps.toList))) H
theorem op_ltV : OpR X (compareOp .Lt) rLtV := op_lt.or op_lt_str
theorem op_gtV : OpR X (compareOp .Gt) rGtV := op_gt.or op_gt_str
theorem ops_lt : OpS K rLtV dLt := fun Hf H x y dx dy z Q s h1 h2 e q => by
  cases dx <;> cases dy <;> first
    | (cases e; done)
    | (cases e; exact .inl ⟨_, _, h1.int, h2.int, q _ H Hf (.z s (.bl _))⟩)
    | (cases e; exact .inr ⟨_, _, h1.str, h2.str, q _ H Hf (.z s (.bl _))⟩)
theorem ops_gt : OpS K rGtV dGt := fun Hf H x y dx dy z Q s h1 h2 e q => by
  cases dx <;> cases dy <;> first
    | (cases e; done)
    | (cases e; exact .inl ⟨_, _, h1.int, h2.int, q _ H Hf (.z s (.bl _))⟩)
    | (cases e; exact .inr ⟨_, _, h1.str, h2.str, q _ H Hf (.z s (.bl _))⟩)
theorem ops_le : OpS K (rI0 fun i j => .bl (decide (i ≤ j))) dLe := fun Hf H x y dx dy z Q s h1 h2 e q => by
  cases dx <;> cases dy <;> first
    | (cases e; done)
    | (cases e; exact ⟨_, _, h1.int, h2.int, q _ H Hf (.z s (.bl _))⟩)
theorem ops_ge : OpS K (rI0 fun i j => .bl (decide (j ≤ i))) dGe := fun Hf H x y dx dy z Q s h1 h2 e q => by
  cases dx <;> cases dy <;> first
    | (cases e; done)
    | (cases e; exact ⟨_, _, h1.int, h2.int, q _ H Hf (.z s (.bl _))⟩)
def rIsN : R2 := fun x y H Q => y = .non ∧ Q (.bl (decide (x = .non))) H
def rNotN : R2 := fun x y H Q => y = .non ∧ Q (.bl (!decide (x = .non))) H
theorem op_isV : OpR X (compareOp .Is) rIsN := op_isN
theorem op_isntV : OpR X (compareOp .IsNot) rNotN := op_notN
theorem ops_is : OpS K rIsN dIs := fun Hf H x y dx dy z Q s h1 h2 e q => by
  cases dy <;> first
    | (cases dx <;> cases e; done)
    | (refine ⟨h2.none, ?_⟩; rw [h1.non_iff]; cases dx <;> cases e <;> exact q _ H Hf (.z s (.bl _)))
theorem ops_isnt : OpS K rNotN dIsnt := fun Hf H x y dx dy z Q s h1 h2 e q => by
  cases dy <;> first
    | (cases dx <;> cases e; done)
    | (refine ⟨h2.none, ?_⟩; rw [h1.non_iff]; cases dx <;> cases e <;> exact q _ H Hf (.z s (.bl _)))
/-! subscripts -/
theorem ops_at : OpS K (rIx K) dAt := fun Hf H x y dx dy z Q s h1 h2 e q => by
  unfold dAt at e
  split at e
  · cases h : atI ‹List D› ‹Int› with
    | none => rw [h] at e; cases e
    | some d =>
      rw [h] at e
      cases e
      obtain ⟨a, vs, rfl, r, f⟩ := h1.list s
      obtain ⟨v, e1, f1⟩ := f.at h
      exact .inl ⟨a, vs, _, v, rfl, h2.int, SqL.of r, e1, q _ H Hf (.z s f1)⟩
  · cases h : atI ‹List D› ‹Int› with
    | none => rw [h] at e; cases e
    | some d =>
      rw [h] at e
      cases e
      obtain ⟨a, vs, rfl, r, f⟩ := h1.tup
      obtain ⟨v, e1, f1⟩ := f.at h
      exact .inr (.inl ⟨a, vs, _, v, rfl, h2.int, Same.seqT s r, e1, q _ H Hf (.z s f1)⟩)
  · split at e
    · cases h : atI (‹Str› : Str).cps.toList ‹Int› with
      | none => rw [h] at e; cases e
      | some d =>
        rw [h] at e
        cases e
        exact .inr (.inr ⟨_, _, d, h1.str, h2.int, ‹_›, h, q _ H Hf (.z s (.str _))⟩)
    · cases e
  · cases h : atI ‹List D› ‹Int› with
    | none => rw [h] at e; cases e
    | some d =>
      rw [h] at e
      cases e
      obtain ⟨a, ns, rfl, r, rfl⟩ := h1.scr s
      rw [atI_map] at h
      cases h' : atI ns ‹Int› with
      | none => rw [h'] at h; cases h
      | some n =>
        rw [h'] at h
        cases h
        exact .inl ⟨a, _, _, .int n, rfl, h2.int, r, by rw [atI_map, h']; rfl, q _ H Hf (.z s (.int n))⟩
  · cases e
end
end PV
namespace PV
open PySem PySem.Spec PyProof.Rows L2

/-! ### lists of frozen items -/
def RFs (g : GW) (σ : St) (fr : List (V × Va)) : Hp → Hp → List D → Ev → List V → Prop := fun Hf H d Γ v => StOk g.h Hf H σ Γ fr ∧ FzAll g.h.K Hf v d
def tFs (g : GW) (f : Ev → Out (List D)) : TA := fun σ H Q => ∃ Hf Γ fr, StOk g.h Hf H σ Γ fr ∧ Post g σ fr (RFs g σ fr) Hf Q (f Γ)
structure PFs (X : Cx) (W : WX) (es : List Expr) (f : Ev → Out (List D)) : Prop where
  run : ∀ f0 h0, PA X es (tFs (gh X W f0 h0) f)
def fsN : Ev → Out (List D) := fun Γ => .ok [] Γ
def fsC (f : Ev → Out D) (fs : Ev → Out (List D)) : Ev → Out (List D) := fun Γ => (f Γ).bind fun d Γ1 => (fs Γ1).bind fun ds Γ2 => .ok (d :: ds) Γ2
section
variable {X : Cx} {W : WX} {e : Expr} {es : List Expr} {pos : Pos}
theorem pfs_n : PFs X W [] fsN := ⟨fun f0 h0 => pa_nil.imp fun σ H Q ⟨Hf, Γ, fr, st, p⟩ => p [] H Hf (Same.refl _) ⟨st, .nil⟩⟩
theorem pfs_c {f : Ev → Out D} {fs : Ev → Out (List D)} (h : PF X W e f) (hs : PFs X W es fs) (hst : starEach (e :: es) X.env = (false, eval e X.env) :: starEach es X.env := by rfl) : PFs X W (e :: es) (fsC f fs) :=
  ⟨fun f0 h0 => (pa_cons (h.run f0 h0) (hs.run f0 h0) hst).imp fun σ H Q ⟨Hf, Γ, fr, st, p⟩ => ⟨Hf, Γ, fr, st, Post.bind p fun d Γ1 _ v H1 Hf1 s1 ⟨st1, l1⟩ q => ⟨Hf1, Γ1, fr, st1, Post.bind q fun ds Γ2 _ vs H2 Hf2 s2 ⟨st2, l2⟩ q => q (v :: vs) H2 Hf2 (Same.refl _) ⟨st2, .cons (l1.mono s2) l2⟩⟩⟩⟩
/-- [a, b, ..], (a, b, ..) -/
def fLst (fs : Ev → Out (List D)) : Ev → Out Va := fun Γ => (fs Γ).bind fun ds Γ1 => .of (if ds.length ≤ 16777216 then some (.l .z, .list ds) else none) Γ1
def fTup (fs : Ev → Out (List D)) : Ev → Out D := fun Γ => (fs Γ).bind fun ds Γ1 => .of (if ds.length ≤ 16777216 then some (.tuple ds) else none) Γ1
theorem pv_lst {fs : Ev → Out (List D)} (h : PFs X W es fs) : PV X W (.List es pos) (fLst fs) :=
  ⟨fun f0 h0 => (pe_lst (h.run f0 h0)).imp fun σ H Q ⟨Hf, Γ, fr, st, p⟩ => ⟨Hf, Γ, fr, st, Post.bind p fun ds Γ1 _ vs H1 Hf1 s1 ⟨st1, l1⟩ q => by
    obtain ⟨x, e, q⟩ := Post.of q
    split at e <;> cases e
    refine ⟨by rw [l1.length, sizeLine_eq]; assumption, fun p n => ?_⟩
    exact q _ _ Hf1 (Same.refl _) (st1.pushN (.lst st1.sub n l1))⟩⟩
theorem pf_tup {fs : Ev → Out (List D)} {k} (h : PFs X W es fs) : PF X W (.Tuple es k pos) (fTup fs) :=
  ⟨fun f0 h0 => (pe_tup (h.run f0 h0)).imp fun σ H Q ⟨Hf, Γ, fr, st, p⟩ => ⟨Hf, Γ, fr, st, Post.bind p fun ds Γ1 _ vs H1 Hf1 s1 ⟨st1, l1⟩ q => by
    obtain ⟨x, e, q⟩ := Post.of q
    split at e <;> cases e
    refine ⟨by rw [l1.length, sizeLine_eq]; assumption, fun p n => ?_⟩
    have nv := NewV.tup (K := X.K) st1.sub n l1
    have st2 := st1.pushN nv
    exact q _ _ _ nv.f1 ⟨st2.pop, st2.top⟩⟩⟩
end

/-! ### calls of built-ins -/
def CallS (K : PySem.W.Frag) (r : List V → Hp → VK → Prop) (op : List D → Option Va) : Prop := ∀ (Hf H : Hp) (xs : List V) (ds : List D) (z : Va) (Q : VK), Same Hf H → Fz1All K Hf H xs ds → op ds = some z → (∀ v H' Hf', NewV K Hf H H' Hf' v z → Q v H') → r xs H Q
def fB (op : List D → Option Va) (os : Opns) : Ev → Out Va := fun Γ => (os.f Γ).bind fun ds Γ1 => .of ((os.l Γ1 ds).bind op) Γ1
section
variable {X : Cx} {W : WX} {e : Expr} {es : List Expr} {x : Str} {p pos : Pos} {id T : String} {r : List V → Hp → VK → Prop} {op : List D → Option Va} {os : Opns}
theorem tCB_of {g : GW} (hs : CallS g.h.K r op) {σ : St} {H : Hp} {Q : VK} (h : tV g (fB op os) σ H Q) : tCB r (tA g os) σ H Q := by
  obtain ⟨Hf, Γ, fr, st, p⟩ := h
  refine ⟨Hf, Γ, fr, st, Post.bind p fun ds Γ1 _ vs H1 Hf1 s1 ⟨st1, l1⟩ q => ?_⟩
  obtain ⟨z, e, q⟩ := Post.of q
  cases h : os.l Γ1 ds with
  | none => rw [h] at e; cases e
  | some ds' =>
    rw [h] at e
    exact hs Hf1 H1 vs ds' z Q st1.sub (l1 Γ1 Hf1 H1 fr (Same.refl _) st1 ds' h) e fun v' H' Hf' n => q v' H' Hf' n.f1 (st1.pushN n)
theorem pv_callB (hc : CallR X (.builtin id) r) (hs : CallS X.K r op) (hg : Gl X x) (hm : X.mg x = none) (hv : bootBuiltins x = some (.builtin id)) (ha : PZs X W (e :: es) os) (hn : x ≠ "__name__" := by decide) (hdb : (x == ("__debug__" : Str)) = false := by decide)
    (he : starEach (e :: es) X.env = (false, eval e X.env) :: starEach es X.env := by rfl) (hpl : (backTo pos (starEach es X.env)).any (·.1) = false := by rfl) : PV X W (.Call (.Name x p) (e :: es) [] pos) (fB op os) :=
  ⟨fun f0 h0 => (pe_callB hc hg hm hv (ha.run f0 h0) hn hdb he hpl).imp fun σ H Q h => tCB_of hs h⟩
theorem pv_callTy (hc : CallR X (.type T) r) (hs : CallS X.K r op) (hg : Gl X x) (hm : X.mg x = none) (hv : bootBuiltins x = some (.type T)) (ha : PZs X W (e :: es) os) (hn : x ≠ "__name__" := by decide) (hdb : (x == ("__debug__" : Str)) = false := by decide)
    (he : starEach (e :: es) X.env = (false, eval e X.env) :: starEach es X.env := by rfl) (hpl : (backTo pos (starEach es X.env)).any (·.1) = false := by rfl) : PV X W (.Call (.Name x p) (e :: es) [] pos) (fB op os) :=
  ⟨fun f0 h0 => (pe_callTy hc hg hm hv (ha.run f0 h0) hn hdb he hpl).imp fun σ H Q h => tCB_of hs h⟩
end
section
variable {X : Cx} {K : PySem.W.Frag}
theorem Fz1All.one {Hf H : Hp} {xs : List V} {d : D} (h : Fz1All K Hf H xs [d]) : ∃ v, xs = [v] ∧ Fz1 K Hf H v d := by
  cases h with
  | cons h r => cases r; exact ⟨_, rfl, h⟩
theorem Fz1All.two {Hf H : Hp} {xs : List V} {d e : D} (h : Fz1All K Hf H xs [d, e]) : ∃ v w, xs = [v, w] ∧ Fz1 K Hf H v d ∧ Fz1 K Hf H w e := by
  cases h with
  | cons h r =>
    cases r with
    | cons h2 r2 => cases r2; exact ⟨_, _, rfl, h, h2⟩
def dLen : List D → Option Va
  | [.list ds] => some (.z, .int ds.length)
  | [.tuple ds] => some (.z, .int ds.length)
  | [.str z] => if z.length ≤ 16777216 then some (.z, .int z.length) else none
  | [.dict [(.none, .list ds)]] => some (.z, .int ds.length)
  | _ => none
def rLenV (K : PySem.W.Frag) : List V → Hp → VK → Prop := fun xs H Q => (∃ p ys, xs = [.ref p] ∧ (SqL K H p ys ∨ SqT K H p ys) ∧ Q (.int ys.length) H) ∨ ∃ z, xs = [.str z] ∧ z.length ≤ sizeLine ∧ Q (.int z.length) H
theorem call_lenV : CallR X (.builtin "len") (rLenV X.K) := call_len_seq.or call_len_str
theorem cs_len : CallS K (rLenV K) dLen := fun Hf H xs ds z Q s h e q => by
  unfold dLen at e
  split at e
  · obtain ⟨v, rfl, hh⟩ := h.one
    cases e
    obtain ⟨a, vs, rfl, r, f⟩ := hh.list s
    exact .inl ⟨a, vs, rfl, .inl (SqL.of r), by rw [f.length]; exact q _ H Hf (.z s (.int _))⟩
  · obtain ⟨v, rfl, hh⟩ := h.one
    cases e
    obtain ⟨a, vs, rfl, r, f⟩ := hh.tup
    exact .inl ⟨a, vs, rfl, .inr (Same.seqT s r), by rw [f.length]; exact q _ H Hf (.z s (.int _))⟩
  · obtain ⟨v, rfl, hh⟩ := h.one
    split at e <;> cases e
    cases hh.str
    exact .inr ⟨_, rfl, by rw [sizeLine_eq]; assumption, q _ H Hf (.z s (.int _))⟩
  · obtain ⟨v, rfl, hh⟩ := h.one
    cases e
    obtain ⟨a, ns, rfl, r, rfl⟩ := hh.scr s
    refine .inl ⟨a, _, rfl, .inl r, ?_⟩
    rw [List.length_map] at q ⊢
    exact q _ H Hf (.z s (.int _))
  · cases e
/-- int(n), int(flag) -/
def dInt : List D → Option Va
  | [.int i] => some (.z, .int i)
  | [.bool b] => some (.z, .int (if b then 1 else 0))
  | _ => none
theorem cs_int : CallS K (fun xs H Q => (∃ i, xs = [.int i] ∧ Q (.int i) H) ∨ ∃ k, xs = [.bl k] ∧ Q (.int (if k then 1 else 0)) H) dInt := fun Hf H xs ds z Q s h e q => by
  unfold dInt at e
  split at e
  · obtain ⟨v, rfl, hh⟩ := h.one
    cases e
    cases hh.int
    exact .inl ⟨_, rfl, q _ H Hf (.z s (.int _))⟩
  · obtain ⟨v, rfl, hh⟩ := h.one
    cases e
    cases hh.bool
    exact .inr ⟨_, rfl, q _ H Hf (.z s (.int _))⟩
  · cases e
/-- list(xs), tuple(xs) -/
def dListOf : List D → Option Va
  | [.list ds] => some (.l .z, .list ds)
  | [.tuple ds] => some (.l .z, .list ds)
  | _ => none
theorem cs_list : CallS K (fun xs H Q => ∃ p ys, xs = [.ref p] ∧ (SqL K H p ys ∨ SqT K H p ys) ∧ ∀ l, H l = none → Q (.ref l) (upd H l (.lst ys))) dListOf := fun Hf H xs ds z Q s h e q => by
  unfold dListOf at e
  split at e
  · obtain ⟨v, rfl, hh⟩ := h.one
    cases e
    obtain ⟨a, vs, rfl, r, f⟩ := hh.list s
    exact ⟨a, vs, rfl, .inl (SqL.of r), fun l n => q _ _ Hf (.lst s n f)⟩
  · obtain ⟨v, rfl, hh⟩ := h.one
    cases e
    obtain ⟨a, vs, rfl, r, f⟩ := hh.tup
    exact ⟨a, vs, rfl, .inr (Same.seqT s r), fun l n => q _ _ Hf (.lst s n f)⟩
  · cases e
def dTupOf : List D → Option Va
  | [.list ds] => some (.z, .tuple ds)
  | [.tuple ds] => some (.z, .tuple ds)
  | _ => none
theorem cs_tuple : CallS K (fun xs H Q => ∃ p ys, xs = [.ref p] ∧ ((SqL K H p ys ∧ ∀ l, H l = none → Q (.ref l) (upd H l (.tup ys))) ∨ (SqT K H p ys ∧ Q (.ref p) H))) dTupOf := fun Hf H xs ds z Q s h e q => by
  unfold dTupOf at e
  split at e
  · obtain ⟨v, rfl, hh⟩ := h.one
    cases e
    obtain ⟨a, vs, rfl, r, f⟩ := hh.list s
    exact ⟨a, vs, rfl, .inl ⟨SqL.of r, fun l n => q _ _ _ (.tup s n f)⟩⟩
  · obtain ⟨v, rfl, hh⟩ := h.one
    cases e
    obtain ⟨a, vs, rfl, r, f⟩ := hh.tup
    exact ⟨a, vs, rfl, .inr ⟨Same.seqT s r, q _ H Hf (.z s (.tup r f))⟩⟩
  · cases e
/-- the dInts, the truth values of a list -/
def dInts : List D → Option (List Int)
  | [] => some []
  | .int i :: ds => (dInts ds).map (i :: ·)
  | _ => none
theorem ints_eq : ∀ {ds : List D} {ns : List Int}, dInts ds = some ns → ds = ns.map .int
  | [], ns, h => by cases h; rfl
  | .int i :: ds, ns, h => by
    cases q : dInts ds with
    | none => rw [dInts, q] at h; cases h
    | some ms =>
      rw [dInts, q] at h
      cases h
      rw [ints_eq q]
      rfl
  | .none :: _, _, h => nomatch h
  | .bool _ :: _, _, h => nomatch h
  | .str _ :: _, _, h => nomatch h
  | .list _ :: _, _, h => nomatch h
  | .tuple _ :: _, _, h => nomatch h
  | .dict _ :: _, _, h => nomatch h
theorem ints_map : ∀ (ns : List Int), dInts (ns.map .int) = some ns
  | [] => rfl
  | n :: ns => by rw [List.map_cons, dInts, ints_map ns]; rfl
def dBools : List D → Option (List Bool)
  | [] => some []
  | .bool i :: ds => (dBools ds).map (i :: ·)
  | _ => none
theorem bools_eq : ∀ {ds : List D} {ns : List Bool}, dBools ds = some ns → ds = ns.map .bool
  | [], ns, h => by cases h; rfl
  | .bool i :: ds, ns, h => by
    cases q : dBools ds with
    | none => rw [dBools, q] at h; cases h
    | some ms =>
      rw [dBools, q] at h
      cases h
      rw [bools_eq q]
      rfl
  | .none :: _, _, h => nomatch h
  | .int _ :: _, _, h => nomatch h
  | .str _ :: _, _, h => nomatch h
  | .list _ :: _, _, h => nomatch h
  | .tuple _ :: _, _, h => nomatch h
  | .dict _ :: _, _, h => nomatch h
theorem bools_map : ∀ (ns : List Bool), dBools (ns.map .bool) = some ns
  | [] => rfl
  | n :: ns => by rw [List.map_cons, dBools, bools_map ns]; rfl
def dSum : List D → Option Va
  | [.list ds] => (dInts ds).map fun ns => (.z, .int ns.sum)
  | _ => none
def maxI : Int → List Int → Int
  | m, [] => m
  | m, n :: ns => maxI (if m < n then n else m) ns
def minI : Int → List Int → Int
  | m, [] => m
  | m, n :: ns => minI (if n < m then n else m) ns
def dMax : List D → Option Va
  | [.list ds] => match dInts ds with | some (n :: ns) => some (.z, .int (maxI n ns)) | _ => none
  | [.int i, .int j] => some (.z, .int (if i < j then j else i))
  | _ => none
def dMin : List D → Option Va
  | [.list ds] => match dInts ds with | some (n :: ns) => some (.z, .int (minI n ns)) | _ => none
  | [.int i, .int j] => some (.z, .int (if j < i then j else i))
  | _ => none
def dAll : List D → Option Va
  | [.list ds] => (dBools ds).map fun bs => (.z, .bool (bs.all id))
  | _ => none
def dAny : List D → Option Va
  | [.list ds] => (dBools ds).map fun bs => (.z, .bool (bs.any id))
  | _ => none
def dAbs : List D → Option Va
  | [.int i] => some (.z, .int (if i < 0 then -i else i))
  | _ => none
theorem cs_sum : CallS K (rSum K) dSum := fun Hf H xs ds z Q s h e q => by
  unfold dSum at e
  split at e
  · obtain ⟨v, rfl, hh⟩ := h.one
    cases h2 : dInts ‹List D› with
    | none => rw [h2] at e; cases e
    | some ns =>
      rw [h2] at e
      cases e
      obtain ⟨a, vs, rfl, r, f⟩ := hh.list s
      rw [ints_eq h2] at f
      rw [f.ints] at r
      exact ⟨a, ns, rfl, SqL.of r, q _ H Hf (.z s (.int _))⟩
  · cases e
theorem cs_all : CallS K (rAll K) dAll := fun Hf H xs ds z Q s h e q => by
  unfold dAll at e
  split at e
  · obtain ⟨v, rfl, hh⟩ := h.one
    cases h2 : dBools ‹List D› with
    | none => rw [h2] at e; cases e
    | some ns =>
      rw [h2] at e
      cases e
      obtain ⟨a, vs, rfl, r, f⟩ := hh.list s
      rw [bools_eq h2] at f
      rw [f.bools] at r
      exact ⟨a, ns, rfl, SqL.of r, q _ H Hf (.z s (.bl _))⟩
  · cases e
theorem cs_any : CallS K (rAny K) dAny := fun Hf H xs ds z Q s h e q => by
  unfold dAny at e
  split at e
  · obtain ⟨v, rfl, hh⟩ := h.one
    cases h2 : dBools ‹List D› with
    | none => rw [h2] at e; cases e
    | some ns =>
      rw [h2] at e
      cases e
      obtain ⟨a, vs, rfl, r, f⟩ := hh.list s
      rw [bools_eq h2] at f
      rw [f.bools] at r
      exact ⟨a, ns, rfl, SqL.of r, q _ H Hf (.z s (.bl _))⟩
  · cases e
theorem maxI_spec : ∀ (ns : List Int) (m : Int), (maxI m ns = m ∨ maxI m ns ∈ ns) ∧ m ≤ maxI m ns ∧ ∀ y ∈ ns, y ≤ maxI m ns
  | [], m => ⟨.inl rfl, Int.le_refl _, fun _ h => nomatch h⟩
  | n :: ns, m => by
    unfold maxI
    obtain ⟨h1, h2, h3⟩ := maxI_spec ns (if m < n then n else m)
    by_cases c : m < n
    · rw [if_pos c] at h1 h2 h3 ⊢
      refine ⟨.inr ?_, by omega, fun y hy => ?_⟩
      · rcases h1 with h1 | h1
        · rw [h1]; exact List.mem_cons_self
        · exact List.mem_cons_of_mem _ h1
      · rcases List.mem_cons.mp hy with rfl | hy
        · exact h2
        · exact h3 y hy
    · rw [if_neg c] at h1 h2 h3 ⊢
      refine ⟨?_, by omega, fun y hy => ?_⟩
      · rcases h1 with h1 | h1
        · exact .inl h1
        · exact .inr (List.mem_cons_of_mem _ h1)
      · rcases List.mem_cons.mp hy with rfl | hy
        · omega
        · exact h3 y hy
theorem minI_spec : ∀ (ns : List Int) (m : Int), (minI m ns = m ∨ minI m ns ∈ ns) ∧ minI m ns ≤ m ∧ ∀ y ∈ ns, minI m ns ≤ y
  | [], m => ⟨.inl rfl, Int.le_refl _, fun _ h => nomatch h⟩
  | n :: ns, m => by
    unfold minI
    obtain ⟨h1, h2, h3⟩ := minI_spec ns (if n < m then n else m)
    by_cases c : n < m
    · rw [if_pos c] at h1 h2 h3 ⊢
      refine ⟨.inr ?_, by omega, fun y hy => ?_⟩
      · rcases h1 with h1 | h1
        · rw [h1]; exact List.mem_cons_self
        · exact List.mem_cons_of_mem _ h1
      · rcases List.mem_cons.mp hy with rfl | hy
        · exact h2
        · exact h3 y hy
    · rw [if_neg c] at h1 h2 h3 ⊢
      refine ⟨?_, by omega, fun y hy => ?_⟩
      · rcases h1 with h1 | h1
        · exact .inl h1
        · exact .inr (List.mem_cons_of_mem _ h1)
      · rcases List.mem_cons.mp hy with rfl | hy
        · omega
        · exact h3 y hy
theorem min_anti {a b c : Int} (h1 : a ≤ b) (h2 : b ≤ a) : a = b := by omega
def rMaxV (K : PySem.W.Frag) : List V → Hp → VK → Prop := fun xs H Q => rMax K xs H Q ∨ ∃ i j, xs = [.int i, .int j] ∧ Q (.int (if i < j then j else i)) H
def rMinV (K : PySem.W.Frag) : List V → Hp → VK → Prop := fun xs H Q => rMin K xs H Q ∨ ∃ i j, xs = [.int i, .int j] ∧ Q (.int (if j < i then j else i)) H
theorem cs_max : CallS K (rMaxV K) dMax := fun Hf H xs ds z Q s h e q => by
  unfold dMax at e
  split at e
  · obtain ⟨v, rfl, hh⟩ := h.one
    split at e
    · rename_i n ns h2
      cases e
      obtain ⟨a, vs, rfl, r, f⟩ := hh.list s
      rw [ints_eq h2] at f
      rw [f.ints] at r
      refine .inl ⟨a, n :: ns, rfl, SqL.of r, Nat.succ_pos _, fun m hm hy => ?_⟩
      obtain ⟨h1, h2, h3⟩ := maxI_spec ns n
      have e1 : m ≤ maxI n ns := by
        rcases List.mem_cons.mp hm with rfl | hm
        · exact h2
        · exact h3 m hm
      have e2 : maxI n ns ≤ m := by
        rcases h1 with h1 | h1
        · rw [h1]; exact hy n List.mem_cons_self
        · exact hy _ (List.mem_cons_of_mem _ h1)
      rw [min_anti (c := 0) e1 e2]
      exact q _ H Hf (.z s (.int _))
    · cases e
  · obtain ⟨v, w, rfl, h1, h2⟩ := h.two
    cases e
    cases h1.int
    cases h2.int
    exact .inr ⟨_, _, rfl, q _ H Hf (.z s (.int _))⟩
  · cases e
theorem cs_min : CallS K (rMinV K) dMin := fun Hf H xs ds z Q s h e q => by
  unfold dMin at e
  split at e
  · obtain ⟨v, rfl, hh⟩ := h.one
    split at e
    · rename_i n ns h2
      cases e
      obtain ⟨a, vs, rfl, r, f⟩ := hh.list s
      rw [ints_eq h2] at f
      rw [f.ints] at r
      refine .inl ⟨a, n :: ns, rfl, SqL.of r, Nat.succ_pos _, fun m hm hy => ?_⟩
      obtain ⟨h1, h2, h3⟩ := minI_spec ns n
      have e1 : minI n ns ≤ m := by
        rcases List.mem_cons.mp hm with rfl | hm
        · exact h2
        · exact h3 m hm
      have e2 : m ≤ minI n ns := by
        rcases h1 with h1 | h1
        · rw [h1]; exact hy n List.mem_cons_self
        · exact hy _ (List.mem_cons_of_mem _ h1)
      rw [min_anti (c := 0) e2 e1]
      exact q _ H Hf (.z s (.int _))
    · cases e
  · obtain ⟨v, w, rfl, h1, h2⟩ := h.two
    cases e
    cases h1.int
    cases h2.int
    exact .inr ⟨_, _, rfl, q _ H Hf (.z s (.int _))⟩
  · cases e
end
end PV
namespace PV
open PySem PySem.Spec PyProof.Rows L2

/-! ### a call of a def of one's own -/
def RPost (g : GW) (Hf H : Hp) (Q : VK) (E : XK) : Res → Prop
  | .ok x => ∀ v H' Hf', NewV g.h.K Hf H H' Hf' v x → Q v H'
  | .ex e => ∀ cls dx H' Hf', Same H H' → Same Hf Hf' → Same Hf' H' → (∀ a, Hf' a ≠ none → Hf a ≠ none ∨ H a = none) → ExOk g Hf' e cls dx → E cls dx H'
  | .st => False
/-- the promise of a def that computes F -/
def spV (K : PySem.W.Frag) (mg : Str → Option Value) (n : Nat) (F : List D → Res) : Sp := fun vs H Q E => ∃ Hf ds, ds.length = n ∧ Same Hf H ∧ FzAll K Hf vs ds ∧ RPost ⟨⟨K, Hf, H⟩, mg, fun _ _ _ _ => False⟩ Hf H Q E (F ds)
def fCall (n : Nat) (F : List D → Res) (fs : Ev → Out (List D)) : Ev → Out Va := fun Γ => (fs Γ).bind fun ds Γ1 => if ds.length = n then (match F ds with | .ok x => .ok x Γ1 | .ex e => .ex e Γ1 | .st => .st) else .st
section
variable {X : Cx} {W : WX} {e : Expr} {es : List Expr} {x : Str} {p pos : Pos}
theorem pv_call {f : Addr} {fd : FuncData} {ps : List Str} {k n : Nat} {F : List D → Res} {fs : Ev → Out (List D)} (hF : FnOk X.prog X.w X.K X.mg X.base (L2.CX X.prog X.w) k f fd ps (spV X.K X.mg n F)) (hr : Room k X.A) (hg : Gl X x) (hm : X.mg x = some (.ref f))
    (hk : PySem.W.keepIn X.K (.ref f) = true) (hb : Binds X.K fd ps []) (tk : Takes X W) (ha : PFs X W (e :: es) fs) (hdb : (x == ("__debug__" : Str)) = false := by decide) (he : starEach (e :: es) X.env = (false, eval e X.env) :: starEach es X.env := by rfl)
    (hpl : (backTo pos (starEach es X.env)).any (·.1) = false := by rfl) : PV X W (.Call (.Name x p) (e :: es) [] pos) (fCall n F fs) :=
  ⟨fun f0 h0 => (pe_callS (E := WE W) hF hr hg hm hk hb (fun σ => passAt tk σ) (ha.run f0 h0) hdb he hpl).imp fun σ H Q ⟨Hf, Γ, fr, st, p⟩ => ⟨Hf, Γ, fr, st, Post.bind p fun ds Γ1 _ vs H1 Hf1 s1 ⟨st1, l1⟩ q => by
    refine ⟨Hf1, ds, ?_, st1.sub, l1, ?_⟩
    · by_cases c : ds.length = n
      · exact c
      · rw [if_neg c] at q; exact q.elim
    · split at q
      · cases h : F ds with
        | ok x =>
          rw [h] at q
          exact fun v H' Hf' nv => q v H' Hf' nv.f1 (st1.pushN nv)
        | ex ee =>
          rw [h] at q
          exact fun cls dx H' Hf' a1 a2 a3 a4 a5 => q cls dx H' Hf' a2 a5 (st1.freeze a1 a2 a3 a4)
        | st =>
          rw [h] at q
          exact q
      · exact q.elim⟩⟩
end

/-! ### tests -/
def dTru : D → Option Bool
  | .none => some false
  | .bool b => some b
  | .int i => some (i != 0)
  | .str z => if z.length ≤ 16777216 then some ((z.length : Int) != 0) else none
  | .list ds => some (!ds.isEmpty)
  | .tuple ds => some (!ds.isEmpty)
  | _ => none
def bO (o : Opn) : Ev → Out Bool := fun Γ => (o.f Γ).bind fun d Γ1 => .of ((o.l Γ1 d).bind dTru) Γ1
def bNot (c : Ev → Out Bool) : Ev → Out Bool := fun Γ => (c Γ).bind fun b Γ1 => .ok (!b) Γ1
def bAnd (a b : Ev → Out Bool) : Ev → Out Bool := fun Γ => (a Γ).bind fun c Γ1 => if c = true then b Γ1 else .ok false Γ1
def bOr (a b : Ev → Out Bool) : Ev → Out Bool := fun Γ => (a Γ).bind fun c Γ1 => if c = true then .ok true Γ1 else b Γ1
def vIf (c : Ev → Out Bool) (a b : Ev → Out Va) : Ev → Out Va := fun Γ => (c Γ).bind fun k Γ1 => if k = true then a Γ1 else b Γ1
/-- .. as values -/
def dB : D → Option Bool
  | .bool b => some b
  | _ => none
def vAnd (a : Ev → Out D) (b : Ev → Out Va) : Ev → Out Va := fun Γ => (a Γ).bind fun d Γ1 => match d with | .bool true => b Γ1 | .bool false => .ok (.z, .bool false) Γ1 | _ => .st
def vOr (a : Ev → Out D) (b : Ev → Out Va) : Ev → Out Va := fun Γ => (a Γ).bind fun d Γ1 => match d with | .bool true => .ok (.z, .bool true) Γ1 | .bool false => b Γ1 | _ => .st
def fNot (a : Ev → Out D) : Ev → Out D := fun Γ => (a Γ).bind fun d Γ1 => match d with | .bool b => .ok (.bool !b) Γ1 | _ => .st
theorem isEmpty_len {α β : Type} {xs : List α} {ys : List β} (h : xs.length = ys.length) : xs.isEmpty = ys.isEmpty := by
  cases xs <;> cases ys <;> simp at h ⊢
section
variable {X : Cx} {W : WX} {a b : Expr} {rest : List Expr} {pos : Pos}
theorem pb_o {o : Opn} (h : PZ X W a o) (he : ∀ whole, isTrue a X.env whole = (do let v ← whole; standAt a.pos; holding [v] (truthy v)) := by intro _; rfl) : PB X W a (bO o) :=
  ⟨fun f0 h0 => (pt_truth (h.run f0 h0) he).imp fun σ H Q ⟨Hf, Γ, fr, st, p⟩ => ⟨Hf, Γ, fr, st, Post.bind p fun d Γ1 _ v H1 Hf1 s1 ⟨st1, l1⟩ q => by
    obtain ⟨c, e, q⟩ := Post.of q
    cases h : o.l Γ1 d with
    | none => rw [h] at e; cases e
    | some d' =>
      rw [h] at e
      have z := l1 Γ1 Hf1 H1 fr (Same.refl _) st1 d' h
      have fin := q c H1 Hf1 (Same.refl _) ⟨st1, rfl⟩
      cases d' with
      | none => cases e; cases z.none; exact ⟨_, rfl, fin⟩
      | bool _ => cases e; cases z.bool; exact ⟨_, rfl, fin⟩
      | int _ => cases e; cases z.int; exact ⟨_, rfl, fin⟩
      | str x =>
        change (if x.length ≤ 16777216 then _ else _) = _ at e
        split at e <;> cases e
        cases z.str
        exact ⟨_, ⟨by rw [sizeLine_eq]; assumption, rfl⟩, fin⟩
      | list ds =>
        cases e
        obtain ⟨a, vs, rfl, r, f⟩ := z.list st1.sub
        exact ⟨_, .inl ⟨vs, SqL.of r, by rw [isEmpty_len f.length]⟩, fin⟩
      | tuple ds =>
        cases e
        obtain ⟨a, vs, rfl, r, f⟩ := z.tup
        exact ⟨_, .inr (.inl ⟨vs, Same.seqT st1.sub r, by rw [isEmpty_len f.length]⟩), fin⟩
      | dict _ => cases e⟩⟩
theorem pb_not {c : Ev → Out Bool} (h : PB X W a c) : PB X W (.UnaryOp .Not a pos) (bNot c) :=
  ⟨fun f0 h0 => (pt_not (h.run f0 h0)).imp fun σ H Q ⟨Hf, Γ, fr, st, p⟩ => ⟨Hf, Γ, fr, st, Post.bind p fun d Γ1 _ v H1 Hf1 s1 ⟨st1, e⟩ q => q (!v) H1 Hf1 (Same.refl _) ⟨st1, by rw [e]⟩⟩⟩
theorem pb_w {c : Ev → Out Bool} (h : PBw X W a c) : PB X W a c := ⟨fun f0 h0 => (h.run f0 h0).pt⟩
theorem pw_a1 {c : Ev → Out Bool} (h : PB X W a c) : PBw X W (.BoolOp .And [a] pos) c := ⟨fun f0 h0 => pw_and1 (h.run f0 h0)⟩
theorem pw_o1 {c : Ev → Out Bool} (h : PB X W a c) : PBw X W (.BoolOp .Or [a] pos) c := ⟨fun f0 h0 => pw_or1 (h.run f0 h0)⟩
theorem pw_a {c d : Ev → Out Bool} (h : PB X W a c) (k : PBw X W (.BoolOp .And (b :: rest) pos) d) : PBw X W (.BoolOp .And (a :: b :: rest) pos) (bAnd c d) :=
  ⟨fun f0 h0 => (pw_and (h.run f0 h0) (k.run f0 h0)).imp fun σ H Q ⟨Hf, Γ, fr, st, p⟩ => ⟨Hf, Γ, fr, st, Post.bind p fun c Γ1 _ v H1 Hf1 s1 ⟨st1, e⟩ q => by
    subst e
    cases v with
    | true => exact ⟨Hf1, Γ1, fr, st1, q⟩
    | false => exact q false H1 Hf1 (Same.refl _) ⟨st1, rfl⟩⟩⟩
theorem pw_o {c d : Ev → Out Bool} (h : PB X W a c) (k : PBw X W (.BoolOp .Or (b :: rest) pos) d) : PBw X W (.BoolOp .Or (a :: b :: rest) pos) (bOr c d) :=
  ⟨fun f0 h0 => (pw_or (h.run f0 h0) (k.run f0 h0)).imp fun σ H Q ⟨Hf, Γ, fr, st, p⟩ => ⟨Hf, Γ, fr, st, Post.bind p fun c Γ1 _ v H1 Hf1 s1 ⟨st1, e⟩ q => by
    subst e
    cases v with
    | true => exact q true H1 Hf1 (Same.refl _) ⟨st1, rfl⟩
    | false => exact ⟨Hf1, Γ1, fr, st1, q⟩⟩⟩
theorem pv_if {c : Expr} {t : Ev → Out Bool} {f f' : Ev → Out Va} (h : PB X W c t) (h1 : PV X W a f) (h2 : PV X W b f') : PV X W (.IfExp c a b pos) (vIf t f f') :=
  ⟨fun f0 h0 => (pe_ifExp (h.run f0 h0) (h1.run f0 h0) (h2.run f0 h0)).imp fun σ H Q ⟨Hf, Γ, fr, st, p⟩ => ⟨Hf, Γ, fr, st, Post.bind p fun c Γ1 _ v H1 Hf1 s1 ⟨st1, e⟩ q => by
    subst e
    cases v with
    | true => exact ⟨Hf1, Γ1, fr, st1, q⟩
    | false => exact ⟨Hf1, Γ1, fr, st1, q⟩⟩⟩
theorem pv_one {op} {f : Ev → Out Va} (h : PV X W a f) : PV X W (.BoolOp op [a] pos) f := ⟨fun f0 h0 => pe_one (h.run f0 h0)⟩
theorem pv_and {f : Ev → Out D} {f' : Ev → Out Va} (h : PF X W a f) (h2 : PV X W (.BoolOp .And (b :: rest) pos) f') : PV X W (.BoolOp .And (a :: b :: rest) pos) (vAnd f f') :=
  ⟨fun f0 h0 => (pe_and (h.run f0 h0) (h2.run f0 h0)).imp fun σ H Q ⟨Hf, Γ, fr, st, p⟩ => ⟨Hf, Γ, fr, st, Post.bind p fun d Γ1 _ v H1 Hf1 s1 ⟨st1, z⟩ q => by
    cases d with
    | bool c =>
      cases z
      cases c with
      | true => exact ⟨true, rfl, Hf1, Γ1, fr, st1, q⟩
      | false => exact ⟨false, rfl, q _ H1 Hf1 (Same.refl _) (st1.push (.bl false))⟩
    | _ => exact q.elim⟩⟩
theorem pv_or {f : Ev → Out D} {f' : Ev → Out Va} (h : PF X W a f) (h2 : PV X W (.BoolOp .Or (b :: rest) pos) f') : PV X W (.BoolOp .Or (a :: b :: rest) pos) (vOr f f') :=
  ⟨fun f0 h0 => (pe_or (h.run f0 h0) (h2.run f0 h0)).imp fun σ H Q ⟨Hf, Γ, fr, st, p⟩ => ⟨Hf, Γ, fr, st, Post.bind p fun d Γ1 _ v H1 Hf1 s1 ⟨st1, z⟩ q => by
    cases d with
    | bool c =>
      cases z
      cases c with
      | false => exact ⟨false, rfl, Hf1, Γ1, fr, st1, q⟩
      | true => exact ⟨true, rfl, q _ H1 Hf1 (Same.refl _) (st1.push (.bl true))⟩
    | _ => exact q.elim⟩⟩
theorem pf_not {f : Ev → Out D} (h : PF X W a f) : PF X W (.UnaryOp .Not a pos) (fNot f) :=
  ⟨fun f0 h0 => (pe_not (h.run f0 h0)).imp fun σ H Q ⟨Hf, Γ, fr, st, p⟩ => ⟨Hf, Γ, fr, st, Post.bind p fun d Γ1 _ v H1 Hf1 s1 ⟨st1, z⟩ q => by
    cases d with
    | bool c =>
      cases z
      exact ⟨c, rfl, q _ H1 Hf1 (Same.refl _) ⟨st1, .bl _⟩⟩
    | _ => exact q.elim⟩⟩
def fNeg (a : Ev → Out D) : Ev → Out D := fun Γ => (a Γ).bind fun d Γ1 => match d with | .int i => .ok (.int (-i)) Γ1 | _ => .st
theorem pf_neg {f : Ev → Out D} (h : PF X W a f) : PF X W (.UnaryOp .USub a pos) (fNeg f) :=
  ⟨fun f0 h0 => (pe_un un_neg (h.run f0 h0)).imp fun σ H Q ⟨Hf, Γ, fr, st, p⟩ => ⟨Hf, Γ, fr, st, Post.bind p fun d Γ1 _ v H1 Hf1 s1 ⟨st1, z⟩ q => by
    cases d with
    | int c =>
      cases z
      exact ⟨c, rfl, q _ H1 Hf1 (Same.refl _) ⟨st1, .int _⟩⟩
    | _ => exact q.elim⟩⟩
end

/-! ### slices -/
def cut {α : Type} (xs : List α) (lo hi : Option Int) : List α := (xs.drop (HT.sIx xs.length 0 lo)).take (HT.sIx xs.length xs.length hi - HT.sIx xs.length 0 lo)
theorem FzAll.cut {K : PySem.W.Frag} {H : Hp} {vs : List V} {ds : List D} (h : FzAll K H vs ds) (lo hi : Option Int) : FzAll K H (cutV vs lo hi) (cut ds lo hi) := by
  unfold cutV PV.cut
  rw [h.length]
  exact (h.drop _).take _
def dCut : D → Option Int → Option Int → Option Va
  | .list ds, lo, hi => some (.l .z, .list (cut ds lo hi))
  | .tuple ds, lo, hi => some (.z, .tuple (cut ds lo hi))
  | .str z, lo, hi => if z.length ≤ 16777216 then some (.z, .str (cutS z lo hi)) else none
  | _, _, _ => none
def fPN : Ev → Out (Option Int) := fun Γ => .ok none Γ
def fPS (f : Ev → Out D) : Ev → Out (Option Int) := fun Γ => (f Γ).bind fun d Γ1 => match d with | .int i => .ok (some i) Γ1 | _ => .st
def vCut (o : Opn) (a b : Ev → Out (Option Int)) : Ev → Out Va := fun Γ => (o.f Γ).bind fun d Γ1 => (a Γ1).bind fun lo Γ2 => (b Γ2).bind fun hi Γ3 => .of ((o.l Γ3 d).bind fun d => dCut d lo hi) Γ3
def RP (g : GW) (σ : St) (fr : List (V × Va)) : Hp → Hp → Option Int → Ev → Option Int → Prop := fun Hf H b Γ c => StOk g.h Hf H σ Γ fr ∧ c = b
structure PPo (X : Cx) (W : WX) (e : Option Expr) (f : Ev → Out (Option Int)) : Prop where
  run : ∀ f0 h0, PO X e fun σ H Q => ∃ Hf Γ fr, StOk (gh X W f0 h0).h Hf H σ Γ fr ∧ Post (gh X W f0 h0) σ fr (RP (gh X W f0 h0) σ fr) Hf Q (f Γ)
theorem _root_.L2.PO.imp {X : Cx} {e : Option Expr} {t t' : St → Hp → (Option Int → Hp → Prop) → Prop} (h : PO X e t) (k : ∀ σ H Q, t' σ H Q → t σ H Q) : PO X e t' := ⟨fun pins s σ H Q I q => h.run pins s σ H Q I (k σ H Q q)⟩
section
variable {X : Cx} {W : WX} {e : Expr} {lo hi : Option Expr} {pos p2 : Pos}
theorem pp_n : PPo X W none fPN := ⟨fun f0 h0 => po_none.imp fun σ H Q ⟨Hf, Γ, fr, st, p⟩ => p none H Hf (Same.refl _) ⟨st, rfl⟩⟩
theorem pp_s {f : Ev → Out D} (h : PF X W e f) : PPo X W (some e) (fPS f) := ⟨fun f0 h0 => (po_some (h.run f0 h0)).imp fun σ H Q ⟨Hf, Γ, fr, st, p⟩ => ⟨Hf, Γ, fr, st, Post.bind p fun d Γ1 _ v H1 Hf1 s1 ⟨st1, z⟩ q => by
    cases d with
    | int c =>
      cases z
      exact ⟨c, rfl, q _ H1 Hf1 (Same.refl _) ⟨st1, rfl⟩⟩
    | _ => exact q.elim⟩⟩
theorem pv_cut {o : Opn} {a b : Ev → Out (Option Int)} (h : PZ X W e o) (hl : PPo X W lo a) (hu : PPo X W hi b) : PV X W (.Subscript e (.Slice lo hi none p2) pos) (vCut o a b) :=
  ⟨fun f0 h0 => (pe_slice (sl_list.or (sl_tupA.or sl_str)) (h.run f0 h0) (hl.run f0 h0) (hu.run f0 h0)).imp fun σ H Q ⟨Hf, Γ, fr, st, p⟩ => ⟨Hf, Γ, fr, st, Post.bind p fun d Γ1 _ v H1 Hf1 s1 ⟨st1, l1⟩ q =>
    ⟨Hf1, Γ1, fr, st1, Post.bind q fun lo Γ2 _ lo' H2 Hf2 s2 ⟨st2, e2⟩ q => ⟨Hf2, Γ2, fr, st2, Post.bind q fun hi Γ3 _ hi' H3 Hf3 s3 ⟨st3, e3⟩ q => by
      subst e2 e3
      obtain ⟨z, e, q⟩ := Post.of q
      cases h : o.l Γ3 d with
      | none => rw [h] at e; cases e
      | some d' =>
        rw [h] at e
        have z1 := l1 Γ3 Hf3 H3 fr (s2.trans s3) st3 d' h
        have sb := st3.sub
        cases d' with
        | list ds =>
          cases e
          obtain ⟨a, vs, rfl, r, f⟩ := z1.list sb
          exact .inl ⟨a, vs, rfl, SqL.of r, fun p n => q _ _ Hf3 (Same.refl _) (st3.pushN (.lst sb n (f.cut _ _)))⟩
        | tuple ds =>
          cases e
          obtain ⟨a, vs, rfl, r, f⟩ := z1.tup
          refine .inr (.inl ⟨a, vs, rfl, Same.seqT sb r, fun w => ?_, fun w p n => ?_⟩)
          · have e : cut ds lo' hi' = ds := by
              unfold cut
              rw [← f.length, w.1, w.2]
              rw [List.drop_zero, Nat.sub_zero, f.length, List.take_length]
            rw [e] at q
            exact q _ H3 Hf3 (Same.refl _) (st3.push (.tup r f))
          · have nv := NewV.tup (K := X.K) sb n (f.cut lo' hi')
            exact q _ _ _ nv.f1 (st3.pushN nv)
        | str x =>
          change (if x.length ≤ 16777216 then _ else _) = _ at e
          split at e <;> cases e
          cases z1.str
          exact .inr (.inr ⟨x, rfl, by rw [sizeLine_eq]; assumption, q _ H3 Hf3 (Same.refl _) (st3.push (.str _))⟩)
        | _ => cases e⟩⟩⟩⟩
end

/-! ### isinstance -/
def tyD : D → String
  | .none => "NoneType"
  | .bool _ => "bool"
  | .int _ => "int"
  | .str _ => "str"
  | .list _ => "list"
  | .tuple _ => "tuple"
  | .dict _ => "dict"
def isB (t T : String) : Bool := t == T || (t == "bool" && T == "int")
def dIsi (T : String) (d : D) : Option D := match d with
  | .dict [(.none, _)] => none
  | d => some (.bool (isB (tyD d) T))
def fIsi (T : String) (o : Opn) : Ev → Out D := fun Γ => (o.f Γ).bind fun d Γ1 => .of ((o.l Γ1 d).bind (dIsi T)) Γ1
theorem Fz1.ty {K : PySem.W.Frag} {Hf H : Hp} {v : V} {d : D} (s : Same Hf H) (h : Fz1 K Hf H v d) (hd : ∀ x, d ≠ .dict [(.none, x)]) : TyX K H v (.type (tyD d)) := by
  rcases h with h | ⟨a, vs, ds, rfl, rfl, h, r⟩
  · cases h with
    | non => exact .base .non
    | bl b => exact .base (.bl b)
    | int i => exact .base (.int i)
    | str x => exact .base (.str x)
    | lst h r => exact .base (.lst (s _ _ h))
    | scr ns h => exact absurd rfl (hd _)
    | tup h r =>
      rcases h with (h | ⟨o, h⟩) | ⟨o, its, n, hk, hc, _⟩
      · exact .base (.tup (s _ _ h))
      · exact .fTuple (s _ _ h)
      · exact .kTuple hk hc
    | dK h r => exact .base (.dK (s _ _ h))
  · exact .base (.lst h)
section
variable {X : Cx} {W : WX} {a : Expr} {x T : Str} {p p2 pos : Pos}
theorem pf_isi {T : String} {o : Opn} {y : Str} (hg : Gl X x) (hm : X.mg x = none) (hv : bootBuiltins x = some (.builtin "isinstance")) (h : PZ X W a o) (hg2 : Gl X y) (hm2 : X.mg y = none) (hv2 : bootBuiltins y = some (.type T))
    (hk : ∀ t ∈ ["NoneType", "bool", "int", "str", "list", "tuple", "dict"], PySem.W.kitOne X.K (.type t) (.type T) = some (isB t T))
    (hn : x ≠ "__name__" := by decide) (hdb : (x == ("__debug__" : Str)) = false := by decide) (hn2 : y ≠ "__name__" := by decide) (hdb2 : (y == ("__debug__" : Str)) = false := by decide)
    (he : starEach [a, .Name y p2] X.env = (false, eval a X.env) :: starEach [.Name y p2] X.env := by rfl) (hpl : (backTo pos (starEach [.Name y p2] X.env)).any (·.1) = false := by rfl)
    (he2 : starEach [.Name y p2] X.env = (false, eval (.Name y p2) X.env) :: starEach [] X.env := by rfl) : PF X W (.Call (.Name x p) [a, .Name y p2] [] pos) (fIsi T o) :=
  ⟨fun f0 h0 => (pe_callB call_isi hg hm hv (pa_cons (h.run f0 h0) (pa_cons (pe_bltn hg2 hm2 hv2 (v := .ty T) rfl hn2 hdb2) pa_nil he2) he) hn hdb he hpl).imp fun σ H Q ⟨Hf, Γ, fr, st, p⟩ => ⟨Hf, Γ, fr, st, Post.bind p fun d Γ1 _ v H1 Hf1 s1 ⟨st1, l1⟩ q => by
    obtain ⟨c, e, q⟩ := Post.of q
    cases h : o.l Γ1 d with
    | none => rw [h] at e; cases e
    | some d' =>
      rw [h] at e
      have z := l1 Γ1 Hf1 H1 fr (Same.refl _) st1 d' h
      have e1 : (∀ x, d' ≠ .dict [(.none, x)]) ∧ c = .bool (isB (tyD d') T) := by
        change dIsi T d' = some c at e
        unfold dIsi at e
        split at e
        · cases e
        · rename_i hx
          cases e
          exact ⟨fun x z => hx x z, rfl⟩
      obtain ⟨e1, rfl⟩ := e1
      refine ⟨v, .ty T, .type (tyD d'), .type T, isB (tyD d') T, rfl, .ty T, z.ty st1.sub e1, hk _ ?_, q _ H1 Hf1 (Same.refl _) ⟨st1, .bl _⟩⟩
      cases d' <;> simp [tyD]⟩⟩
end

/-! ### methods of a list that stands at a slot -/
def MtS (K : PySem.W.Frag) (r : V → List V → Hp → VK → Prop) (op : List D → List D → Option (D × List D)) : Prop := ∀ (Hf H : Hp) (l : Addr) (vs : List V) (ds : List D) (xs : List V) (args : List D) (d : D) (ds' : List D) (Q : VK), H l = some (.lst vs) → FzAll K Hf vs ds → FzAll K Hf xs args →
  op ds args = some (d, ds') → (∀ v vs', FzAll K Hf vs' ds' → Fz K Hf v d → Q v (upd H l (.lst vs'))) → r (.ref l) xs H Q
def fMt (i : Nat) (op : List D → List D → Option (D × List D)) (fs : Ev → Out (List D)) : Ev → Out D := fun Γ => match Γ[i]? with
  | some (some (.l .z, .list _)) => (fs Γ).bind fun args Γ1 => (match Γ1[i]? with
    | some (some (.l .z, .list ds)) => (match op ds args with | some (d, ds') => .ok d (Γ1.set i (some (.l .z, .list ds'))) | none => .st)
    | _ => .st)
  | _ => .st
/-- the owned list of frozen items at a slot -/
theorem StOk.getLz {g : Gh} {Hf H : Hp} {σ : St} {Γ : Ev} {fr : List (V × Va)} {i : Nat} {ds : List D} (h : StOk g Hf H σ Γ fr) (hi : Γ[i]? = some (some (.l .z, .list ds))) : ∃ a vs, σ[i]? = some (some (.ref a)) ∧ H a = some (.lst vs) ∧ FzAll g.K Hf vs ds := by
  obtain ⟨ω, h⟩ := h
  obtain ⟨v, e, A, o, _⟩ := h.slots i _ hi
  obtain ⟨a, vs, ds', B, e1, e2, e3, r, e4⟩ := o
  cases e2
  subst e1
  exact ⟨a, vs, e, e3, r.zs.2⟩
section
variable {X : Cx} {W : WX} {e : Expr} {es : List Expr} {x name : Str} {p apos cpos : Pos} {id : String} {r : V → List V → Hp → VK → Prop} {op : List D → List D → Option (D × List D)} {fs : Ev → Out (List D)}
theorem mt_core {g : GW} (hs : MtS g.h.K r op) {i : Nat} {σ : St} {H : Hp} {Q : VK} (h : tF g (fMt i op fs) σ H Q) : tVar i σ H fun x H1 => tyV g.h.K "list" x H1 ∧ tFs g fs σ H1 fun xs H2 => r x xs H2 Q := by
  obtain ⟨Hf, Γ, fr, st, p⟩ := h
  unfold fMt at p
  split at p
  · rename_i ds0 hΓ
    obtain ⟨a, vs, e1, e2, _⟩ := st.getLz hΓ
    refine ⟨.ref a, e1, .inl ⟨rfl, vs, SqL.of e2⟩, Hf, Γ, fr, st, Post.bind p fun args Γ1 _ xs H1 Hf1 s1 ⟨st1, l1⟩ q => ?_⟩
    split at q
    · rename_i ds hΓ1
      obtain ⟨a', vs1, e3, e4, f4⟩ := st1.getLz hΓ1
      rw [e1] at e3
      cases e3
      split at q
      · rename_i d ds' ho
        exact hs Hf1 H1 a vs1 ds xs args d ds' Q e4 f4 l1 ho fun v vs' z1 z2 => q v _ Hf1 (Same.refl _) ⟨st1.mut hΓ1 e1 z1, z2⟩
      · exact q.elim
    · exact q.elim
  · exact p.elim
theorem pf_mt (i : Nat) (pa : PlainAttrs "list") (slot : Slot "list" name id) (hty : typeOf (.builtin id) = pure (.type "method_descriptor")) (hm : MtR X id r) (hs : MtS X.K r op) (ha : PFs X W (e :: es) fs)
    (hN : X.N[i]? = some x := by rfl) (hv : Vis X.env.scope x := by first | exact Or.inl rfl | exact Or.inr (Or.inl rfl) | exact Or.inr (Or.inr rfl)) (hd : (x == ("__debug__" : Str)) = false := by decide)
    (hcd : (x == ("__classdict__" : Str)) = false := by decide) (hbase : attributeBase (.Name x p) name X.env (eval (.Name x p) X.env) = eval (.Name x p) X.env := by rfl)
    (hfew : ((backTo cpos (starEach (e :: es) X.env)).all (fun x => !x.1) && (backToKw cpos (keywordEach [] X.env)).all (fun x => x.1.isSome) && decide ((e :: es).length + ([] : List Keyword).length + (if ([] : List Keyword).isEmpty then 0 else 1) < 30)) = true := by rfl)
    (hline : (apos.endLine == cpos.line) = true := by rfl) (hst : starEach (e :: es) X.env = (false, eval e X.env) :: starEach es X.env := by rfl) (hplain : (backTo cpos (starEach es X.env)).any (·.1) = false := by rfl) :
    PF X W (.Call (.Attribute (.Name x p) name apos) (e :: es) [] cpos) (fMt i op fs) :=
  ⟨fun f0 h0 => (pe_bm pa slot hty hm (pe_var hN hv hd hcd) (ha.run f0 h0) hbase hfew hline hst hplain).imp fun σ H Q h => mt_core (g := gh X W f0 h0) hs h⟩
theorem pf_mt0 (i : Nat) (pa : PlainAttrs "list") (slot : Slot "list" name id) (hty : typeOf (.builtin id) = pure (.type "method_descriptor")) (hm : MtR X id r) (hs : MtS X.K r op)
    (hN : X.N[i]? = some x := by rfl) (hv : Vis X.env.scope x := by first | exact Or.inl rfl | exact Or.inr (Or.inl rfl) | exact Or.inr (Or.inr rfl)) (hd : (x == ("__debug__" : Str)) = false := by decide)
    (hcd : (x == ("__classdict__" : Str)) = false := by decide) (hbase : attributeBase (.Name x p) name X.env (eval (.Name x p) X.env) = eval (.Name x p) X.env := by rfl) (hline : (apos.endLine == cpos.line) = true := by rfl) :
    PF X W (.Call (.Attribute (.Name x p) name apos) [] [] cpos) (fMt i op fsN) :=
  ⟨fun f0 h0 => (pe_bm0 pa slot hty hm (pe_var hN hv hd hcd) hbase hline).imp fun σ H Q h => by
    obtain ⟨v, e, ty, Hf, Γ, fr, st, p⟩ := mt_core (g := gh X W f0 h0) hs h
    exact ⟨v, e, ty, p [] H Hf (Same.refl _) ⟨st, .nil⟩⟩⟩
end
/-! the list's own methods -/
def mAppend : List D → List D → Option (D × List D)
  | ds, [d] => if ds.length < 16777216 then some (.none, ds ++ [d]) else none
  | _, _ => none
def mPop0 : List D → List D → Option (D × List D)
  | ds, [] => (ds[ds.length - 1]?).map fun d => (d, ds.dropLast)
  | _, _ => none
def mPop : List D → List D → Option (D × List D)
  | ds, [.int i] => if -(2 ^ 63) ≤ i ∧ i < 2 ^ 63 then ((seqIndex? i ds.length).bind fun k => (ds[k]?).map fun d => (d, ds.eraseIdx k)) else none
  | _, _ => none
def mReverse : List D → List D → Option (D × List D)
  | ds, [] => some (.none, ds.reverse)
  | _, _ => none
def mClear : List D → List D → Option (D × List D)
  | ds, [] => some (.none, [])
  | _, _ => none
def mInsert : List D → List D → Option (D × List D)
  | ds, [.int i, d] => if ds.length < 16777216 ∧ 0 ≤ i ∧ i < 2 ^ 63 then some (.none, ds.take i.toNat ++ [d] ++ ds.drop i.toNat) else none
  | _, _ => none
def mExtend : List D → List D → Option (D × List D)
  | ds, [.list es] => if ds.length + es.length ≤ 16777216 then some (.none, ds ++ es) else none
  | _, _ => none
section
variable {K : PySem.W.Frag}
theorem FzAll.one {H : Hp} {xs : List V} {d : D} (h : FzAll K H xs [d]) : ∃ v, xs = [v] ∧ Fz K H v d := by
  cases h with
  | cons h r => cases r; exact ⟨_, rfl, h⟩
theorem FzAll.two {H : Hp} {xs : List V} {d e : D} (h : FzAll K H xs [d, e]) : ∃ v w, xs = [v, w] ∧ Fz K H v d ∧ Fz K H w e := by
  cases h with
  | cons h r =>
    cases r with
    | cons h2 r2 => cases r2; exact ⟨_, _, rfl, h, h2⟩
theorem FzAll.zero {H : Hp} {xs : List V} (h : FzAll K H xs []) : xs = [] := by cases h; rfl
theorem FzAll.dropLast {H : Hp} {vs : List V} {ds : List D} (h : FzAll K H vs ds) : FzAll K H vs.dropLast ds.dropLast := by
  rw [List.dropLast_eq_take, List.dropLast_eq_take, h.length]
  exact h.take _
theorem ms_append : MtS K rAppend mAppend := fun Hf H l vs ds xs args d ds' Q h f fa e q => by
  unfold mAppend at e
  split at e
  · split at e <;> cases e
    obtain ⟨v, rfl, z⟩ := fa.one
    exact ⟨l, vs, v, rfl, rfl, h, by rw [f.length, sizeLine_eq]; assumption, q _ _ (f.append (.cons z .nil)) .non⟩
  · cases e
theorem ms_pop0 : MtS K rPop mPop0 := fun Hf H l vs ds xs args d ds' Q h f fa e q => by
  unfold mPop0 at e
  split at e
  · cases h2 : ds[ds.length - 1]? with
    | none => rw [h2] at e; cases e
    | some d0 =>
      rw [h2] at e
      cases e
      obtain ⟨v, e1, z⟩ := f.get h2
      exact ⟨l, vs, v, rfl, fa.zero, h, by rw [f.length]; exact e1, q _ _ f.dropLast z⟩
  · cases e
theorem ms_pop : MtS K rPopAt mPop := fun Hf H l vs ds xs args d ds' Q h f fa e q => by
  unfold mPop at e
  split at e
  · rename_i i
    split at e
    · rename_i c
      cases h1 : seqIndex? i ds.length with
      | none => rw [h1] at e; cases e
      | some k =>
        rw [h1] at e
        cases h2 : ds[k]? with
        | none =>
          have e' : (ds[k]?).map (fun d => (d, ds.eraseIdx k)) = some (d, ds') := e
          rw [h2] at e'; cases e'
        | some d0 =>
          have e' : (ds[k]?).map (fun d => (d, ds.eraseIdx k)) = some (d, ds') := e
          rw [h2] at e'
          cases e'
          obtain ⟨w, rfl, zi⟩ := fa.one
          cases zi
          obtain ⟨v, e1, z⟩ := f.get h2
          exact ⟨l, vs, i, k, v, rfl, rfl, h, c.1, c.2, by rw [f.length]; exact h1, e1, q _ _ (f.eraseIdx k) z⟩
    · cases e
  · cases e
theorem ms_reverse : MtS K rReverse mReverse := fun Hf H l vs ds xs args d ds' Q h f fa e q => by
  unfold mReverse at e
  split at e
  · cases e
    exact ⟨l, vs, rfl, fa.zero, h, q _ _ f.reverse .non⟩
  · cases e
theorem ms_clear : MtS K rClear mClear := fun Hf H l vs ds xs args d ds' Q h f fa e q => by
  unfold mClear at e
  split at e
  · cases e
    exact ⟨l, vs, rfl, fa.zero, h, q _ _ .nil .non⟩
  · cases e
def rInsert : V → List V → Hp → VK → Prop := fun x vs H Q => ∃ (l : Addr) (xs : List V) (i : Int) (y : V), x = .ref l ∧ vs = [.int i, y] ∧ H l = some (.lst xs) ∧ xs.length < sizeLine ∧ 0 ≤ i ∧ i < 2 ^ 63 ∧ Q .non (upd H l (.lst (xs.take i.toNat ++ [y] ++ xs.drop i.toNat)))
theorem mt_insertV {X : Cx} : MtR X "list.insert" rInsert := mt_insert
theorem ms_insert : MtS K rInsert mInsert := fun Hf H l vs ds xs args d ds' Q h f fa e q => by
  unfold mInsert at e
  split at e
  · split at e <;> cases e
    rename_i c
    obtain ⟨v, w, rfl, z1, z2⟩ := fa.two
    cases z1
    exact ⟨l, vs, _, w, rfl, rfl, h, by rw [f.length, sizeLine_eq]; exact c.1, c.2.1, c.2.2, q _ _ (((f.take _).append (.cons z2 .nil)).append (f.drop _)) .non⟩
  · cases e
end
end PV
namespace PV
open PySem PySem.Spec PyProof.Rows L2

/-! ### what is walked -/
/-- the walk J gives the data ds, item by item -/
def ItOk (K : PySem.W.Frag) (Hf : Hp) (J : It) (ds : List D) : Prop := ∀ i Hf1 H, Same Hf Hf1 → Same Hf1 H →
  (∀ d, ds[i]? = some d → J.go i H ∧ ∀ x H', J.yld i H x H' → ∃ Hf', Same H H' ∧ Same Hf1 Hf' ∧ Same Hf' H' ∧ (∀ a, Hf' a ≠ none → Hf1 a ≠ none ∨ H a = none) ∧ Fz K Hf' x d) ∧ (ds[i]? = none → J.stop i H)
def RI (g : GW) (σ : St) (fr : List (V × Va)) : Hp → Hp → List D → Ev → It → Prop := fun Hf H ds Γ J => StOk g.h Hf H σ Γ fr ∧ ItOk g.h.K Hf J ds
def tI (g : GW) (f : Ev → Out (List D)) : TI := fun σ H R => ∃ Hf Γ fr, StOk g.h Hf H σ Γ fr ∧ Post g σ fr (RI g σ fr) Hf R (f Γ)
structure PIt (X : Cx) (W : WX) (tg e : Expr) (f : Ev → Out (List D)) : Prop where
  run : ∀ f0 h0, PI X tg e (tI (gh X W f0 h0) f)
theorem _root_.L2.PI.imp {X : Cx} {tg e : Expr} {t t' : TI} (h : PI X tg e t) (k : ∀ σ H R, t' σ H R → t σ H R) : PI X tg e t' := ⟨fun pins s σ H R I q => h.run pins s σ H R I (k σ H R q)⟩
def iL (f : Ev → Out D) : Ev → Out (List D) := fun Γ => (f Γ).bind fun d Γ1 => match d with | .list ds => .ok ds Γ1 | _ => .st
def iT (f : Ev → Out D) : Ev → Out (List D) := fun Γ => (f Γ).bind fun d Γ1 => match d with | .tuple ds => .ok ds Γ1 | _ => .st
def rangeL (lo : Int) (n : Nat) : List D := (List.range n).map fun (k : Nat) => .int (lo + (k : Int))
def iR1 (fs : Ev → Out (List D)) : Ev → Out (List D) := fun Γ => (fs Γ).bind fun ds Γ1 => match ds with | [.int j] => if j < 2 ^ 62 ∧ -(2 ^ 62) ≤ j then .ok (rangeL 0 j.toNat) Γ1 else .st | _ => .st
def iR2 (fs : Ev → Out (List D)) : Ev → Out (List D) := fun Γ => (fs Γ).bind fun ds Γ1 => match ds with | [.int i, .int j] => if (j < 2 ^ 62 ∧ -(2 ^ 62) ≤ j) ∧ i < 2 ^ 62 ∧ -(2 ^ 62) ≤ i then .ok (rangeL i (j - i).toNat) Γ1 else .st | _ => .st
def enumL (ds : List D) : List D := ds.zipIdx.map fun p => .tuple [.int (p.2 : Nat), p.1]
def iEn (fs : Ev → Out (List D)) : Ev → Out (List D) := fun Γ => (fs Γ).bind fun ds Γ1 => match ds with | [.list es] => .ok (enumL es) Γ1 | _ => .st
def zipL (xs ys : List D) : List D := (xs.zip ys).map fun p => .tuple [p.1, p.2]
def iZp (fs : Ev → Out (List D)) : Ev → Out (List D) := fun Γ => (fs Γ).bind fun ds Γ1 => match ds with | [.list xs, .list ys] => .ok (zipL xs ys) Γ1 | _ => .st
section
variable {X : Cx} {W : WX} {tg e : Expr} {p pos : Pos}
theorem itok_list {K : PySem.W.Frag} {Hf : Hp} {a : Addr} {vs : List V} {ds : List D} (h : Hf a = some (.lst vs)) (f : FzAll K Hf vs ds) : ItOk K Hf (Itl K a) ds := fun i Hf1 H s1 s2 => by
  have hH := s2 _ _ (s1 _ _ h)
  refine ⟨fun d e => ?_, fun e => ⟨vs, SqL.of hH, ?_⟩⟩
  · obtain ⟨v, e1, z⟩ := f.get e
    refine ⟨⟨vs, v, SqL.of hH, e1⟩, fun x H' y => ?_⟩
    obtain ⟨rfl, y⟩ := y
    have e2 := y vs (SqL.of hH)
    rw [e1] at e2
    cases e2
    exact ⟨Hf1, Same.refl _, Same.refl _, s2, fun _ n => .inl n, z.mono s1⟩
  · rw [f.length]
    exact List.getElem?_eq_none_iff.mp e
theorem itok_tup {K : PySem.W.Frag} {Hf : Hp} {a : Addr} {vs : List V} {ds : List D} (h : SqT K Hf a vs) (f : FzAll K Hf vs ds) : ItOk K Hf (Itt K a) ds := fun i Hf1 H s1 s2 => by
  have hH := Same.seqT s2 (Same.seqT s1 h)
  refine ⟨fun d e => ?_, fun e => ⟨vs, hH, ?_⟩⟩
  · obtain ⟨v, e1, z⟩ := f.get e
    refine ⟨⟨vs, v, hH, e1⟩, fun x H' y => ?_⟩
    obtain ⟨rfl, y⟩ := y
    have e2 := y vs hH
    rw [e1] at e2
    cases e2
    exact ⟨Hf1, Same.refl _, Same.refl _, s2, fun _ n => .inl n, z.mono s1⟩
  · rw [f.length]
    exact List.getElem?_eq_none_iff.mp e
theorem itok_range {K : PySem.W.Frag} {Hf : Hp} (lo : Int) (n : Nat) : ItOk K Hf (Itr lo n) (rangeL lo n) := fun i Hf1 H s1 s2 => by
  refine ⟨fun d e => ?_, fun e => ?_⟩
  · unfold rangeL at e
    rw [List.getElem?_map] at e
    by_cases c : i < n
    · rw [List.getElem?_range c] at e
      cases e
      refine ⟨c, fun x H' y => ?_⟩
      obtain ⟨rfl, rfl⟩ := y
      exact ⟨Hf1, Same.refl _, Same.refl _, s2, fun _ n => .inl n, .int _⟩
    · rw [List.getElem?_eq_none (by simpa using c)] at e
      cases e
  · have := List.getElem?_eq_none_iff.mp e
    rw [show (rangeL lo n).length = n by simp [rangeL]] at this
    exact this
theorem itok_enum {K : PySem.W.Frag} {Hf : Hp} {a : Addr} {vs : List V} {ds : List D} (h : Hf a = some (.lst vs)) (f : FzAll K Hf vs ds) : ItOk K Hf (Ite K a) (enumL ds) := fun i Hf1 H s1 s2 => by
  have hH := s2 _ _ (s1 _ _ h)
  refine ⟨fun d e => ?_, fun e => ⟨vs, SqL.of hH, ?_⟩⟩
  · unfold enumL at e
    rw [List.getElem?_map, List.getElem?_zipIdx] at e
    cases e0 : ds[i]? with
    | none => rw [e0] at e; cases e
    | some d0 =>
      rw [e0] at e
      obtain ⟨v, e1, z⟩ := f.get e0
      refine ⟨⟨vs, v, SqL.of hH, e1⟩, fun x H' y => ?_⟩
      obtain ⟨T, x', rfl, nT, rfl, y⟩ := y
      have e2 := y vs (SqL.of hH)
      rw [e1] at e2
      cases e2
      have nv := NewV.tup (K := K) (vs := [.int (i : Nat), v]) (ds := [.int (i : Nat), d0]) s2 nT (.cons (.int _) (.cons (z.mono s1) .nil))
      have e3 : PyData.tuple [.int (i : Nat), d0] = d := by
        have e' : some (PyData.tuple [.int ((0 + i : Nat) : Int), d0]) = some d := e
        rw [Nat.zero_add] at e'
        exact Option.some.inj e'
      subst e3
      obtain ⟨A, o, _⟩ := nv.o
      exact ⟨_, nv.s, nv.f1, nv.f2, nv.f3, o.2⟩
  · rw [f.length]
    have := List.getElem?_eq_none_iff.mp e
    simpa [enumL] using this
theorem itok_zip {K : PySem.W.Frag} {Hf : Hp} {a b : Addr} {vs ws : List V} {ds es : List D} (h : Hf a = some (.lst vs)) (f : FzAll K Hf vs ds) (h' : Hf b = some (.lst ws)) (f' : FzAll K Hf ws es) : ItOk K Hf (Itz K a b) (zipL ds es) := fun i Hf1 H s1 s2 => by
  have hH := s2 _ _ (s1 _ _ h)
  have hH' := s2 _ _ (s1 _ _ h')
  refine ⟨fun d e => ?_, fun e => ⟨vs, ws, SqL.of hH, SqL.of hH', ?_⟩⟩
  · unfold zipL at e
    rw [List.getElem?_map] at e
    cases e0 : (ds.zip es)[i]? with
    | none => rw [e0] at e; cases e
    | some p =>
      rw [e0] at e
      obtain ⟨ea, eb⟩ := List.getElem?_zip_eq_some.mp e0
      obtain ⟨v, e1, z⟩ := f.get ea
      obtain ⟨w, e1', z'⟩ := f'.get eb
      refine ⟨⟨vs, ws, v, w, SqL.of hH, SqL.of hH', e1, e1'⟩, fun x H' y => ?_⟩
      obtain ⟨T, x', y', rfl, nT, rfl, y, yy⟩ := y
      have e2 := y vs (SqL.of hH)
      rw [e1] at e2
      cases e2
      have e2' := yy ws (SqL.of hH')
      rw [e1'] at e2'
      cases e2'
      have nv := NewV.tup (K := K) (vs := [v, w]) (ds := [p.1, p.2]) s2 nT (.cons (z.mono s1) (.cons (z'.mono s1) .nil))
      cases e
      obtain ⟨A, o, _⟩ := nv.o
      exact ⟨_, nv.s, nv.f1, nv.f2, nv.f3, o.2⟩
  · rw [f.length, f'.length]
    have := List.getElem?_eq_none_iff.mp e
    unfold zipL at this
    rw [List.length_map, List.length_zip] at this
    omega
theorem pi_l {f : Ev → Out D} (h : PF X W e f) : PIt X W tg e (iL f) := ⟨fun f0 h0 => (pi_list (h.run f0 h0)).imp fun σ H R ⟨Hf, Γ, fr, st, p⟩ => ⟨Hf, Γ, fr, st, Post.bind p fun d Γ1 _ v H1 Hf1 s1 ⟨st1, z⟩ q => by
  cases d with
  | list ds =>
    cases z with
    | lst h f => exact ⟨_, rfl, ⟨_, SqL.of (st1.sub _ _ h)⟩, q _ H1 Hf1 (Same.refl _) ⟨st1, itok_list h f⟩⟩
  | _ => exact q.elim⟩⟩
theorem pi_t {f : Ev → Out D} (h : PF X W e f) : PIt X W tg e (iT f) := ⟨fun f0 h0 => (pi_tup (h.run f0 h0)).imp fun σ H R ⟨Hf, Γ, fr, st, p⟩ => ⟨Hf, Γ, fr, st, Post.bind p fun d Γ1 _ v H1 Hf1 s1 ⟨st1, z⟩ q => by
  cases d with
  | tuple ds =>
    cases z with
    | tup h f => exact ⟨_, rfl, ⟨_, Same.seqT st1.sub h⟩, q _ H1 Hf1 (Same.refl _) ⟨st1, itok_tup h f⟩⟩
  | _ => exact q.elim⟩⟩
theorem pi_r1 {a : Expr} {fs : Ev → Out (List D)} (hg : Gl X "range") (hm : X.mg "range" = none) (h : PFs X W [a] fs) (hs : starEach [a] X.env = [(false, eval a X.env)] := by rfl) : PIt X W tg (.Call (.Name "range" p) [a] [] pos) (iR1 fs) :=
  ⟨fun f0 h0 => (pi_range1 hg hm (h.run f0 h0) hs).imp fun σ H R ⟨Hf, Γ, fr, st, p⟩ => ⟨Hf, Γ, fr, st, Post.bind p fun ds Γ1 _ vs H1 Hf1 s1 ⟨st1, z⟩ q => by
    split at q
    · split at q
      · rename_i c
        obtain ⟨v, rfl, zz⟩ := z.one
        cases zz
        exact ⟨_, rfl, c.2, c.1, q _ H1 Hf1 (Same.refl _) ⟨st1, itok_range 0 _⟩⟩
      · exact q.elim
    · exact q.elim⟩⟩
theorem pi_r2 {a b : Expr} {fs : Ev → Out (List D)} (hg : Gl X "range") (hm : X.mg "range" = none) (h : PFs X W [a, b] fs) (hs : starEach [a, b] X.env = [(false, eval a X.env), (false, eval b X.env)] := by rfl) (hs2 : starEach [b] X.env = [(false, eval b X.env)] := by rfl) :
    PIt X W tg (.Call (.Name "range" p) [a, b] [] pos) (iR2 fs) :=
  ⟨fun f0 h0 => (pi_range2 hg hm (h.run f0 h0) hs hs2).imp fun σ H R ⟨Hf, Γ, fr, st, p⟩ => ⟨Hf, Γ, fr, st, Post.bind p fun ds Γ1 _ vs H1 Hf1 s1 ⟨st1, z⟩ q => by
    split at q
    · split at q
      · rename_i c
        obtain ⟨v, w, rfl, z1, z2⟩ := z.two
        cases z1
        cases z2
        exact ⟨_, _, rfl, ⟨c.2.2, c.2.1, c.1.2, c.1.1⟩, q _ H1 Hf1 (Same.refl _) ⟨st1, itok_range _ _⟩⟩
      · exact q.elim
    · exact q.elim⟩⟩
theorem pi_en {a : Expr} {elts : List Expr} {kk : Nat} {tpos : Pos} {fs : Ev → Out (List D)} (hg : Gl X "enumerate") (hm : X.mg "enumerate" = none) (h : PFs X W [a] fs) (hs : starEach [a] X.env = [(false, eval a X.env)] := by rfl) :
    PIt X W (.Tuple elts kk tpos) (.Call (.Name "enumerate" p) [a] [] pos) (iEn fs) :=
  ⟨fun f0 h0 => (pi_enum hg hm (h.run f0 h0) hs).imp fun σ H R ⟨Hf, Γ, fr, st, p⟩ => ⟨Hf, Γ, fr, st, Post.bind p fun ds Γ1 _ vs H1 Hf1 s1 ⟨st1, z⟩ q => by
    split at q
    · obtain ⟨v, rfl, zz⟩ := z.one
      cases zz with
      | lst h f => exact ⟨_, _, rfl, SqL.of (st1.sub _ _ h), q _ H1 Hf1 (Same.refl _) ⟨st1, itok_enum h f⟩⟩
    · exact q.elim⟩⟩
theorem pi_zp {a b : Expr} {elts : List Expr} {kk : Nat} {tpos : Pos} {fs : Ev → Out (List D)} (hg : Gl X "zip") (hm : X.mg "zip" = none) (h : PFs X W [a, b] fs) (hs : starEach [a, b] X.env = (false, eval a X.env) :: starEach [b] X.env := by rfl) (hpl : (backTo pos (starEach [b] X.env)).any (·.1) = false := by rfl) :
    PIt X W (.Tuple elts kk tpos) (.Call (.Name "zip" p) [a, b] [] pos) (iZp fs) :=
  ⟨fun f0 h0 => (pi_zip hg hm (h.run f0 h0) hs hpl).imp fun σ H R ⟨Hf, Γ, fr, st, p⟩ => ⟨Hf, Γ, fr, st, Post.bind p fun ds Γ1 _ vs H1 Hf1 s1 ⟨st1, z⟩ q => by
    split at q
    · obtain ⟨v, w, rfl, z1, z2⟩ := z.two
      cases z1 with
      | lst h f =>
        cases z2 with
        | lst h' f' => exact ⟨_, _, _, _, rfl, SqL.of (st1.sub _ _ h), SqL.of (st1.sub _ _ h'), q _ H1 Hf1 (Same.refl _) ⟨st1, itok_zip h f h' f'⟩⟩
    · exact q.elim⟩⟩
end

/-! ### targets -/
def tG (g : GW) (is : List Nat) (t : D → Ev → Option Ev) : TG := fun v σ H Q => ∃ Hf Γ fr d, StOk g.h Hf H σ Γ fr ∧ Fz g.h.K Hf v d ∧ ∃ Γ', t d Γ = some Γ' ∧ ∀ σ' H' Hf', Same Hf Hf' → StOk g.h Hf' H' σ' Γ' fr → wipe σ' is = wipe σ is → Q σ' H'
def tGs (g : GW) (is : List Nat) (t : List D → Ev → Option Ev) : TGs := fun vs σ H Q => ∃ Hf Γ fr ds, StOk g.h Hf H σ Γ fr ∧ FzAll g.h.K Hf vs ds ∧ ∃ Γ', t ds Γ = some Γ' ∧ ∀ σ' H' Hf', Same Hf Hf' → StOk g.h Hf' H' σ' Γ' fr → wipe σ' is = wipe σ is → Q σ' H'
structure PGt (X : Cx) (tg : Expr) (is : List Nat) (t : D → Ev → Option Ev) : Prop where
  run : ∀ g : GW, g.h.K = X.K → PG X tg (tG g is t)
structure PGts (X : Cx) (tgs : List Expr) (is : List Nat) (t : List D → Ev → Option Ev) : Prop where
  len : ∀ ds Γ Γ', t ds Γ = some Γ' → ds.length = tgs.length
  run : ∀ g : GW, g.h.K = X.K → PGs X tgs (tGs g is t)
theorem _root_.L2.PG.imp {X : Cx} {tg : Expr} {t t' : TG} (h : PG X tg t) (k : ∀ v σ H Q, t' v σ H Q → t v σ H Q) : PG X tg t' := ⟨fun pins s σ H v u Q I r q => h.run pins s σ H v u Q I r (k v σ H Q q)⟩
theorem _root_.L2.PGs.imp {X : Cx} {tg : List Expr} {t t' : TGs} (h : PGs X tg t) (k : ∀ v σ H Q, t' v σ H Q → t v σ H Q) : PGs X tg t' := ⟨fun pins s σ H v u Q I r q => h.run pins s σ H v u Q I r (k v σ H Q q)⟩
def gN (i : Nat) : D → Ev → Option Ev := fun d Γ => some (Γ.set i (some (.z, d)))
def gsN : List D → Ev → Option Ev := fun ds Γ => match ds with | [] => some Γ | _ => none
def gsC (t : D → Ev → Option Ev) (u : List D → Ev → Option Ev) : List D → Ev → Option Ev := fun ds Γ => match ds with | d :: r => (t d Γ).bind (u r) | [] => none
def gT (u : List D → Ev → Option Ev) : D → Ev → Option Ev := fun d Γ => match d with | .tuple ds => u ds Γ | _ => none
section
variable {X : Cx} {pos : Pos}
theorem wipe_set {σ : St} {i : Nat} {v : Option V} : ∀ {is : List Nat}, i ∈ is → wipe (σ.set i v) is = wipe σ is
  | j :: js, h => by
    unfold wipe
    by_cases e : i = j
    · subst e
      by_cases hj : i ∈ js
      · rw [wipe_set hj]
      · have : ∀ {js : List Nat}, i ∉ js → (wipe (σ.set i v) js) = (wipe σ js).set i v := fun {js} hj => by
          induction js with
          | nil => rfl
          | cons k ks ih =>
            have h1 : i ≠ k := fun z => hj (by rw [z]; exact List.mem_cons_self)
            have h2 : i ∉ ks := fun z => hj (List.mem_cons_of_mem _ z)
            show (wipe (σ.set i v) ks).set k none = ((wipe σ ks).set k none).set i v
            rw [ih h2, List.set_comm _ _ h1]
        rw [this hj, List.set_set]
    · rw [wipe_set (is := js) ((List.mem_cons.mp h).resolve_left e)]
theorem pg_n (i : Nat) {is : List Nat} {x : Str} (hi' : i ∈ is) (hN : X.N.Nodup) (hi : X.N[i]? = some x) (hx : Loc X.env.scope x) (hf : X.fn x = true ∨ X.env.scope.names.lookup x = some .local) : PGt X (.Name x pos) is (gN i) :=
  ⟨fun g hK => (pg_name hN hi hx hf).imp fun v σ H Q ⟨Hf, Γ, fr, d, st, z, Γ', e, q⟩ => by
    cases e
    exact q _ H Hf (Same.refl _) ((st.push z).store i) (wipe_set hi')⟩
theorem pgs_n {is : List Nat} : PGts X [] is gsN := ⟨fun ds Γ Γ' e => (by
  cases ds with
  | nil => rfl
  | cons _ _ => cases e), fun g hK => pgs_nil.imp fun v σ H Q ⟨Hf, Γ, fr, d, st, z, Γ', e, q⟩ => by
  cases d with
  | nil =>
    cases z
    cases e
    exact ⟨rfl, q σ H Hf (Same.refl _) st rfl⟩
  | cons _ _ => cases e⟩
theorem pgs_c {is : List Nat} {e : Expr} {es : List Expr} {t : D → Ev → Option Ev} {u : List D → Ev → Option Ev} (h1 : PGt X e is t) (h2 : PGts X es is u) (hs : (assignEach (e :: es) X.env).map (·.2) = assign e X.env :: (assignEach es X.env).map (·.2) := by rfl) : PGts X (e :: es) is (gsC t u) :=
  ⟨fun ds Γ Γ' e => (by
    cases ds with
    | nil => cases e
    | cons d ds =>
      cases h : t d Γ with
      | none =>
        have e' : (t d Γ).bind (u ds) = some Γ' := e
        rw [h] at e'; cases e'
      | some Γ1 =>
        have e' : (t d Γ).bind (u ds) = some Γ' := e
        rw [h] at e'
        exact congrArg (· + 1) (h2.len ds Γ1 Γ' e')), fun g hK => (pgs_cons (h1.run g hK) (h2.run g hK) hs).imp fun v σ H Q ⟨Hf, Γ, fr, d, st, z, Γ', e, q⟩ => by
    cases d with
    | nil => cases e
    | cons d ds =>
      cases z with
      | cons z zs =>
        cases h : t d Γ with
        | none =>
          have e' : (t d Γ).bind (u ds) = some Γ' := e
          rw [h] at e'; cases e'
        | some Γ1 =>
          have e' : (t d Γ).bind (u ds) = some Γ' := e
          rw [h] at e'
          exact ⟨_, _, rfl, Hf, Γ, fr, d, st, z, Γ1, h, fun σ1 H1 Hf1 s1 st1 w1 => ⟨Hf1, Γ1, fr, ds, st1, zs.mono s1, Γ', e', fun σ2 H2 Hf2 s2 st2 w2 => q σ2 H2 Hf2 (s1.trans s2) st2 (w2.trans w1)⟩⟩⟩
theorem pg_t {is : List Nat} {es : List Expr} {k : Nat} {u : List D → Ev → Option Ev} (hc : X.calm = true) (h : PGts X es is u) (hn : (assignEach es X.env).length = es.length := by rfl) (hst : (assignEach es X.env).findIdx? (·.1) = none := by rfl) :
    PGt X (.Tuple es k pos) is (gT u) :=
  ⟨fun g hK => (pg_tup (n := es.length) hc (h.run g hK) hn hst).imp fun v σ H Q ⟨Hf, Γ, fr, d, st, z, Γ', e, q⟩ => by
    cases d with
    | tuple ds =>
      cases z with
      | tup z zs => exact ⟨_, _, rfl, by rw [← hK]; exact Same.seqT st.sub z, zs.length.trans (h.len ds Γ Γ' e), Hf, Γ, fr, ds, st, zs, Γ', e, q⟩
    | _ => cases e⟩
end
end PV
namespace PV
open PySem PySem.Spec PyProof.Rows L2

/-! ### statements -/
def PostS (g : GW) (D : Ends) (fr : List (V × Va)) (Hf : Hp) : SO → Prop
  | .nx Γ' => ∀ σ' H' Hf', Same Hf Hf' → StOk g.h Hf' H' σ' Γ' fr → D.nx σ' H'
  | .rt x Γ' => ∀ v σ' H' Hf', Same Hf Hf' → StOk g.h Hf' H' σ' Γ' ((v, x) :: fr) → D.rt v H'
  | .bk Γ' => ∀ σ' H' Hf', Same Hf Hf' → StOk g.h Hf' H' σ' Γ' fr → D.bk σ' H'
  | .ct Γ' => ∀ σ' H' Hf', Same Hf Hf' → StOk g.h Hf' H' σ' Γ' fr → D.ct σ' H'
  | .ex e Γ' => ∀ σ', PEx g Hf σ' fr e Γ'
  | .st => False
def tS (g : GW) (f : Ev → SO) : TS := fun D σ H => ∃ Hf Γ fr, StOk g.h Hf H σ Γ fr ∧ PostS g D fr Hf (f Γ)
structure PSt (X : Cx) (W : WX) (s : Stmt) (f : Ev → SO) : Prop where
  run : ∀ f0 h0, PS X s (tS (gh X W f0 h0) f)
structure PSts (X : Cx) (W : WX) (s : List Stmt) (f : Ev → SO) : Prop where
  run : ∀ f0 h0, PSs X s (tS (gh X W f0 h0) f)
def sB {α : Type} (o : Out α) (k : α → Ev → SO) : SO := match o with
  | .ok a Γ => k a Γ
  | .ex e Γ => .ex e Γ
  | .st => .st
section
variable {g : GW} {D : Ends} {fr : List (V × Va)} {Hf Hf' : Hp} {α β : Type}
theorem PostS.mono {r : SO} (h : PostS g D fr Hf r) (s : Same Hf Hf') : PostS g D fr Hf' r := by
  cases r with
  | nx Γ => exact fun σ' H' Hf1 s1 => h σ' H' Hf1 (s.trans s1)
  | rt x Γ => exact fun v σ' H' Hf1 s1 => h v σ' H' Hf1 (s.trans s1)
  | bk Γ => exact fun σ' H' Hf1 s1 => h σ' H' Hf1 (s.trans s1)
  | ct Γ => exact fun σ' H' Hf1 s1 => h σ' H' Hf1 (s.trans s1)
  | ex e Γ => exact fun σ' => PEx.mono (h σ') s
  | st => exact h
theorem PostS.bind {o : Out α} {k : α → Ev → SO} {σ : St} {R1 : Hp → Hp → α → Ev → β → Prop} {Q1 : β → Hp → Prop} (h : PostS g D fr Hf (sB o k))
    (h1 : ∀ a Γ1, o = .ok a Γ1 → ∀ b H1 Hf1, Same Hf Hf1 → R1 Hf1 H1 a Γ1 b → PostS g D fr Hf1 (k a Γ1) → Q1 b H1) : Post g σ fr R1 Hf Q1 o := by
  cases o with
  | ok a Γ1 => exact fun b H1 Hf1 s1 r => h1 a Γ1 rfl b H1 Hf1 s1 r (PostS.mono (show PostS g D fr Hf (k a Γ1) from h) s1)
  | ex e Γ1 => exact h σ
  | st => exact h
end
def sNx : Ev → SO := fun Γ => .nx Γ
def sSeq (a b : Ev → SO) : Ev → SO := fun Γ => match a Γ with
  | .nx Γ1 => b Γ1
  | r => r
def sAsg (i : Nat) (f : Ev → Out Va) : Ev → SO := fun Γ => sB (f Γ) fun x Γ1 => .nx (Γ1.set i (some x))
def sTgt (t : D → Ev → Option Ev) (f : Ev → Out D) : Ev → SO := fun Γ => sB (f Γ) fun d Γ1 => match t d Γ1 with | some Γ2 => .nx Γ2 | none => .st
def sRet (f : Ev → Out Va) : Ev → SO := fun Γ => sB (f Γ) fun x Γ1 => .rt x Γ1
def sRetN : Ev → SO := fun Γ => .rt (.z, .none) Γ
def sExp (f : Ev → Out D) : Ev → SO := fun Γ => sB (f Γ) fun _ Γ1 => .nx Γ1
def sIf (c : Ev → Out Bool) (a b : Ev → SO) : Ev → SO := fun Γ => sB (c Γ) fun k Γ1 => if k = true then a Γ1 else b Γ1
def sBk : Ev → SO := fun Γ => .bk Γ
def sCt : Ev → SO := fun Γ => .ct Γ
def sAug (i : Nat) (op : D → D → Option Va) (f : Ev → Out D) : Ev → SO := fun Γ => match Γ[i]? with
  | some (some (.z, x)) => sB (f Γ) fun y Γ1 => (match op x y with | some z => .nx (Γ1.set i (some z)) | none => .st)
  | _ => .st
def sForL (t : D → Ev → Option Ev) (body : Ev → SO) : List D → Ev → SO
  | [], Γ => .nx Γ
  | d :: ds, Γ => match t d Γ with
    | none => .st
    | some Γ1 => match body Γ1 with
      | .nx Γ2 => sForL t body ds Γ2
      | .ct Γ2 => sForL t body ds Γ2
      | .bk Γ2 => .nx Γ2
      | r => r
def sFor (f : Ev → Out (List D)) (t : D → Ev → Option Ev) (body : Ev → SO) : Ev → SO := fun Γ => sB (f Γ) fun ds Γ1 => sForL t body ds Γ1
def sWhile (c : Ev → Out Bool) (body : Ev → SO) : Nat → Ev → SO
  | 0, _ => .st
  | n + 1, Γ => sB (c Γ) fun k Γ1 => if k = true then (match body Γ1 with
      | .nx Γ2 => sWhile c body n Γ2
      | .ct Γ2 => sWhile c body n Γ2
      | .bk Γ2 => .nx Γ2
      | r => r) else .nx Γ1
section
variable {X : Cx} {W : WX} {st : Stmt} {rest : List Stmt} {e : Expr} {pos : Pos} {a b : Ev → SO}
theorem pss_n : PSts X W [] sNx := ⟨fun f0 h0 => pss_nil.imp fun D σ H ⟨Hf, Γ, fr, st, p⟩ => p σ H Hf (Same.refl _) st⟩
theorem pss_c (h1 : PSt X W st a) (h2 : PSts X W rest b) : PSts X W (st :: rest) (sSeq a b) := ⟨fun f0 h0 => (pss_cons (h1.run f0 h0) (h2.run f0 h0)).imp fun D σ H ⟨Hf, Γ, fr, st, p⟩ => by
  refine ⟨Hf, Γ, fr, st, ?_⟩
  unfold sSeq at p
  cases h : a Γ with
  | nx Γ1 =>
    rw [h] at p
    exact fun σ1 H1 Hf1 s1 st1 => ⟨Hf1, Γ1, fr, st1, PostS.mono p s1⟩
  | rt x Γ1 => rw [h] at p; exact p
  | bk Γ1 => rw [h] at p; exact p
  | ct Γ1 => rw [h] at p; exact p
  | ex e Γ1 => rw [h] at p; exact p
  | st => rw [h] at p; exact p⟩
theorem pss_1 (h1 : PSt X W st a) : PSts X W [st] a := ⟨fun f0 h0 => pss_one (h1.run f0 h0)⟩
theorem ps_pass' : PSt X W (.Pass pos) sNx := ⟨fun f0 h0 => ps_pass.imp fun D σ H ⟨Hf, Γ, fr, st, p⟩ => p σ H Hf (Same.refl _) st⟩
theorem ps_brk : PSt X W (.Break pos) sBk := ⟨fun f0 h0 => ps_break.imp fun D σ H ⟨Hf, Γ, fr, st, p⟩ => p σ H Hf (Same.refl _) st⟩
theorem ps_cnt : PSt X W (.Continue pos) sCt := ⟨fun f0 h0 => ps_continue.imp fun D σ H ⟨Hf, Γ, fr, st, p⟩ => p σ H Hf (Same.refl _) st⟩
theorem ps_r {f : Ev → Out Va} (h : PV X W e f) : PSt X W (.Return (some e) pos) (sRet f) := ⟨fun f0 h0 => (ps_ret (h.run f0 h0)).imp fun D σ H ⟨Hf, Γ, fr, st, p⟩ => ⟨Hf, Γ, fr, st, PostS.bind p fun x Γ1 _ v H1 Hf1 s1 st1 q => q v σ H1 Hf1 (Same.refl _) st1⟩⟩
theorem ps_rN : PSt X W (.Return none pos) sRetN := ⟨fun f0 h0 => ps_retN.imp fun D σ H ⟨Hf, Γ, fr, st, p⟩ => p .non σ H Hf (Same.refl _) (st.push .non)⟩
theorem ps_x {f : Ev → Out D} (h : PF X W e f) (hs : swapsWith e none pos.line X.env = pure false := by rfl) : PSt X W (.Expr e pos) (sExp f) := ⟨fun f0 h0 => (ps_expr (h.run f0 h0) hs).imp fun D σ H ⟨Hf, Γ, fr, st, p⟩ => ⟨Hf, Γ, fr, st, PostS.bind p fun x Γ1 _ v H1 Hf1 s1 ⟨st1, _⟩ q => q σ H1 Hf1 (Same.refl _) st1⟩⟩
theorem ps_i {c : Expr} {A B : List Stmt} {t : Ev → Out Bool} (hc : PB X W c t) (ha : PSts X W A a) (hb : PSts X W B b) : PSt X W (.If c A B pos) (sIf t a b) :=
  ⟨fun f0 h0 => (ps_if (hc.run f0 h0) (ha.run f0 h0) (hb.run f0 h0)).imp fun D σ H ⟨Hf, Γ, fr, st, p⟩ => ⟨Hf, Γ, fr, st, PostS.bind p fun k Γ1 _ v H1 Hf1 s1 ⟨st1, e⟩ q => by
    subst e
    cases v with
    | true => exact ⟨Hf1, Γ1, fr, st1, q⟩
    | false => exact ⟨Hf1, Γ1, fr, st1, q⟩⟩⟩
theorem ps_a (i : Nat) {x : Str} {pos' : Pos} {f : Ev → Out Va} (hN : X.N.Nodup) (hi : X.N[i]? = some x) (hx : Loc X.env.scope x) (h : PV X W e f) (hs : swapsWith e (some (.Name x pos')) pos.line X.env = pure false := by rfl) (hf : X.fn x = true ∨ X.env.scope.names.lookup x = some .local := by first | exact .inl rfl | exact .inr rfl | assumption) :
    PSt X W (.Assign [.Name x pos'] e pos) (sAsg i f) :=
  ⟨fun f0 h0 => (ps_set hN hi hx (h.run f0 h0) hs hf).imp fun D σ H ⟨Hf, Γ, fr, st, p⟩ => ⟨Hf, Γ, fr, st, PostS.bind p fun x Γ1 _ v H1 Hf1 s1 st1 q => q _ H1 Hf1 (Same.refl _) (st1.store i)⟩⟩
theorem ps_t {tg : Expr} {is : List Nat} {t : D → Ev → Option Ev} {f : Ev → Out D} (h : PF X W e f) (hg : PGt X tg is t) (hs : swapsWithSole [tg] e pos.line X.env = pure false := by rfl) (hw : swappedStores [tg] e X.env = pure none := by rfl)
    (h1 : (assignEach [tg] X.env).map (·.2) = [assign tg X.env] := by rfl) : PSt X W (.Assign [tg] e pos) (sTgt t f) :=
  ⟨fun f0 h0 => (ps_asg (h.run f0 h0) (hg.run (gh X W f0 h0) rfl) hs hw h1).imp fun D σ H ⟨Hf, Γ, fr, st, p⟩ => ⟨Hf, Γ, fr, st, PostS.bind p fun d Γ1 _ v H1 Hf1 s1 ⟨st1, z⟩ q => by
    cases h : t d Γ1 with
    | none => rw [h] at q; exact q.elim
    | some Γ2 =>
      rw [h] at q
      exact ⟨Hf1, Γ1, fr, d, st1, z, Γ2, h, fun σ' H' Hf' s' st' _ => q σ' H' Hf' s' st'⟩⟩⟩
theorem ps_g (i : Nat) {x : Str} {op : Operator} {r : R2} {f : Ev → Out D} {o : D → D → Option Va} {pos' : Pos} (hN : X.N.Nodup) (hi : X.N[i]? = some x) (hx : Loc X.env.scope x) (h : PF X W e f) (ho : OpR X (inplaceOp op) r) (hs : OpS X.K r o)
    (hf : X.fn x = true ∨ X.env.scope.names.lookup x = some .local := by first | exact .inl rfl | exact .inr rfl | assumption) : PSt X W (.AugAssign (.Name x pos') op e pos) (sAug i o f) :=
  ⟨fun f0 h0 => (ps_aug hN hi hx (h.run f0 h0) (fun pins s σ H x y v u Q I rx ry q => ho pins s σ H x y v u Q I rx ry q) hf).imp fun D σ H ⟨Hf, Γ, fr, st, p⟩ => by
    unfold sAug at p
    split at p
    · rename_i dx hΓ
      obtain ⟨v, e1, z⟩ := st.getZ hΓ
      refine ⟨v, e1, Hf, Γ, fr, st, PostS.bind p fun dy Γ1 _ w H1 Hf1 s1 ⟨st1, z1⟩ q => ?_⟩
      cases h : o dx dy with
      | none => rw [h] at q; exact q.elim
      | some dz =>
        rw [h] at q
        exact hs Hf1 H1 v w dx dy dz _ st1.sub (.inl (z.mono s1)) (.inl z1) h fun v' H' Hf' n => q _ H' Hf' n.f1 ((st1.pushN n).store i)
    · exact p.elim⟩
theorem ps_f {tg iter : Expr} {body : List Stmt} {is : List Nat} {t : D → Ev → Option Ev} {f : Ev → Out (List D)} {fb : Ev → SO} (hp : PassesOwn (model X.prog X.w) X.A X.env X.xe) (hc : X.calm = true) (hi : PIt X W tg iter f) (hg : PGt X tg is t) (hb : PSts X W body fb)
    (hs : ∀ x, foldedSetIterable iter X.env x = pure x := by intro _; rfl) : PSt X W (.For tg iter body [] pos) (sFor f t fb) :=
  ⟨fun f0 h0 => (ps_for hp hc (hi.run f0 h0) (hg.run (gh X W f0 h0) rfl) (hb.run f0 h0) hs).imp fun D σ H ⟨Hf, Γ, fr, st, p⟩ => by
    refine ⟨Hf, Γ, fr, st, PostS.bind p fun ds Γ1 _ J H1 Hf1 s1 ⟨st1, it⟩ q => ?_⟩
    refine ⟨fun i m σ H => m = ds.length - i ∧ i ≤ ds.length ∧ ∃ Hf2 Γ2, Same Hf1 Hf2 ∧ StOk (gh X W f0 h0).h Hf2 H σ Γ2 fr ∧ PostS (gh X W f0 h0) D fr Hf2 (sForL t fb (ds.drop i) Γ2), ⟨_, rfl, Nat.zero_le _, Hf1, Γ1, Same.refl _, st1, q⟩, ?_⟩
    rintro i m σ2 H2 ⟨rfl, hi, Hf2, Γ2, s2, st2, q2⟩
    obtain ⟨g1, g2⟩ := it i Hf2 H2 s2 st2.sub
    cases h : ds[i]? with
    | none =>
      refine .inl ⟨g2 h, ?_⟩
      rw [List.drop_eq_nil_of_le (List.getElem?_eq_none_iff.mp h)] at q2
      exact q2 σ2 H2 Hf2 (Same.refl _) st2
    | some d =>
      obtain ⟨go, yl⟩ := g1 d h
      have hlt := (List.getElem?_eq_some_iff.mp h).1
      have ed : ds.drop i = d :: ds.drop (i + 1) := by
        rw [List.drop_eq_getElem_cons hlt]
        rw [List.getElem?_eq_getElem hlt] at h
        rw [Option.some.inj h]
      rw [ed] at q2
      refine .inr ⟨go, fun σ' H' => (i + 1 ≤ ds.length ∧ ∃ Hf2 Γ2, Same Hf1 Hf2 ∧ StOk (gh X W f0 h0).h Hf2 H' σ' Γ2 fr ∧ PostS (gh X W f0 h0) D fr Hf2 (sForL t fb (ds.drop (i + 1)) Γ2)), fun σ' H' n => ⟨ds.length - (i + 1), by omega, rfl, n⟩, fun x H' y => ?_⟩
      obtain ⟨Hf3, a1, a2, a3, a4, z⟩ := yl x H' y
      have st3 := st2.freeze a1 a2 a3 a4
      unfold sForL at q2
      cases ht : t d Γ2 with
      | none => rw [ht] at q2; exact q2.elim
      | some Γ3 =>
        rw [ht] at q2
        dsimp only at q2
        refine ⟨Hf3, Γ2, fr, d, st3, z, Γ3, ht, fun σ4 H4 Hf4 s4 st4 _ => ⟨Hf4, Γ3, fr, st4, ?_⟩⟩
        have sA : Same Hf1 Hf4 := (s2.trans a2).trans s4
        have q3 := PostS.mono q2 (a2.trans s4)
        cases hb : fb Γ3 with
        | nx Γ4 =>
          rw [hb] at q3
          exact fun σ5 H5 Hf5 s5 st5 => ⟨hlt, Hf5, Γ4, sA.trans s5, st5, PostS.mono q3 s5⟩
        | ct Γ4 =>
          rw [hb] at q3
          exact fun σ5 H5 Hf5 s5 st5 => ⟨hlt, Hf5, Γ4, sA.trans s5, st5, PostS.mono q3 s5⟩
        | bk Γ4 => rw [hb] at q3; exact q3
        | rt x Γ4 => rw [hb] at q3; exact q3
        | ex e Γ4 => rw [hb] at q3; exact q3
        | st => rw [hb] at q3; exact q3.elim⟩
theorem ps_w {c : Expr} {body : List Stmt} {t : Ev → Out Bool} {fb : Ev → SO} (n : Nat) (hp : PassesOwn (model X.prog X.w) X.A X.env X.xe) (hc : PB X W c t) (hb : PSts X W body fb) : PSt X W (.While c body [] pos) (sWhile t fb n) :=
  ⟨fun f0 h0 => (ps_while hp (hc.run f0 h0) (hb.run f0 h0)).imp fun D σ H ⟨Hf, Γ, fr, st, p⟩ => by
    refine ⟨fun m σ H => ∃ Hf2 Γ2, Same Hf Hf2 ∧ StOk (gh X W f0 h0).h Hf2 H σ Γ2 fr ∧ PostS (gh X W f0 h0) D fr Hf2 (sWhile t fb m Γ2), ⟨n, Hf, Γ, Same.refl _, st, p⟩, ?_⟩
    rintro m σ2 H2 ⟨Hf2, Γ2, s2, st2, q2⟩
    cases m with
    | zero => exact q2.elim
    | succ m =>
      refine ⟨Hf2, Γ2, fr, st2, PostS.bind q2 fun k Γ3 _ v H3 Hf3 s3 ⟨st3, e⟩ q => ?_⟩
      subst e
      cases v with
      | false => exact q σ2 H3 Hf3 (Same.refl _) st3
      | true =>
        rw [if_pos rfl] at q ⊢
        refine ⟨fun σ' H' => ∃ Hf2 Γ2, Same Hf Hf2 ∧ StOk (gh X W f0 h0).h Hf2 H' σ' Γ2 fr ∧ PostS (gh X W f0 h0) D fr Hf2 (sWhile t fb m Γ2), fun σ' H' n => ⟨m, Nat.lt_succ_self _, n⟩, Hf3, Γ3, fr, st3, ?_⟩
        have sA : Same Hf Hf3 := s2.trans s3
        cases hb : fb Γ3 with
        | nx Γ4 =>
          rw [hb] at q
          exact fun σ5 H5 Hf5 s5 st5 => ⟨Hf5, Γ4, sA.trans s5, st5, PostS.mono q s5⟩
        | ct Γ4 =>
          rw [hb] at q
          exact fun σ5 H5 Hf5 s5 st5 => ⟨Hf5, Γ4, sA.trans s5, st5, PostS.mono q s5⟩
        | bk Γ4 => rw [hb] at q; exact q
        | rt x Γ4 => rw [hb] at q; exact q
        | ex e Γ4 => rw [hb] at q; exact q
        | st => rw [hb] at q; exact q.elim⟩
end

/-! ### a def -/
def st0 (n : Nat) (ds : List D) : Ev := ds.map (fun d => some (.z, d)) ++ List.replicate (n - ds.length) none
def runD (n k : Nat) (f : Ev → SO) : List D → Res := fun ds => if ds.length = k then (match f (st0 n ds) with
  | .nx _ => .ok (.z, .none)
  | .rt x _ => .ok x
  | .ex e _ => .ex e
  | _ => .st) else .st
end PV
namespace PV
open PySem PySem.Spec PyProof.Rows L2

/-! ### a def -/
theorem st0_get {n i : Nat} {ds : List D} {x : Va} (h : (st0 n ds)[i]? = some (some x)) : ∃ d, ds[i]? = some d ∧ x = (.z, d) := by
  unfold st0 at h
  by_cases c : i < ds.length
  · rw [List.getElem?_append_left (by simpa using c), List.getElem?_map] at h
    cases e : ds[i]? with
    | none => rw [e] at h; cases h
    | some d =>
      rw [e] at h
      exact ⟨d, rfl, (Option.some.inj (Option.some.inj h)).symm⟩
  · rw [List.getElem?_append_right (by simpa using Nat.le_of_not_lt c)] at h
    rw [List.getElem?_replicate] at h
    split at h <;> cases h
section
variable {P : Program} {w : World} {K : PySem.W.Frag} {mg : Str → Option Value} {base : Heap}
theorem st_start {N : List Str} {Hf H : Hp} {vs : List V} {ds : List D} (s : Same Hf H) (f : FzAll K Hf vs ds) : StOk ⟨K, Hf, H⟩ Hf H (L2.start N vs) (st0 N.length ds) [] := by
  refine ⟨fun _ => none, Same.refl _, s, Same.refl _, fun a n => .inl n, (fun a i e => nomatch e), ?_, fun i x e => ?_, trivial⟩
  · unfold st0 L2.start
    rw [List.length_append, List.length_append, List.length_map, List.length_map, List.length_replicate, List.length_replicate, f.length]
  · obtain ⟨d, e1, rfl⟩ := st0_get e
    obtain ⟨v, e2, z⟩ := f.get e1
    refine ⟨v, ?_, [], ⟨rfl, z⟩, List.nodup_nil, fun _ z => nomatch z⟩
    have c : i < vs.length := (List.getElem?_eq_some_iff.mp e2).1
    unfold L2.start
    rw [List.getElem?_append_left (by simpa using c), List.getElem?_map, e2]
    rfl
theorem fin_new {g : Gh} {Hf' H' : Hp} {σ : St} {Γ : Ev} {v : V} {x : Va} {fr : List (V × Va)} (st : StOk g Hf' H' σ Γ ((v, x) :: fr)) : NewV g.K g.f0 g.h0 H' Hf' v x := by
  obtain ⟨ω, st⟩ := st
  obtain ⟨A, o, nd, hA⟩ := st.fr.1
  exact ⟨st.base, st.old, st.sub, st.new, A, o, nd, fun a ha => ⟨(st.own a _ (hA a ha)).1, (st.own a _ (hA a ha)).2.1⟩⟩
abbrev cxX (P : Program) (w : World) (K : PySem.W.Frag) (mg : Str → Option Value) (base : Heap) (N : List Str) (qual : Str) (sc : Scope) (f : Addr) (cdv : Value) (A : Around) (outer : List Env) (s : Shared) (H : Hp) (E : XK) : Cx := cxOf (L2.CX P w) P w K mg base N qual sc f cdv A outer s H E
/-- THE RULE for a def: its body computes fb -/
theorem fn_ok {x qual : Str} {stm : Stmt} {f : Addr} {fd : FuncData} {N ps : List Str} {k : Nat} {fb : Ev → SO} (F : Fun K x qual stm f fd) (S : FnScope N ps (defScope stm))
    (hbody : ∀ (cdv : Value) (A : Around) (outer : List Env) (s : Shared) (H : Hp) (E : XK) (W : WX), Room k (cxX P w K mg base N qual (defScope stm) f cdv A outer s H E).A → Takes (cxX P w K mg base N qual (defScope stm) f cdv A outer s H E) W →
      PassesOwn (model P w) (cxX P w K mg base N qual (defScope stm) f cdv A outer s H E).A (cxX P w K mg base N qual (defScope stm) f cdv A outer s H E).env (cxX P w K mg base N qual (defScope stm) f cdv A outer s H E).xe →
      PSts (cxX P w K mg base N qual (defScope stm) f cdv A outer s H E) W (defBody stm) fb) : FnOk P w K mg base (L2.CX P w) (k + 1) f fd ps (spV K mg ps.length (runD N.length ps.length fb)) := by
  refine F.okX S (fun vs H Q E h => ?_) (fun cdv A outer s H vs Q E hr h => ?_)
  · obtain ⟨Hf, ds, e, _, f, _⟩ := h
    rw [f.length, e]
  · obtain ⟨Hf, ds, e, sH, fz, h⟩ := h
    refine ⟨_, (hbody cdv A outer s H E (fun cls d _ H' => E cls d H') hr (takes_of rfl rfl rfl rfl) (passes_of rfl)).run Hf H, ?_⟩
    refine ⟨Hf, st0 N.length ds, [], st_start sH fz, ?_⟩
    unfold runD at h
    rw [if_pos e] at h
    cases hb : fb (st0 N.length ds) with
    | nx Γ' =>
      rw [hb] at h
      exact fun σ' H' Hf' s' st' => h .non H' Hf' (fin_new (st'.push .non))
    | rt x Γ' =>
      rw [hb] at h
      exact fun v σ' H' Hf' s' st' => h v H' Hf' (fin_new st')
    | ex e Γ' =>
      rw [hb] at h
      intro σ' cls dx H' Hf' s' x st'
      obtain ⟨ω, st'⟩ := st'
      exact h cls dx H' Hf' st'.base st'.old st'.sub st'.new x
    | bk Γ' => rw [hb] at h; exact h.elim
    | ct Γ' => rw [hb] at h; exact h.elim
    | st => rw [hb] at h; exact h.elim
end

/-! ### comprehensions -/
abbrev W0 : WX := fun _ _ _ _ => False
structure PBs (X : Cx) (W : WX) (es : List Expr) (c : Ev → Out Bool) : Prop where
  run : ∀ f0 h0, PTs X es (tT (gh X W f0 h0) c)
def bYes : Ev → Out Bool := fun Γ => .ok true Γ
theorem _root_.L2.PTs.imp {X : Cx} {e : List Expr} {t t' : TT} (h : PTs X e t) (k : ∀ σ H Q, t' σ H Q → t σ H Q) : PTs X e t' := ⟨fun pins s σ H Q I q => h.run pins s σ H Q I (k σ H Q q)⟩
theorem pbs_n {X : Cx} {W : WX} : PBs X W [] bYes := ⟨fun f0 h0 => pts_nil.imp fun σ H Q ⟨Hf, Γ, fr, st, p⟩ => p true H Hf (Same.refl _) ⟨st, rfl⟩⟩
theorem pbs_1 {X : Cx} {W : WX} {e : Expr} {c : Ev → Out Bool} (h : PB X W e c) : PBs X W [e] c := ⟨fun f0 h0 => pts_one (h.run f0 h0)⟩
def wipeG (Γ : Ev) : List Nat → Ev
  | [] => Γ
  | i :: is => (wipeG Γ is).set i none
def restG (Γ1 : Ev) (Γ : Ev) : List Nat → Ev
  | [] => Γ
  | i :: is => match Γ1[i]? with
    | some (some (.z, d)) => (restG Γ1 Γ is).set i (some (.z, d))
    | _ => restG Γ1 Γ is
def compL (is : List Nat) (t : D → Ev → Option Ev) (c : Ev → Out Bool) (fe : Ev → Out D) : List D → Ev → Option (List D × Ev)
  | [], Γ => some ([], Γ)
  | d :: ds, Γ => match t d Γ with
    | none => none
    | some Γ1 => match c Γ1 with
      | .ok true Γ2 => (match fe Γ2 with
        | .ok e Γ3 => (compL is t c fe ds (wipeG Γ3 is)).map fun p => (e :: p.1, p.2)
        | _ => none)
      | .ok false Γ2 => compL is t c fe ds (wipeG Γ2 is)
      | _ => none
def vComp (is : List Nat) (f : Ev → Out (List D)) (t : D → Ev → Option Ev) (c : Ev → Out Bool) (fe : Ev → Out D) : Ev → Out Va := fun Γ => (f Γ).bind fun ds Γ1 => if ds.length ≤ 16777216 then
    (match compL is t c fe ds (wipeG Γ1 is) with | some (es, Γ2) => .ok (.l .z, .list es) (restG Γ1 Γ2 is) | none => .st) else .st
theorem wipeG_len {Γ : Ev} : ∀ {is : List Nat}, (wipeG Γ is).length = Γ.length
  | [] => rfl
  | i :: is => by unfold wipeG; rw [List.length_set, wipeG_len]
theorem wipeG_get {Γ : Ev} {i : Nat} {x : Va} : ∀ {is : List Nat}, (wipeG Γ is)[i]? = some (some x) → Γ[i]? = some (some x) ∧ i ∉ is
  | [], h => ⟨h, fun z => nomatch z⟩
  | j :: js, h => by
    unfold wipeG at h
    by_cases e : j = i
    · subst e
      rw [List.getElem?_set] at h
      simp at h
    · rw [List.getElem?_set_ne e] at h
      obtain ⟨h1, h2⟩ := wipeG_get h
      exact ⟨h1, fun z => (List.mem_cons.mp z).elim (fun q => e q.symm) h2⟩
section
variable {g : Gh} {Hf H : Hp} {σ : St} {Γ : Ev} {fr : List (V × Va)}
/-- the list on the top of the frame is rewritten with frozen items -/
theorem StOk.mutTop {ds ds' : List D} {a : Addr} {vs' : List V} (h : StOk g Hf H σ Γ ((.ref a, (.l .z, .list ds)) :: fr)) (hv : FzAll g.K Hf vs' ds') : StOk g Hf (upd H a (.lst vs')) σ Γ ((.ref a, (.l .z, .list ds')) :: fr) := by
  obtain ⟨ω, h⟩ := h
  obtain ⟨⟨A, o, nd, hA⟩, hr⟩ := h.fr
  obtain ⟨a', vs, ds0, B, e1, e2, e3, r, e4⟩ := o
  cases e1
  have wa : ω a = some (.inr fr.length) := hA a (by rw [e4]; exact List.mem_cons_self)
  have ow := h.own a _ wa
  have k : ∀ b j, j ≠ Sum.inr fr.length → ω b = some j → upd H a (.lst vs') b = H b := fun b j hj e => upd_ne (fun z => hj (by rw [z, wa] at e; exact (Option.some.inj e).symm))
  refine ⟨ω, fun b o e => ?_, fun b o e => ?_, h.old, h.new, fun b j e => ⟨(h.own b j e).1, (h.own b j e).2.1, ?_⟩, h.len, fun j y e' => ?_, ⟨⟨[a], ⟨a, vs', ds', [], rfl, rfl, upd_same, OwnL.of_zs hv, rfl⟩, by simp, fun b hb => by rw [List.mem_singleton.mp hb]; exact wa⟩, hr.mono (Same.refl _) fun b j hj e => ⟨k b (.inr j) (fun z => by cases z; exact absurd hj (Nat.lt_irrefl _)) e, e⟩⟩⟩
  · rw [upd_ne (ne_of_none e ow.1)]; exact h.base b o e
  · rw [upd_ne (ne_of_none e ow.2.1)]; exact h.sub b o e
  · by_cases z : b = a
    · subst z; rw [upd_same]; exact fun z => nomatch z
    · rw [upd_ne z]; exact (h.own b j e).2.2
  · obtain ⟨w, e2, q⟩ := h.slots j y e'
    exact ⟨w, e2, q.mono (Same.refl _) fun b e => ⟨k b (.inl j) (fun z => nomatch z) e, e⟩⟩
theorem StOk.topL {ds : List D} {a : Addr} (h : StOk g Hf H σ Γ ((.ref a, (.l .z, .list ds)) :: fr)) : ∃ vs, H a = some (.lst vs) ∧ FzAll g.K Hf vs ds := by
  obtain ⟨ω, h⟩ := h
  obtain ⟨A, o, nd, hA⟩ := h.fr.1
  obtain ⟨a', vs, ds0, B, e1, e2, e3, r, e4⟩ := o
  cases e1
  cases e2
  exact ⟨vs, e3, r.zs.2⟩
theorem StOk.addZ {i : Nat} {v : V} {d : D} (h : StOk g Hf H σ Γ fr) (hi : σ[i]? = some (some v)) (z : Fz g.K Hf v d) : StOk g Hf H σ (Γ.set i (some (.z, d))) fr := by
  have := (h.push z).store i
  have e : σ.set i (some v) = σ := by
    apply List.ext_getElem?
    intro j
    by_cases hj : i = j
    · subst hj
      rw [List.getElem?_set_self (List.getElem?_eq_some_iff.mp hi).1, hi]
    · rw [List.getElem?_set_ne hj]
  rw [e] at this
  exact this
theorem StOk.wipe (h : StOk g Hf H σ Γ fr) (is : List Nat) : StOk g Hf H (L2.wipe σ is) (wipeG Γ is) fr := by
  have hl : Γ.length = σ.length := by
    obtain ⟨ω, h⟩ := h
    exact h.len
  refine h.weak (by rw [wipeG_len, wipe_length, hl]) fun i x e => ?_
  obtain ⟨h1, h2⟩ := wipeG_get e
  exact ⟨h1, wipe_out h2⟩
theorem wipeG_none {Γ : Ev} {is : List Nat} : ∀ j ∈ is, ∀ x, (wipeG Γ is)[j]? ≠ some (some x) := fun j hj x e => (wipeG_get e).2 hj
/-- back from a block -/
theorem StOk.rest {Γ1 : Ev} {Hf1 H1 : Hp} {fr1 : List (V × Va)} (h1 : StOk g Hf1 H1 σ Γ1 fr1) (s : Same Hf1 Hf) {is : List Nat} (h : StOk g Hf H (L2.wipe σ is) Γ fr) (hn : ∀ j ∈ is, ∀ x, Γ[j]? ≠ some (some x)) : ∀ js : List Nat, StOk g Hf H σ (restG Γ1 Γ js) fr := by
  have hl : Γ.length = σ.length := by
    obtain ⟨ω, h⟩ := h
    rw [h.len, wipe_length]
  have h0 : StOk g Hf H σ Γ fr := h.weak hl fun i x e => ⟨e, (wipe_out fun hi => hn i hi x e).symm⟩
  intro js
  induction js with
  | nil => exact h0
  | cons j js ih =>
    unfold restG
    split
    · rename_i d e
      obtain ⟨v, e1, z⟩ := h1.getZ e
      exact ih.addZ e1 (z.mono s)
    · exact ih
theorem StOk.back {σ2 : St} (h : StOk g Hf H σ2 Γ fr) {is : List Nat} (e : L2.wipe σ2 is = L2.wipe σ is) : StOk g Hf H (L2.wipe σ is) (wipeG Γ is) fr := by
  rw [← e]
  exact h.wipe is
end
section
variable {X : Cx} {W : WX}
theorem comp_core {g : GW} {is : List Nat} {f : Ev → Out (List D)} {t : D → Ev → Option Ev} {c : Ev → Out Bool} {fe : Ev → Out D} {σ : St} {H : Hp} {Q : VK} (h : tV g (vComp is f t c fe) σ H Q) :
    tLc (tI g f) (tG g is t) (tT ⟨g.h, g.mg, W0⟩ c) (tF ⟨g.h, g.mg, W0⟩ fe) is σ H Q := by
  obtain ⟨Hf, Γ, fr, st, p⟩ := h
  refine ⟨Hf, Γ, fr, st, Post.bind p fun ds Γ1 _ J H1 Hf1 s1 ⟨st1, it⟩ q => ?_⟩
  split at q
  · rename_i lenOk
    cases hc : compL is t c fe ds (wipeG Γ1 is) with
    | none => rw [hc] at q; exact q.elim
    | some r =>
      obtain ⟨es, Γ2⟩ := r
      rw [hc] at q
      intro a na
      have stD : StOk g.h Hf1 (upd H1 a (.lst [])) (wipe σ is) (wipeG Γ1 is) ((.ref a, (.l .z, .list [])) :: fr) := ((st1.pushN (NewV.lst st1.sub na .nil)).wipe is)
      refine ⟨fun i m H => m = ds.length - i ∧ i ≤ ds.length ∧ ∃ Hf2 Γ3 acc es', Same Hf1 Hf2 ∧ acc.length ≤ i ∧ StOk g.h Hf2 H (wipe σ is) Γ3 ((.ref a, (.l .z, .list acc)) :: fr) ∧ (∀ j ∈ is, ∀ x, Γ3[j]? ≠ some (some x)) ∧
        compL is t c fe (ds.drop i) Γ3 = some (es', Γ2) ∧ acc ++ es' = es, ⟨_, rfl, Nat.zero_le _, Hf1, _, [], es, Same.refl _, Nat.le_refl _, stD, wipeG_none, hc, rfl⟩, ?_⟩
      rintro i m H2 ⟨rfl, hi, Hf2, Γ3, acc, es', s2, la, st2, hn, hcl, rfl⟩
      obtain ⟨g1, g2⟩ := it i Hf2 H2 s2 st2.sub
      cases h : ds[i]? with
      | none =>
        rw [List.drop_eq_nil_of_le (List.getElem?_eq_none_iff.mp h)] at hcl
        have hcl' : ([], Γ3) = (es', Γ2) := Option.some.inj hcl
        cases hcl'
        rw [List.append_nil] at q
        exact .inl ⟨g2 h, q _ H2 Hf2 s2 (StOk.rest st1 s2 st2 hn is)⟩
      | some d =>
        obtain ⟨go, yl⟩ := g1 d h
        have hlt := (List.getElem?_eq_some_iff.mp h).1
        have ed : ds.drop i = d :: ds.drop (i + 1) := by
          rw [List.drop_eq_getElem_cons hlt]
          rw [List.getElem?_eq_getElem hlt] at h
          rw [Option.some.inj h]
        rw [ed] at hcl
        refine .inr ⟨go, fun H' => (i + 1 ≤ ds.length ∧ ∃ Hf2 Γ3 acc' es'', Same Hf1 Hf2 ∧ acc'.length ≤ i + 1 ∧ StOk g.h Hf2 H' (wipe σ is) Γ3 ((.ref a, (.l .z, .list acc')) :: fr) ∧ (∀ j ∈ is, ∀ x, Γ3[j]? ≠ some (some x)) ∧
          compL is t c fe (ds.drop (i + 1)) Γ3 = some (es'', Γ2) ∧ acc' ++ es'' = acc ++ es'), fun H' n => ⟨ds.length - (i + 1), by omega, rfl, n⟩, fun x H' y => ?_⟩
        obtain ⟨Hf3, a1, a2, a3, a4, z⟩ := yl x H' y
        have st3 := st2.freeze a1 a2 a3 a4
        unfold compL at hcl
        cases ht : t d Γ3 with
        | none => rw [ht] at hcl; cases hcl
        | some Γ4 =>
          rw [ht] at hcl
          dsimp only at hcl
          refine ⟨Hf3, Γ3, _, d, st3, z, Γ4, ht, fun σ5 H5 Hf5 s5 st5 w5 => ?_⟩
          have w5' : wipe σ5 is = wipe σ is := by
            rw [w5]
            have : ∀ js : List Nat, (∀ j ∈ js, j ∈ is) → wipe (wipe σ is) js = wipe σ is := fun js => by
              induction js with
              | nil => intro _; rfl
              | cons j js ih =>
                intro hj
                show (wipe (wipe σ is) js).set j none = wipe σ is
                rw [ih fun k hk => hj k (List.mem_cons_of_mem _ hk)]
                have hj' := hj j List.mem_cons_self
                apply List.ext_getElem?
                intro k
                by_cases e : j = k
                · subst e
                  rw [List.getElem?_set]
                  have : ∀ {l : List Nat}, j ∈ l → ∀ {τ : St}, (wipe τ l)[j]? = if j < τ.length then some none else none := fun {l} hl {τ} => by
                    induction l with
                    | nil => cases hl
                    | cons b l ih2 =>
                      show ((wipe τ l).set b none)[j]? = _
                      by_cases e2 : b = j
                      · subst e2
                        rw [List.getElem?_set]
                        simp [wipe_length]
                      · rw [List.getElem?_set_ne e2]
                        exact ih2 ((List.mem_cons.mp hl).resolve_left (fun z => e2 z.symm))
                  rw [this hj' (τ := σ)]
                  simp [wipe_length]
                · rw [List.getElem?_set_ne e]
            exact this is fun j hj => hj
          refine ⟨w5', Hf5, Γ4, _, st5, ?_⟩
          have sA : Same Hf1 Hf5 := (s2.trans a2).trans s5
          cases hcc : c Γ4 with
          | ex e Γ5 => rw [hcc] at hcl; cases hcl
          | st => rw [hcc] at hcl; cases hcl
          | ok k Γ5 =>
            rw [hcc] at hcl
            intro k' H6 Hf6 s6 ⟨st6, ek⟩
            subst ek
            cases k' with
            | false =>
              dsimp only at hcl
              rw [if_neg Bool.false_ne_true]
              exact ⟨hlt, Hf6, _, acc, es', sA.trans s6, by omega, st6.back w5', wipeG_none, hcl, rfl⟩
            | true =>
              dsimp only at hcl
              rw [if_pos rfl]
              refine ⟨Hf6, Γ5, _, st6, ?_⟩
              cases he : fe Γ5 with
              | ex e Γ6 => rw [he] at hcl; cases hcl
              | st => rw [he] at hcl; cases hcl
              | ok e Γ6 =>
                rw [he] at hcl
                dsimp only at hcl
                intro v H7 Hf7 s7 ⟨st7, z7⟩
                obtain ⟨vs, e8, f8⟩ := st7.topL
                cases hr : compL is t c fe (ds.drop (i + 1)) (wipeG Γ6 is) with
                | none => rw [hr] at hcl; cases hcl
                | some r =>
                  obtain ⟨es2, Γ7⟩ := r
                  rw [hr] at hcl
                  cases hcl
                  refine ⟨vs, e8, ?_, hlt, Hf7, _, acc ++ [e], es2, (sA.trans s6).trans s7, ?_, (st7.mutTop (f8.append (.cons z7 .nil))).back w5', wipeG_none, hr, ?_⟩
                  · rw [f8.length, sizeLine_eq]; omega
                  · rw [List.length_append, List.length_singleton]; omega
                  · rw [List.append_assoc]; rfl
  · exact q.elim
end
end PV
namespace PV
open PySem PySem.Spec PyProof.Rows L2

/-! ### comprehensions, the rules -/
section
variable {X : Cx} {W : WX}
theorem pv_lc {elt tg iter : Expr} {ifs : List Expr} {scope : Scope} {own : List (Str × Nat)} {pos : Pos} {f : Ev → Out (List D)} {t : D → Ev → Option Ev} {c : Ev → Out Bool} {fe : Ev → Out D} (hc : X.calm = true) (hN : X.N.Nodup) (ok : BlkOk X.N X.env.scope scope own) (hi : PIt X W tg iter f)
    (hg : ∀ (s : Shared) (H : L2.Hp) (C : Addr) (cl : List (Str × Addr)) (fp : List Addr), PGt (X.blk s H scope (compEnvC scope cl C X.env) fp) tg (own.map (·.2)) t)
    (ht : ∀ (s : Shared) (H : L2.Hp) (C : Addr) (cl : List (Str × Addr)) (fp : List Addr), PBs (X.blk s H scope (compEnvC scope cl C X.env) fp) W0 ifs c)
    (he : ∀ (s : Shared) (H : L2.Hp) (C : Addr) (cl : List (Str × Addr)) (fp : List Addr), PF (X.blk s H scope (compEnvC scope cl C X.env) fp) W0 elt fe) (hs : ∀ x, foldedSetIterable iter X.env x = pure x := by intro _; rfl) :
    PV X W (.ListComp elt [⟨tg, iter, ifs, 0⟩] scope pos) (vComp (own.map (·.2)) f t c fe) :=
  ⟨fun f0 h0 => (pe_lc hc hN (hi.run f0 h0) ok (fun s H C cl fp => (hg s H C cl fp).run (gh X W f0 h0) rfl) (fun s H C cl fp => (ht s H C cl fp).run f0 h0) (fun s H C cl fp => (he s H C cl fp).run f0 h0) hs).imp fun σ H Q h => comp_core (g := gh X W f0 h0) h⟩
theorem ps_lc (i : Nat) {y : Str} {py : Pos} {elt tg iter : Expr} {ifs : List Expr} {scope : Scope} {own : List (Str × Nat)} {pos spos : Pos} {f : Ev → Out (List D)} {t : D → Ev → Option Ev} {c : Ev → Out Bool} {fe : Ev → Out D} (hc : X.calm = true) (hN : X.N.Nodup) (ok : BlkOk X.N X.env.scope scope own)
    (hy : X.N[i]? = some y) (hyl : X.env.scope.names.lookup y = some .local) (hsw : swapsWith (.ListComp elt [⟨tg, iter, ifs, 0⟩] scope pos) (some (.Name y py)) spos.line X.env = pure true) (hi : PIt X W tg iter f)
    (hg : ∀ (s : Shared) (H : L2.Hp) (C : Addr) (cl : List (Str × Addr)) (fp : List Addr), PGt (X.blk s H scope (compEnvC scope cl C X.env) fp) tg (own.map (·.2)) t)
    (ht : ∀ (s : Shared) (H : L2.Hp) (C : Addr) (cl : List (Str × Addr)) (fp : List Addr), PBs (X.blk s H scope (compEnvC scope cl C X.env) fp) W0 ifs c)
    (he : ∀ (s : Shared) (H : L2.Hp) (C : Addr) (cl : List (Str × Addr)) (fp : List Addr), PF (X.blk s H scope (compEnvC scope cl C X.env) fp) W0 elt fe) (hs : ∀ x, foldedSetIterable iter X.env x = pure x := by intro _; rfl) :
    PSt X W (.Assign [.Name y py] (.ListComp elt [⟨tg, iter, ifs, 0⟩] scope pos) spos) (sAsg i (vComp (own.map (·.2)) f t c fe)) :=
  ⟨fun f0 h0 => (ps_setLc hc hN hy hyl hsw (hi.run f0 h0) ok (fun s H C cl fp => (hg s H C cl fp).run (gh X W f0 h0) rfl) (fun s H C cl fp => (ht s H C cl fp).run f0 h0) (fun s H C cl fp => (he s H C cl fp).run f0 h0) hs).imp fun D σ H ⟨Hf, Γ, fr, st, p⟩ =>
    comp_core (g := gh X W f0 h0) ⟨Hf, Γ, fr, st, PostS.bind p fun x Γ1 _ v H1 Hf1 s1 st1 q => q _ H1 Hf1 (Same.refl _) (st1.store i)⟩⟩
end

/-! ### raise, try -/
def sRaise (e : Exc) : Ev → SO := fun Γ => .ex e Γ
def sTry (m : Str → Option Bool) (fb fs : Ev → SO) : Ev → SO := fun Γ => match fb Γ with
  | .ex e Γ1 => (match m e.c with
    | some true => (match fs Γ1 with | .ex _ _ => .st | r => r)
    | some false => .ex e Γ1
    | none => .st)
  | r => r
section
variable {X : Cx} {W : WX} {pos : Pos}
theorem ps_rs {x m : Str} {j : Nat} {p p2 cpos : Pos} {C : Addr} {bmB : List Value} {B newId initId : String} (hc : X.calm = true) (tk : Takes X W) (F : ExcBaseFacts B newId initId bmB) (q : PySem.W.excIn X.K C bmB newId = true) (gC : X.mg x = some (.ref C)) (kC : PySem.W.keepIn X.K (.ref C) = true)
    (r : Raises X (.ref C)) (hg : Gl X x) (hdb : (x == ("__debug__" : Str)) = false := by decide) : PSt X W (.Raise (some (.Call (.Name x p) [.Constant (.str m) j p2] [] cpos)) none pos) (sRaise ⟨x, []⟩) :=
  ⟨fun f0 h0 => (ps_raise hc tk (pmk_own F q gC kC r hg hdb)).imp fun D σ H ⟨Hf, Γ, fr, st, p⟩ => p σ (.ref C) none H Hf (Same.refl _) ⟨gC, .inl ⟨rfl, rfl⟩⟩ st⟩
theorem ps_try {x : Str} {c : Value} {body suite : List Stmt} {b₀ : Stmt} {np pos' : Pos} {m : Str → Option Bool} {fb fs : Ev → SO} (hs : X.stack = X.env :: X.outer) (hf : X.env.frame = some X.env.locals) (hc : Names X x c) (tk : Takes X W)
    (hm : ∀ n b cls, m n = some b → X.mg n = some cls → PySem.W.exmOne X.K cls c = some b)
    (hb : ∀ (W' : WX) (pn : List (Addr × Obj)) (xe : Value → Shared → Prop), Takes (X.tr pn xe) W' → PassesOwn (model X.prog X.w) X.A X.env xe → PSts (X.tr pn xe) W' body fb)
    (hsu : ∀ (a : Addr) (pn : List (Addr × Obj)), PSts (X.suite a pn) W0 (b₀ :: suite) fs) : PSt X W (.Try body [.ExceptHandler (some (.Name x np)) none (b₀ :: suite) pos'] [] [] pos) (sTry m fb fs) :=
  ⟨fun f0 h0 => (ps_try_only (tb := fun W' => tS ⟨⟨X.K, f0, h0⟩, X.mg, W'⟩ fb) (ts := fun a cls d => tS ⟨⟨X.K, f0, h0⟩, X.mg, W0⟩ fs) hs hf hc tk (fun W' pn xe tk' pw => (hb W' pn xe tk' pw).run f0 h0) (fun a oe cls d pn _ _ => (hsu a _).run f0 h0)).imp fun D σ H ⟨Hf, Γ, fr, st, p⟩ => by
    refine ⟨Hf, Γ, fr, st, ?_⟩
    unfold sTry at p
    cases h : fb Γ with
    | nx Γ1 => rw [h] at p; exact p
    | rt x Γ1 => rw [h] at p; exact p
    | bk Γ1 => rw [h] at p; exact p
    | ct Γ1 => rw [h] at p; exact p
    | st => rw [h] at p; exact p
    | ex e Γ1 =>
      rw [h] at p
      dsimp only at p
      intro σ' cls dx H' Hf' s' xo st'
      cases hmm : m e.c with
      | none => rw [hmm] at p; exact p.elim
      | some b =>
        rw [hmm] at p
        refine ⟨b, hm e.c b cls hmm xo.1, fun eb a na => ?_, fun eb => ?_⟩
        · subst eb
          dsimp only at p
          refine ⟨Hf', Γ1, fr, st', ?_⟩
          cases hfs : fs Γ1 with
          | nx Γ2 => rw [hfs] at p; exact PostS.mono p s'
          | rt x Γ2 => rw [hfs] at p; exact PostS.mono p s'
          | bk Γ2 => rw [hfs] at p; exact PostS.mono p s'
          | ct Γ2 => rw [hfs] at p; exact PostS.mono p s'
          | ex e Γ2 => rw [hfs] at p; exact p.elim
          | st => rw [hfs] at p; exact p.elim
        · subst eb
          exact p σ' cls dx H' Hf' s' xo st'⟩
end

/-! ### constants of the module -/
/-- a value of the written part is this data, whatever the heap -/
def KD (K : PySem.W.Frag) (v : V) (d : D) : Prop := ∀ H, Fz K H v d
structure KTab (K : PySem.W.Frag) (w : World) (a : Addr) (tab : List (Str × Option D)) : Prop where
  kd : ∃ es n, KDict K w a es n
  no : ∀ x, (x, none) ∈ tab → PySem.W.nsIn K a x = some none
  yes : ∀ x d, (x, some d) ∈ tab → ∃ u v, PySem.W.nsIn K a x = some (some u) ∧ RelV v u ∧ KD K v d
def fIn (neg : Bool) (tab : List (Str × Option D)) (o : Opn) : Ev → Out D := fun Γ => (o.f Γ).bind fun d Γ1 => .of ((o.l Γ1 d).bind fun d => match d with
  | .str x => (tab.lookup x).map fun r => .bool (if neg then !r.isSome else r.isSome)
  | _ => none) Γ1
def fGet (tab : List (Str × Option D)) (o : Opn) : Ev → Out D := fun Γ => (o.f Γ).bind fun d Γ1 => .of ((o.l Γ1 d).bind fun d => match d with
  | .str x => (tab.lookup x).bind fun r => r
  | _ => none) Γ1
theorem mem_of_lookup' {α β : Type} [BEq α] [LawfulBEq α] {x : α} {y : β} : ∀ {l : List (α × β)}, l.lookup x = some y → (x, y) ∈ l
  | (a, b) :: l, h => by
    rw [List.lookup_cons] at h
    split at h
    · rename_i e
      have e' : x = a := eq_of_beq e
      cases h
      subst e'
      exact List.mem_cons_self
    · exact List.mem_cons_of_mem _ (mem_of_lookup' h)
section
variable {X : Cx} {W : WX} {e : Expr} {x : Str} {p pos : Pos} {a : Addr} {tab : List (Str × Option D)} {o : Opn}
theorem pf_gl {v : V} {u : Value} {d : D} (hg : Gl X x) (hm : X.mg x = some u) (r : RelV v u) (k : KD X.K v d) (hd : (x == ("__debug__" : Str)) = false := by decide) : PF X W (.Name x pos) (fC d) :=
  ⟨fun f0 h0 => (pe_glob hg hm r hd).imp fun σ H Q ⟨Hf, Γ, fr, st, p⟩ => p v H Hf (Same.refl _) ⟨st, k Hf⟩⟩
theorem in_core {g : GW} {w : World} (T : KTab g.h.K w a tab) {neg : Bool} {σ : St} {H : Hp} {Q : VK} (h : tF g (fIn neg tab o) σ H Q) :
    tOp (fun x y H Q => ∃ (z : Str) (r : Option Value), x = .str z ∧ y = .ref a ∧ PySem.W.nsIn g.h.K a z = some r ∧ Q (.bl (if neg then !r.isSome else r.isSome)) H) (tO g o) (tC (.ref a)) σ H Q := by
  obtain ⟨Hf, Γ, fr, st, p⟩ := h
  refine ⟨Hf, Γ, fr, st, Post.bind p fun d Γ1 _ v H1 Hf1 s1 ⟨st1, l1⟩ q => ?_⟩
  obtain ⟨c, e, q⟩ := Post.of q
  cases h : o.l Γ1 d with
  | none => rw [h] at e; cases e
  | some d' =>
    rw [h] at e
    have z := l1 Γ1 Hf1 H1 fr (Same.refl _) st1 d' h
    cases d' with
    | str x =>
      cases hl : tab.lookup x with
      | none =>
        have e' : (tab.lookup x).map (fun r => PyData.bool (if neg then !r.isSome else r.isSome)) = some c := e
        rw [hl] at e'; cases e'
      | some r =>
        have e' : (tab.lookup x).map (fun r => PyData.bool (if neg then !r.isSome else r.isSome)) = some c := e
        rw [hl] at e'
        cases e'
        cases z.str
        have mem := mem_of_lookup' hl
        cases r with
        | none => exact ⟨x, none, rfl, rfl, T.no x mem, q _ H1 Hf1 (Same.refl _) ⟨st1, .bl _⟩⟩
        | some d0 =>
          obtain ⟨u, v, e1, _⟩ := T.yes x d0 mem
          exact ⟨x, some u, rfl, rfl, e1, q _ H1 Hf1 (Same.refl _) ⟨st1, .bl _⟩⟩
    | _ => cases e
theorem pf_kin {nm : Str} {np : Pos} (T : KTab X.K X.w a tab) (he : PZ X W e o) (hg : Gl X nm) (hm : X.mg nm = some (.ref a)) (hd : (nm == ("__debug__" : Str)) = false := by decide) (hb : behindInMarks .In (.Name nm np) = false := by rfl) : PF X W (.Compare e [.In] [.Name nm np] pos) (fIn false tab o) :=
  ⟨fun f0 h0 => by
    obtain ⟨es, n, kd⟩ := T.kd
    exact (pe_cmpR (op_in_kd kd) (he.run f0 h0) (pe_glob hg hm (v := .ref a) rfl hd) hb).imp fun σ H Q h => in_core (g := gh X W f0 h0) T h⟩
theorem pf_knin {nm : Str} {np : Pos} (T : KTab X.K X.w a tab) (he : PZ X W e o) (hg : Gl X nm) (hm : X.mg nm = some (.ref a)) (hd : (nm == ("__debug__" : Str)) = false := by decide) (hb : behindInMarks .NotIn (.Name nm np) = false := by rfl) : PF X W (.Compare e [.NotIn] [.Name nm np] pos) (fIn true tab o) :=
  ⟨fun f0 h0 => by
    obtain ⟨es, n, kd⟩ := T.kd
    exact (pe_cmpR (op_notIn_kd kd) (he.run f0 h0) (pe_glob hg hm (v := .ref a) rfl hd) hb).imp fun σ H Q h => in_core (neg := true) (g := gh X W f0 h0) T h⟩
def bF (f : Ev → Out D) : Ev → Out Bool := fun Γ => (f Γ).bind fun d Γ1 => match d with | .bool b => .ok b Γ1 | _ => .st
theorem tTestF {g : GW} {t : TE} {f : Ev → Out D} {σ : St} {H : Hp} {Q : Bool → Hp → Prop} (hv : ∀ Q, tF g f σ H Q → t σ H Q) (h : tT g (bF f) σ H Q) : tTest t σ H Q := by
  obtain ⟨Hf, Γ, fr, st, p⟩ := h
  refine hv _ ⟨Hf, Γ, fr, st, Post.bind p fun d Γ1 _ v H1 Hf1 s1 ⟨st1, z⟩ q => ?_⟩
  cases d with
  | bool k =>
    cases z
    exact ⟨k, rfl, q k H1 Hf1 (Same.refl _) ⟨st1, rfl⟩⟩
  | _ => exact q.elim
theorem pb_kin {nm : Str} {np : Pos} (T : KTab X.K X.w a tab) (he : PZ X W e o) (hg : Gl X nm) (hm : X.mg nm = some (.ref a)) (hd : (nm == ("__debug__" : Str)) = false := by decide) (hb : behindInMarks .In (.Name nm np) = false := by rfl) : PB X W (.Compare e [.In] [.Name nm np] pos) (bF (fIn false tab o)) :=
  ⟨fun f0 h0 => by
    obtain ⟨es, n, kd⟩ := T.kd
    exact (pt_cmpR (op_in_kd kd) (he.run f0 h0) (pe_glob hg hm (v := .ref a) rfl hd) hb).imp fun σ H Q h => tTestF (f := fIn false tab o) (fun Q h => in_core (g := gh X W f0 h0) T h) h⟩
theorem pb_knin {nm : Str} {np : Pos} (T : KTab X.K X.w a tab) (he : PZ X W e o) (hg : Gl X nm) (hm : X.mg nm = some (.ref a)) (hd : (nm == ("__debug__" : Str)) = false := by decide) (hb : behindInMarks .NotIn (.Name nm np) = false := by rfl) : PB X W (.Compare e [.NotIn] [.Name nm np] pos) (bF (fIn true tab o)) :=
  ⟨fun f0 h0 => by
    obtain ⟨es, n, kd⟩ := T.kd
    exact (pt_cmpR (op_notIn_kd kd) (he.run f0 h0) (pe_glob hg hm (v := .ref a) rfl hd) hb).imp fun σ H Q h => tTestF (f := fIn true tab o) (fun Q h => in_core (neg := true) (g := gh X W f0 h0) T h) h⟩
theorem pf_kget {nm : Str} {np : Pos} (T : KTab X.K X.w a tab) (he : PZ X W e o) (hp : PlainIx e) (hg : Gl X nm) (hm : X.mg nm = some (.ref a)) (hd : (nm == ("__debug__" : Str)) = false := by decide) : PF X W (.Subscript (.Name nm np) e pos) (fGet tab o) :=
  ⟨fun f0 h0 => (pe_ix ix_kdict (pe_glob hg hm (v := .ref a) rfl hd) (he.run f0 h0) hp).imp fun σ H Q ⟨Hf, Γ, fr, st, p⟩ => ⟨Hf, Γ, fr, st, Post.bind p fun d Γ1 _ v H1 Hf1 s1 ⟨st1, l1⟩ q => by
    obtain ⟨c, e, q⟩ := Post.of q
    cases h : o.l Γ1 d with
    | none => rw [h] at e; cases e
    | some d' =>
      rw [h] at e
      have z := l1 Γ1 Hf1 H1 fr (Same.refl _) st1 d' h
      cases d' with
      | str x =>
        cases hl : tab.lookup x with
        | none =>
          have e' : (tab.lookup x).bind (fun r => r) = some c := e
          rw [hl] at e'; cases e'
        | some r =>
          have e' : (tab.lookup x).bind (fun r => r) = some c := e
          rw [hl] at e'
          have e2 : r = some c := e'
          subst e2
          cases z.str
          obtain ⟨u, v, e1, rv, k⟩ := T.yes x c (mem_of_lookup' hl)
          obtain ⟨es, n, kd⟩ := T.kd
          exact ⟨a, x, v, rfl, rfl, ⟨es, n, u, kd.at_, kd.lit, e1, rv⟩, q _ H1 Hf1 (Same.refl _) ⟨st1, k Hf1⟩⟩
      | _ => cases e⟩⟩
end
/-! ### frozen dicts -/
def dKey : D → Option Key
  | .int i => some (.inl i)
  | .str x => some (.inr x)
  | _ => none
def dLook : List (D × D) → Key → Option D
  | [], _ => none
  | (k, d) :: r, x => if dKey k = some x then some d else dLook r x
theorem dKey_kD (k : Key) : dKey (kD k) = some k := by cases k <;> rfl
theorem dKey_eq {d : D} {k : Key} (h : dKey d = some k) : d = kD k := by
  cases d <;> cases h <;> rfl
theorem look_ok {K : PySem.W.Frag} {Hf : Hp} (x : Key) : ∀ {kvs : List (Key × V)} {ds : List D}, FzAll K Hf (kvs.map (·.2)) ds → (valV kvs x = none ∧ dLook ((kvs.map fun p => kD p.1).zip ds) x = none) ∨ ∃ v d, valV kvs x = some v ∧ dLook ((kvs.map fun p => kD p.1).zip ds) x = some d ∧ Fz K Hf v d
  | [], _, _ => .inl ⟨rfl, by cases ‹List D› <;> rfl⟩
  | (k, v) :: kvs, _, .cons (d := d) (ds := ds) h r => by
    show (valV ((k, v) :: kvs) x = none ∧ (if dKey (kD k) = some x then some d else dLook ((kvs.map fun p => kD p.1).zip ds) x) = none) ∨ _
    rw [dKey_kD]
    by_cases e : k = x
    · subst e
      exact .inr ⟨v, d, by unfold valV; simp, by
        show (if dKey (kD k) = some k then some d else _) = some d
        rw [dKey_kD, if_pos rfl], h⟩
    · have n : ¬ (some k = some x) := fun z => e (Option.some.inj z)
      have e2 : valV ((k, v) :: kvs) x = valV kvs x := by
        unfold valV
        rw [List.find?_cons_of_neg (by simpa using e)]
      rw [if_neg n, e2]
      rcases look_ok x r with h | ⟨v', d', h1, h2, h3⟩
      · exact .inl h
      · exact .inr ⟨v', d', h1, by
          show (if dKey (kD k) = some x then some d else _) = some d'
          rw [dKey_kD, if_neg n]
          exact h2, h3⟩
end PV
namespace PV
open PySem PySem.Spec PyProof.Rows L2

/-! ### in, not in -/
theorem flat_of {K : PySem.W.Frag} {Hf : Hp} {v : V} {d : D} (h : Fz K Hf v d) (f : dFlat d = true) : flatV v = true := by
  cases h <;> first | rfl | cases f
theorem flat_all {K : PySem.W.Frag} {Hf : Hp} : ∀ {vs : List V} {ds : List D}, FzAll K Hf vs ds → ds.all dFlat = true → vs.all flatV = true
  | _, _, .nil, _ => rfl
  | _, _, .cons h r, f => by
    rw [List.all_cons, Bool.and_eq_true] at f ⊢
    exact ⟨flat_of h f.1, flat_all r f.2⟩
theorem eqV_flat {K : PySem.W.Frag} {Hf : Hp} {v w : V} {d e : D} (h : Fz K Hf v d) (h' : Fz K Hf w e) (f : dFlat d = true) (f' : dFlat e = true) : eqV v w = PyData.eqv d e := by
  cases h <;> cases h' <;> first
    | (simp only [eqV, PyData.eqv]; done)
    | (cases f; done)
    | (cases f'; done)
theorem inV_flat {K : PySem.W.Frag} {Hf : Hp} {x : V} {d : D} (h : Fz K Hf x d) (f : dFlat d = true) : ∀ {vs : List V} {ds : List D}, FzAll K Hf vs ds → ds.all dFlat = true → inV x vs = ds.any fun z => PyData.eqv z d
  | _, _, .nil, _ => rfl
  | _, _, .cons hz r, fa => by
    rw [List.all_cons, Bool.and_eq_true] at fa
    have ih := inV_flat h f r fa.2
    unfold inV at ih ⊢
    rw [List.any_cons, List.any_cons, ih, eqV_flat hz h fa.1 f]
def dInB : D → D → Option Bool
  | x, .list ds => if dFlat x && ds.all dFlat then some (ds.any fun z => PyData.eqv z x) else none
  | x, .tuple ds => if dFlat x && ds.all dFlat then some (ds.any fun z => PyData.eqv z x) else none
  | .str i, .str j => some (!(Builtin.Str.occurrences j i 0 j.length 1).isEmpty)
  | _, _ => none
def dIn (a b : D) : Option Va := b2 (dInB a b)
def dNin (a b : D) : Option Va := b2 ((dInB a b).map not)
def rInV (K : PySem.W.Frag) : R2 := fun x y H Q => rIn K false x y H Q ∨ ∃ i j, x = .str i ∧ y = .str j ∧ Q (.bl (!(Builtin.Str.occurrences j i 0 j.length 1).isEmpty)) H
def rNinV (K : PySem.W.Frag) : R2 := fun x y H Q => rIn K true x y H Q ∨ ∃ i j, x = .str i ∧ y = .str j ∧ Q (.bl (!(!(Builtin.Str.occurrences j i 0 j.length 1).isEmpty))) H
section
variable {X : Cx} {K : PySem.W.Frag}
theorem op_inV : OpR X (compareOp .In) (rInV X.K) := op_in_seq.or op_in_str
theorem op_ninV : OpR X (compareOp .NotIn) (rNinV X.K) := op_notIn_seq.or L2.op_notin_str
theorem inB_ok {Hf H : Hp} {x y : V} {dx dy : D} {c : Bool} (s : Same Hf H) (h1 : Fz1 K Hf H x dx) (h2 : Fz1 K Hf H y dy) (e : dInB dx dy = some c) :
    (∃ p xs, y = .ref p ∧ (SqL K H p xs ∨ SqT K H p xs) ∧ flatV x = true ∧ xs.all flatV = true ∧ inV x xs = c) ∨ ∃ i j, x = .str i ∧ y = .str j ∧ (!(Builtin.Str.occurrences j i 0 j.length 1).isEmpty) = c := by
  have fz : ∀ {d : D}, Fz1 K Hf H x d → dFlat d = true → Fz K Hf x d := fun {d} h f => by
    rcases h with h | ⟨a, vs, ds, rfl, rfl, h, r⟩
    · exact h
    · cases f
  unfold dInB at e
  split at e
  · split at e
    · rename_i hf
      rw [Bool.and_eq_true] at hf
      obtain ⟨a, vs, rfl, r, f⟩ := h2.list s
      have z := fz h1 hf.1
      refine .inl ⟨a, vs, rfl, .inl (SqL.of r), flat_of z hf.1, flat_all f hf.2, ?_⟩
      rw [inV_flat z hf.1 f hf.2]
      exact Option.some.inj e
    · cases e
  · split at e
    · rename_i hf
      rw [Bool.and_eq_true] at hf
      obtain ⟨a, vs, rfl, r, f⟩ := h2.tup
      have z := fz h1 hf.1
      refine .inl ⟨a, vs, rfl, .inr (Same.seqT s r), flat_of z hf.1, flat_all f hf.2, ?_⟩
      rw [inV_flat z hf.1 f hf.2]
      exact Option.some.inj e
    · cases e
  · exact .inr ⟨_, _, h1.str, h2.str, Option.some.inj e⟩
  · cases e
theorem ops_in : OpS K (rInV K) dIn := fun Hf H x y dx dy z Q s h1 h2 e q => by
  cases h : dInB dx dy with
  | none => rw [dIn, h] at e; cases e
  | some c =>
    rw [dIn, h] at e
    cases e
    have fin := q _ H Hf (.z s (.bl c))
    rcases inB_ok s h1 h2 h with ⟨p, xs, e1, e2, e3, e4, e5⟩ | ⟨i, j, e1, e2, e3⟩
    · exact .inl ⟨p, xs, e1, e2, e3, e4, by rw [if_neg Bool.false_ne_true, e5]; exact fin⟩
    · exact .inr ⟨i, j, e1, e2, by rw [e3]; exact fin⟩
theorem ops_nin : OpS K (rNinV K) dNin := fun Hf H x y dx dy z Q s h1 h2 e q => by
  cases h : dInB dx dy with
  | none => rw [dNin, h] at e; cases e
  | some c =>
    rw [dNin, h] at e
    cases e
    have fin := q _ H Hf (.z s (.bl (!c)))
    rcases inB_ok s h1 h2 h with ⟨p, xs, e1, e2, e3, e4, e5⟩ | ⟨i, j, e1, e2, e3⟩
    · exact .inl ⟨p, xs, e1, e2, e3, e4, by rw [if_pos rfl, e5]; exact fin⟩
    · exact .inr ⟨i, j, e1, e2, by rw [e3]; exact fin⟩
end

/-! ### frozen dicts: {}, d.get(k, x) -/
def fDct0 : Ev → Out D := fun Γ => .ok (.dict []) Γ
def fGet2 (fd fk fx : Ev → Out D) : Ev → Out D := fun Γ => (fd Γ).bind fun d Γ1 => match d with
  | .dict kvs => if (kvs.all fun p => (dKey p.1).isSome) = true then ((fk Γ1).bind fun k Γ2 => (fx Γ2).bind fun x Γ3 => .of ((dKey k).map fun y => (dLook kvs y).getD x) Γ3) else .st
  | _ => .st
theorem NewV.dct {K : PySem.W.Frag} {Hf H : Hp} {p : Addr} {kvs : List (Key × V)} {ds : List D} (s : Same Hf H) (n : H p = none) (h : FzAll K Hf (kvs.map (·.2)) ds) : NewV K Hf H (upd H p (.dK kvs)) (upd Hf p (.dK kvs)) (.ref p) (.z, .dict ((kvs.map fun p => kD p.1).zip ds)) := by
  have nf : Hf p = none := Same.free s n
  refine ⟨same_new n, same_new nf, fun b o e => ?_, fun b e => ?_, [], ⟨rfl, .dK upd_same (h.mono (same_new nf))⟩, List.nodup_nil, fun _ z => nomatch z⟩
  · by_cases z : b = p
    · subst z; rw [upd_same] at e ⊢; exact e
    · rw [upd_ne z] at e ⊢; exact s b o e
  · by_cases z : b = p
    · subst z; exact .inr n
    · rw [upd_ne z] at e; exact .inl e
section
variable {X : Cx} {W : WX} {o e f : Expr} {pos apos cpos : Pos}
theorem pf_dct0 : PF X W (.Dict [] [] pos) fDct0 := ⟨fun f0 h0 => pe_dnewK.imp fun σ H Q ⟨Hf, Γ, fr, st, p⟩ a n => by
  have nv := NewV.dct (K := X.K) (kvs := []) (ds := []) st.sub n .nil
  have st1 := st.pushN nv
  exact p _ _ _ nv.f1 ⟨st1.pop, st1.top⟩⟩
theorem fz_dict {K : PySem.W.Frag} {Hf : Hp} {v : V} {kvs : List (D × D)} (h : Fz K Hf v (.dict kvs)) (hk : (kvs.all fun p => (dKey p.1).isSome) = true) : ∃ a kvs' ds, v = .ref a ∧ Hf a = some (.dK kvs') ∧ FzAll K Hf (kvs'.map (·.2)) ds ∧ kvs = (kvs'.map fun p => kD p.1).zip ds := by
  generalize hd : PyData.dict kvs = d at h
  cases h with
  | scr ns h =>
    cases hd
    cases hk
  | dK h r =>
    cases hd
    exact ⟨_, _, _, rfl, h, r, rfl⟩
  | _ => cases hd
theorem pf_get2 {fd fk fx : Ev → Out D} (hu : X.A.units + 1 < cLine) (hd : PF X W o fd) (hk : PF X W e fk) (hx : PF X W f fx) (m : M2 X o "get" apos e f cpos) : PF X W (.Call (.Attribute o "get" apos) [e, f] [] cpos) (fGet2 fd fk fx) :=
  ⟨fun f0 h0 => (pe_dget2 hu (hd.run f0 h0) (hk.run f0 h0) (hx.run f0 h0) m).imp fun σ H Q ⟨Hf, Γ, fr, st, p⟩ => ⟨Hf, Γ, fr, st, Post.bind p fun d Γ1 _ v H1 Hf1 s1 ⟨st1, z⟩ q => by
    split at q
    · rename_i kvs
      split at q
      · rename_i hk
        obtain ⟨a, kvs', ds, rfl, ha, fd, rfl⟩ := fz_dict z hk
        refine ⟨a, rfl, .inl ⟨kvs', .inl (st1.sub _ _ ha)⟩, Hf1, Γ1, fr, st1, Post.bind q fun k Γ2 _ w H2 Hf2 s2 ⟨st2, zk⟩ q => ⟨Hf2, Γ2, fr, st2, Post.bind q fun x Γ3 _ u H3 Hf3 s3 ⟨st3, zx⟩ q => ?_⟩⟩
        obtain ⟨c, e, q⟩ := Post.of q
        cases hy : dKey k with
        | none => rw [hy] at e; cases e
        | some y =>
          rw [hy] at e
          cases e
          dsimp only at q
          have ek : w = kV y := by
            have := dKey_eq hy
            subst this
            cases y <;> cases zk <;> rfl
          have hb : H3 a = some (.dK kvs') := st3.sub _ _ ((s2.trans s3) _ _ ha)
          refine ⟨valV kvs' y, by rw [ek]; exact DGet.k hb, ?_⟩
          rcases look_ok y fd with ⟨h1, h2⟩ | ⟨v', d', h1, h2, h3⟩
          · rw [h1]
            rw [h2] at q
            exact q u H3 Hf3 (Same.refl _) ⟨st3, zx⟩
          · rw [h1]
            rw [h2] at q
            exact q v' H3 Hf3 (Same.refl _) ⟨st3, h3.mono (s2.trans s3)⟩
      · exact q.elim
    · exact q.elim⟩⟩
end
end PV
namespace PV
open PySem PySem.Spec PyProof.Rows L2

/-! ### list(range(n)), tuple(range(n)) -/
def vLR1 (f : Ev → Out D) : Ev → Out Va := fun Γ => (f Γ).bind fun d Γ1 => match d with | .int j => if 0 ≤ j ∧ j ≤ 16777216 then .ok (.l .z, .list (rangeL 0 j.toNat)) Γ1 else .st | _ => .st
def fTR1 (f : Ev → Out D) : Ev → Out D := fun Γ => (f Γ).bind fun d Γ1 => match d with | .int j => if 0 ≤ j ∧ j ≤ 16777216 then .ok (.tuple (rangeL 0 j.toNat)) Γ1 else .st | _ => .st
theorem fz_range {K : PySem.W.Frag} {Hf : Hp} (a b : Int) : FzAll K Hf (rgV a b) (rangeL a (b - a).toNat) := by
  have : ∀ l : List Nat, FzAll K Hf (l.map fun i => V.int (a + (i : Nat))) (l.map fun i => PyData.int (a + (i : Nat))) := fun l => by
    induction l with
    | nil => exact .nil
    | cons x l ih => exact .cons (.int _) ih
  exact this _
section
variable {X : Cx} {W : WX} {a b c : Expr} {p p2 pos pos2 : Pos}
theorem pv_lr1 {f : Ev → Out D} (hc : X.calm = true) (hg : Gl X "list") (hm : X.mg "list" = none) (hg2 : Gl X "range") (hm2 : X.mg "range" = none) (h : PF X W a f) (na : starEach [a] X.env = (false, eval a X.env) :: starEach [] X.env := by rfl)
    (na2 : starEach [.Call (.Name "range" p2) [a] [] pos2] X.env = (false, eval (.Call (.Name "range" p2) [a] [] pos2) X.env) :: starEach [] X.env := by rfl) : PV X W (.Call (.Name "list" p) [.Call (.Name "range" p2) [a] [] pos2] [] pos) (vLR1 f) :=
  ⟨fun f0 h0 => (pe_listRg hc hg hm (prg_1 hg2 hm2 (h.run f0 h0) na) na2).imp fun σ H Q ⟨Hf, Γ, fr, st, p⟩ => ⟨Hf, Γ, fr, st, Post.bind p fun d Γ1 _ v H1 Hf1 s1 ⟨st1, z⟩ q => by
    cases d with
    | int j =>
      cases z
      dsimp only at q
      split at q
      · rename_i c
        refine ⟨j, rfl, .of_le (Int.le_refl _) c.2 (by decide) c.1, fun l n => q _ _ Hf1 (Same.refl _) (st1.pushN ?_)⟩
        have := fz_range (K := X.K) (Hf := Hf1) 0 j
        rw [Int.sub_zero] at this
        exact .lst st1.sub n this
      · exact q.elim
    | _ => exact q.elim⟩⟩
theorem pf_tr1 {f : Ev → Out D} (hc : X.calm = true) (hg : Gl X "tuple") (hm : X.mg "tuple" = none) (hg2 : Gl X "range") (hm2 : X.mg "range" = none) (h : PF X W a f) (na : starEach [a] X.env = (false, eval a X.env) :: starEach [] X.env := by rfl)
    (na2 : starEach [.Call (.Name "range" p2) [a] [] pos2] X.env = (false, eval (.Call (.Name "range" p2) [a] [] pos2) X.env) :: starEach [] X.env := by rfl) : PF X W (.Call (.Name "tuple" p) [.Call (.Name "range" p2) [a] [] pos2] [] pos) (fTR1 f) :=
  ⟨fun f0 h0 => (pe_tupRg hc hg hm (prg_1 hg2 hm2 (h.run f0 h0) na) na2).imp fun σ H Q ⟨Hf, Γ, fr, st, p⟩ => ⟨Hf, Γ, fr, st, Post.bind p fun d Γ1 _ v H1 Hf1 s1 ⟨st1, z⟩ q => by
    cases d with
    | int j =>
      cases z
      dsimp only at q
      split at q
      · rename_i c
        refine ⟨j, rfl, .of_le (Int.le_refl _) c.2 (by decide) c.1, fun l n => ?_⟩
        have := fz_range (K := X.K) (Hf := Hf1) 0 j
        rw [Int.sub_zero] at this
        have nv := NewV.tup st1.sub n this
        have st2 := st1.pushN nv
        exact q _ _ _ nv.f1 ⟨st2.pop, st2.top⟩
      · exact q.elim
    | _ => exact q.elim⟩⟩
/-! ### int(..) of ints, flags, texts -/
def dIntV : List D → Option Va
  | [.int i] => some (.z, .int i)
  | [.bool b] => some (.z, .int (if b then 1 else 0))
  | [.str a] => if a.length ≤ 640 then (PySem.intText? a).map fun n => (.z, .int n) else none
  | _ => none
def rIntV : List V → Hp → VK → Prop := fun xs H Q => ((∃ i, xs = [.int i] ∧ Q (.int i) H) ∨ ∃ k, xs = [.bl k] ∧ Q (.int (if k then 1 else 0)) H) ∨ ∃ a n, xs = [.str a] ∧ PySem.intText? a = some n ∧ a.length ≤ 640 ∧ Q (.int n) H
theorem call_intV : CallR X (.type "int") rIntV := call_int1.or call_int_str
theorem cs_intV {K : PySem.W.Frag} : CallS K rIntV dIntV := fun Hf H xs ds z Q s h e q => by
  unfold dIntV at e
  split at e
  · obtain ⟨v, rfl, hh⟩ := h.one
    cases e
    cases hh.int
    exact .inl (.inl ⟨_, rfl, q _ H Hf (.z s (.int _))⟩)
  · obtain ⟨v, rfl, hh⟩ := h.one
    cases e
    cases hh.bool
    exact .inl (.inr ⟨_, rfl, q _ H Hf (.z s (.int _))⟩)
  · obtain ⟨v, rfl, hh⟩ := h.one
    split at e
    · cases hi : PySem.intText? ‹Str› with
      | none => rw [hi] at e; cases e
      | some n =>
        rw [hi] at e
        cases e
        cases hh.str
        exact .inr ⟨_, n, rfl, hi, ‹_›, q _ H Hf (.z s (.int _))⟩
    · cases e
  · cases e
theorem call_maxV (hc : X.calm = true) : CallR X (.builtin "max") (rMaxV X.K) := (cr_max hc).or (call_max2 hc)
theorem call_minV (hc : X.calm = true) : CallR X (.builtin "min") (rMinV X.K) := (cr_min hc).or (call_min2 hc)
/-! ### a < b < c -/
def vCh (op op' : D → D → Option Va) (a b c : Opn) : Ev → Out D := fun Γ => (a.f Γ).bind fun x Γ1 => (b.f Γ1).bind fun y Γ2 => match (a.l Γ2 x).bind fun x => (b.l Γ2 y).bind fun y => op x y with
  | some (.z, .bool true) => (c.f Γ2).bind fun w Γ3 => .of (((b.l Γ3 y).bind fun y => (c.l Γ3 w).bind fun w => op' y w).bind fun z => match z with | (.z, .bool k) => some (.bool k) | _ => none) Γ3
  | some (.z, .bool false) => .ok (.bool false) Γ2
  | _ => .st
theorem chain_of {g : GW} {r r' : R2} {op op' : D → D → Option Va} {oa ob oc : Opn} (hs : OpS g.h.K r op) (hs' : OpS g.h.K r' op') {σ : St} {H : Hp} {Q : VK} (h : tF g (vCh op op' oa ob oc) σ H Q) : tChain r r' (tO g oa) (tO g ob) (tO g oc) σ H Q := by
  obtain ⟨Hf, Γ, fr, st, p⟩ := h
  refine ⟨Hf, Γ, fr, st, Post.bind p fun x Γ1 _ v H1 Hf1 s1 ⟨st1, l1⟩ q => ⟨Hf1, Γ1, fr, st1, Post.bind q fun y Γ2 _ u H2 Hf2 s2 ⟨st2, l2⟩ q => ?_⟩⟩
  cases hb : (oa.l Γ2 x).bind fun x => (ob.l Γ2 y).bind fun y => op x y with
  | none => rw [hb] at q; exact q.elim
  | some z =>
    rw [hb] at q
    obtain ⟨x', y', e1, e2, e3⟩ := bind2 hb
    refine hs Hf2 H2 v u x' y' z _ st2.sub (l1 Γ2 Hf2 H2 fr s2 st2 x' e1) (l2 Γ2 Hf2 H2 fr (Same.refl _) st2 y' e2) e3 fun v' H' Hf' n => ?_
    have st3 := st2.pushN n
    obtain ⟨s, d⟩ := z
    cases s with
    | l _ => cases d <;> exact q.elim
    | z =>
      cases d with
      | bool k =>
        have z3 := st3.top
        cases z3
        cases k with
        | false => exact ⟨false, rfl, q _ H' Hf' n.f1 ⟨st3.pop, .bl _⟩⟩
        | true =>
          refine ⟨true, rfl, Hf', Γ2, fr, st3.pop, Post.bind (Post.mono q n.f1) fun w Γ3 _ t H4 Hf4 s4 ⟨st4, l4⟩ q => ?_⟩
          obtain ⟨c, e, q⟩ := Post.of q
          cases hb2 : (ob.l Γ3 y).bind fun y => (oc.l Γ3 w).bind fun w => op' y w with
          | none => rw [hb2] at e; cases e
          | some z' =>
            rw [hb2] at e
            obtain ⟨y2, w2, f1, f2, f3⟩ := bind2 hb2
            refine hs' Hf4 H4 u t y2 w2 z' _ st4.sub (l2 Γ3 Hf4 H4 fr (n.f1.trans s4) st4 y2 f1) (l4 Γ3 Hf4 H4 fr (Same.refl _) st4 w2 f2) f3 fun v' H5 Hf5 n5 => ?_
            have st5 := st4.pushN n5
            obtain ⟨s, d⟩ := z'
            cases s with
            | l _ => cases d <;> cases e
            | z =>
              cases d with
              | bool k =>
                cases e
                exact q _ H5 Hf5 n5.f1 ⟨st5.pop, st5.top⟩
              | _ => cases e
      | _ => exact q.elim
theorem pf_ch {op op' : CmpOp} {r r' : R2} {f f' : D → D → Option Va} {oa ob oc : Opn} (ho : OpR X (compareOp op) r) (hs : OpS X.K r f) (ho' : OpR X (compareOp op') r') (hs' : OpS X.K r' f') (ha : PZ X W a oa) (hb : PZ X W b ob) (hc : PZ X W c oc)
    (hm : lastMarks [op, op'] [b, c] = false := by with_unfolding_all rfl) : PF X W (.Compare a [op, op'] [b, c] pos) (vCh f f' oa ob oc) :=
  ⟨fun f0 h0 => (pe_chain ho ho' (ha.run f0 h0) (hb.run f0 h0) (hc.run f0 h0) hm).imp fun σ H Q h => chain_of hs hs' h⟩
theorem pb_ch {op op' : CmpOp} {r r' : R2} {f f' : D → D → Option Va} {oa ob oc : Opn} (ho : OpR X (compareOp op) r) (hs : OpS X.K r f) (ho' : OpR X (compareOp op') r') (hs' : OpS X.K r' f') (ha : PZ X W a oa) (hb : PZ X W b ob) (hc : PZ X W c oc)
    (hm : lastMarks [op, op'] [b, c] = false := by with_unfolding_all rfl) : PB X W (.Compare a [op, op'] [b, c] pos) (bF (vCh f f' oa ob oc)) :=
  ⟨fun f0 h0 => (pt_chain ho ho' (ha.run f0 h0) (hb.run f0 h0) (hc.run f0 h0) hm).imp fun σ H Q h => tTestF (f := vCh f f' oa ob oc) (fun Q h => chain_of (g := gh X W f0 h0) hs hs' h) h⟩
/-! ### a list or a tuple that is walked -/
def iLT (f : Ev → Out D) : Ev → Out (List D) := fun Γ => (f Γ).bind fun d Γ1 => match d with | .list ds => .ok ds Γ1 | .tuple ds => .ok ds Γ1 | _ => .st
theorem pi_lt {tg e : Expr} {f : Ev → Out D} (h : PF X W e f) : PIt X W tg e (iLT f) := ⟨fun f0 h0 => ⟨fun pins s σ H R I ⟨Hf, Γ, fr, st, q⟩ => by
  have hl := ((pi_l (tg := tg) h).run f0 h0).run pins s σ H R I
  have ht := ((pi_t (tg := tg) h).run f0 h0).run pins s σ H R I
  unfold iLT at q
  cases hf : f Γ with
  | ok d Γ1 =>
    rw [hf] at q
    cases d with
    | list ds => exact hl ⟨Hf, Γ, fr, st, by unfold iL; rw [hf]; exact q⟩
    | tuple ds => exact ht ⟨Hf, Γ, fr, st, by unfold iT; rw [hf]; exact q⟩
    | _ => exact q.elim
  | ex e Γ1 =>
    rw [hf] at q
    exact hl ⟨Hf, Γ, fr, st, by unfold iL; rw [hf]; exact q⟩
  | st => rw [hf] at q; exact q.elim⟩⟩
/-! ### a slot is frozen behind a statement; a slot is handed on whole -/
def sFz (i : Nat) (a : Ev → SO) : Ev → SO := fun Γ => match a Γ with
  | .nx Γ1 => (match Γ1[i]? with | some (some x) => .nx (Γ1.set i (some (.z, x.2))) | _ => .nx Γ1)
  | r => r
theorem ps_fz (i : Nat) {st : Stmt} {a : Ev → SO} (h : PSt X W st a) : PSt X W st (sFz i a) := ⟨fun f0 h0 => (h.run f0 h0).imp fun D σ H ⟨Hf, Γ, fr, st, q⟩ => by
  refine ⟨Hf, Γ, fr, st, ?_⟩
  unfold sFz at q
  cases ha : a Γ with
  | nx Γ1 =>
    rw [ha] at q
    dsimp only at q
    intro σ' H' Hf' s' st'
    split at q
    · rename_i x hx
      obtain ⟨Hf2, v, s2, _, st2⟩ := st'.frzSlot hx
      exact q σ' H' Hf2 (s'.trans s2) st2.pop
    · exact q σ' H' Hf' s' st'
  | rt x Γ1 => rw [ha] at q; exact q
  | bk Γ1 => rw [ha] at q; exact q
  | ct Γ1 => rw [ha] at q; exact q
  | ex e Γ1 => rw [ha] at q; exact q
  | st => rw [ha] at q; exact q⟩
def vMv (i : Nat) : Ev → Out Va := fun Γ => match Γ[i]? with | some (some x) => .ok x (Γ.set i none) | _ => .st
theorem StOk.take {g : Gh} {Hf H : Hp} {σ : St} {Γ : Ev} {fr : List (V × Va)} {i : Nat} {x : Va} (h : StOk g Hf H σ Γ fr) (hi : Γ[i]? = some (some x)) : ∃ v, σ[i]? = some (some v) ∧ StOk g Hf H σ (Γ.set i none) ((v, x) :: fr) := by
  obtain ⟨ω, h⟩ := h
  obtain ⟨v, e1, A, o, nd, hA⟩ := h.slots i x hi
  classical
  refine ⟨v, e1, fun a => if a ∈ A then some (.inr fr.length) else ω a, h.base, h.sub, h.old, h.new, fun a j e => ?_, by rw [List.length_set]; exact h.len, fun j y e => ?_, ⟨⟨A, o, nd, fun a ha => if_pos ha⟩, h.fr.mono (Same.refl _) fun a j hj e => ⟨rfl, ?_⟩⟩⟩
  · by_cases z : a ∈ A
    · exact h.own a _ (hA a z)
    · simp only [if_neg z] at e; exact h.own a j e
  · by_cases hj : i = j
    · subst hj
      rw [List.getElem?_set] at e
      simp at e
    · rw [List.getElem?_set_ne hj] at e
      obtain ⟨w, e2, q⟩ := h.slots j y e
      refine ⟨w, e2, q.mono (Same.refl _) fun a e => ⟨rfl, ?_⟩⟩
      have z : ¬ a ∈ A := fun z => by
        rw [hA a z] at e
        cases e
        exact hj rfl
      simp only [if_neg z]; exact e
  · have z : ¬ a ∈ A := fun z => by
      rw [hA a z] at e
      cases e
    simp only [if_neg z]; exact e
theorem pv_mv (i : Nat) {x : Str} (hN : X.N[i]? = some x := by rfl) (hv : Vis X.env.scope x := by first | exact Or.inl rfl | exact Or.inr (Or.inl rfl) | exact Or.inr (Or.inr rfl)) (hd : (x == ("__debug__" : Str)) = false := by decide)
    (hcd : (x == ("__classdict__" : Str)) = false := by decide) : PV X W (.Name x pos) (vMv i) := ⟨fun f0 h0 => (pe_var hN hv hd hcd).imp fun σ H Q ⟨Hf, Γ, fr, st, p⟩ => by
  unfold vMv at p
  split at p
  · rename_i y e
    obtain ⟨v, e1, st1⟩ := st.take e
    exact ⟨v, e1, p v H Hf (Same.refl _) st1⟩
  · exact p.elim⟩
end
end PV
namespace PV
open PySem PySem.Spec PyProof.Rows L2
abbrev S (x : String) : Str := Str.ofString x
def fuel : Nat := 1000000
theorem hU {k : Nat} {A : Around} (hr : Room k A) : A.units + 64 < cLine := hr.units
theorem hU1 {k : Nat} {A : Around} (hr : Room k A) : A.units + 1 < cLine := hu_of hr
theorem kit_int : ∀ t ∈ ["NoneType", "bool", "int", "str", "list", "tuple", "dict"], kitB t "int" = some (isB t "int") := by decide +kernel
theorem kit_bool : ∀ t ∈ ["NoneType", "bool", "int", "str", "list", "tuple", "dict"], kitB t "bool" = some (isB t "bool") := by decide +kernel
theorem kit_str : ∀ t ∈ ["NoneType", "bool", "int", "str", "list", "tuple", "dict"], kitB t "str" = some (isB t "str") := by decide +kernel
theorem kit_list : ∀ t ∈ ["NoneType", "bool", "int", "str", "list", "tuple", "dict"], kitB t "list" = some (isB t "list") := by decide +kernel
theorem kit_tuple : ∀ t ∈ ["NoneType", "bool", "int", "str", "list", "tuple", "dict"], kitB t "tuple" = some (isB t "tuple") := by decide +kernel
theorem kit_dict : ∀ t ∈ ["NoneType", "bool", "int", "str", "list", "tuple", "dict"], kitB t "dict" = some (isB t "dict") := by decide +kernel
def dAddI : D → D → Option Va
  | .int i, .int j => some (.z, .int (i + j))
  | _, _ => none
theorem ops_addI {K : PySem.W.Frag} : OpS K (rI0 fun i j => .int (i + j)) dAddI := ops_int0 fun dx dy z e => by
  cases dx <;> cases dy <;> cases e
  exact ⟨_, _, rfl, rfl, rfl⟩
theorem cs_abs {K : PySem.W.Frag} : CallS K (fun xs H Q => ∃ i, xs = [.int i] ∧ Q (.int (if i < 0 then -i else i)) H) dAbs := fun Hf H xs ds z Q s h e q => by
  unfold dAbs at e
  split at e
  · obtain ⟨v, rfl, hh⟩ := h.one
    cases e
    cases hh.int
    exact ⟨_, rfl, q _ H Hf (.z s (.int _))⟩
  · cases e
end PV
namespace PV
open PySem PySem.Spec PyProof.Rows L2
/-! ### the end -/
def scr (ns : List Int) : D := .dict [(.none, .list (ns.map .int))]
def spTop (K : PySem.W.Frag) : Sp := fun vs H Q _ => ∃ (a : Addr) (ns : List Int), vs = [.ref a] ∧ SqL K H a (ns.map V.int) ∧ ns.length ≤ 63 ∧ ∀ H', Q (.bl true) H'
theorem top_ok {P : Program} {w : World} {K : PySem.W.Frag} {mg : Str → Option Value} {base : Heap} {CX : CXT} {k : Nat} {f : Addr} {fd : FuncData} {ps : List Str} {F : List D → Res} (h : FnOk P w K mg base CX k f fd ps (spV K mg 1 F))
    (t : ∀ ns : List Int, ns.length ≤ 63 → F [scr ns] = .ok (.z, .bool true)) : FnOk P w K mg base CX k f fd ps (spTop K) := h.imp fun vs H Q E ⟨a, ns, e, hS, hl, q⟩ => by
  subst e
  refine ⟨H, [scr ns], rfl, Same.refl _, .cons (.scr ns hS) .nil, ?_⟩
  rw [t ns hl]
  intro v H' Hf' n
  obtain ⟨A, o, _⟩ := n.o
  have z : Fz K Hf' v (.bool true) := o.2
  cases z
  exact q H'
theorem cx_false {P : Program} {w : World} {outer : List Env} {H : L2.Hp} {s s' : Shared} {e : Value} (h : L2.CX P w outer H s (fun _ _ _ => False) e s') : False := by
  obtain ⟨_, _, _, _, _, _, _, _, _, _, _, _, z⟩ := h
  exact z
theorem exm_of {K : PySem.W.Frag} {C : Addr} (h1 : PySem.W.subIn K (.ref C) (.type "BaseException") = some true) (h2 : PySem.W.isClsIn K C = true) (h3 : PySem.W.typeIn K (.ref C) = some (.type "type")) (h4 : PySem.W.subIn K (.ref C) (.ref C) = some true) :
    PySem.W.exmOne K (.ref C) (.ref C) = some true := by
  have a1 : (PySem.W.subIn K (.ref C) (.type "BaseException") == some true) = true := by rw [h1]; rfl
  have a2 : ((PySem.W.clsIn K C).isSome && PySem.W.typeIn K (.ref C) == some (.type "type")) = true := by
    have z : (PySem.W.clsIn K C).isSome = true := h2
    rw [z, h3]
    rfl
  unfold PySem.W.exmOne
  simp only [a1, if_true]
  unfold PySem.W.kitCls
  simp only [a2, if_true]
  exact h4
/-- the rows of a written dict -/
def TabRows (K : PySem.W.Frag) (a : Addr) : List (Str × Option D) → Prop
  | [] => True
  | (x, none) :: r => PySem.W.nsIn K a x = some none ∧ TabRows K a r
  | (x, some d) :: r => (∃ u v, PySem.W.nsIn K a x = some (some u) ∧ RelV v u ∧ KD K v d) ∧ TabRows K a r
theorem rows_no {K : PySem.W.Frag} {a : Addr} {x : Str} : ∀ {tab : List (Str × Option D)}, TabRows K a tab → (x, none) ∈ tab → PySem.W.nsIn K a x = some none
  | (y, none) :: r, h, m => by
    rcases List.mem_cons.mp m with e | m
    · cases e; exact h.1
    · exact rows_no h.2 m
  | (y, some d) :: r, h, m => by
    rcases List.mem_cons.mp m with e | m
    · cases e
    · exact rows_no h.2 m
theorem rows_yes {K : PySem.W.Frag} {a : Addr} {x : Str} {d : D} : ∀ {tab : List (Str × Option D)}, TabRows K a tab → (x, some d) ∈ tab → ∃ u v, PySem.W.nsIn K a x = some (some u) ∧ RelV v u ∧ KD K v d
  | (y, none) :: r, h, m => by
    rcases List.mem_cons.mp m with e | m
    · cases e
    · exact rows_yes h.2 m
  | (y, some d') :: r, h, m => by
    rcases List.mem_cons.mp m with e | m
    · cases e; exact h.1
    · exact rows_yes h.2 m
theorem ktab_mk {K : PySem.W.Frag} {w : World} {a : Addr} {tab : List (Str × Option D)} (h : ∃ es n, KDict K w a es n) (r : TabRows K a tab) : KTab K w a tab := ⟨h, fun _ m => rows_no r m, fun _ _ m => rows_yes r m⟩
end PV
namespace K31
open PySem PySem.Spec PyProof.Rows L2 PV

/-! ### the text -/
def topS (i : Nat) : Stmt := PySem.Challenge.pw_pinsalone_k31_values_of_any_circuit.main.body.getD i (.Pass ⟨0, 0, 0, 0⟩)
abbrev s_cell_value : Stmt := topS 3
abbrev N_cell_value : List Str := ["kind", "values", "value"]
theorem sc_cell_value : FnScope N_cell_value ["kind", "values"] (defScope s_cell_value) := ⟨rfl, rfl, rfl, by decide +kernel, rfl, by decide +kernel, by decide +kernel⟩
abbrev s_check_bits : Stmt := topS 8
abbrev N_check_bits : List Str := ["bits", "count", "bit"]
theorem sc_check_bits : FnScope N_check_bits ["bits", "count"] (defScope s_check_bits) := ⟨rfl, rfl, rfl, by decide +kernel, rfl, by decide +kernel, by decide +kernel⟩
abbrev s_latch_cells : Stmt := topS 10
abbrev N_latch_cells : List Str := ["circuit", "cell"]
theorem sc_latch_cells : FnScope N_latch_cells ["circuit"] (defScope s_latch_cells) := ⟨rfl, rfl, rfl, by decide +kernel, rfl, by decide +kernel, by decide +kernel⟩
abbrev s_settled_values : Stmt := topS 11
abbrev N_settled_values : List Str := ["circuit", "inputs", "states", "stuck", "values", "left", "kind", "sources", "output", "value", "net", "bit"]
theorem sc_settled_values : FnScope N_settled_values ["circuit", "inputs", "states", "stuck"] (defScope s_settled_values) := ⟨rfl, rfl, rfl, by decide +kernel, rfl, by decide +kernel, by decide +kernel⟩
abbrev s_cell_values : Stmt := topS 12
abbrev N_cell_values : List Str := ["circuit", "inputs", "states"]
theorem sc_cell_values : FnScope N_cell_values ["circuit", "inputs", "states"] (defScope s_cell_values) := ⟨rfl, rfl, rfl, by decide +kernel, rfl, by decide +kernel, by decide +kernel⟩
abbrev s_circuit_outputs : Stmt := topS 13
abbrev N_circuit_outputs : List Str := ["circuit", "inputs", "states", "values", "net"]
theorem sc_circuit_outputs : FnScope N_circuit_outputs ["circuit", "inputs", "states"] (defScope s_circuit_outputs) := ⟨rfl, rfl, rfl, by decide +kernel, rfl, by decide +kernel, by decide +kernel⟩
abbrev s_circuit_next : Stmt := topS 14
abbrev N_circuit_next : List Str := ["circuit", "inputs", "states", "values", "cell"]
theorem sc_circuit_next : FnScope N_circuit_next ["circuit", "inputs", "states"] (defScope s_circuit_next) := ⟨rfl, rfl, rfl, by decide +kernel, rfl, by decide +kernel, by decide +kernel⟩
abbrev s_law_cell : Stmt := topS 16
abbrev N_law_cell : List Str := ["script", "k"]
theorem sc_law_cell : FnScope N_law_cell ["script", "k"] (defScope s_law_cell) := ⟨rfl, rfl, rfl, by decide +kernel, rfl, by decide +kernel, by decide +kernel⟩
abbrev s_law_parts : Stmt := topS 17
abbrev N_law_parts : List Str := ["cell", "sizes", "parts", "rest", "k", "mixed"]
theorem sc_law_parts : FnScope N_law_parts ["cell", "sizes"] (defScope s_law_parts) := ⟨rfl, rfl, rfl, by decide +kernel, rfl, by decide +kernel, by decide +kernel⟩
abbrev s_law_is_integer : Stmt := topS 18
abbrev N_law_is_integer : List Str := ["actual"]
theorem sc_law_is_integer : FnScope N_law_is_integer ["actual"] (defScope s_law_is_integer) := ⟨rfl, rfl, rfl, by decide +kernel, rfl, by decide +kernel, by decide +kernel⟩
abbrev s_law_is_bits : Stmt := topS 19
abbrev N_law_is_bits : List Str := ["actual", "count", "bit"]
theorem sc_law_is_bits : FnScope N_law_is_bits ["actual", "count"] (defScope s_law_is_bits) := ⟨rfl, rfl, rfl, by decide +kernel, rfl, by decide +kernel, by decide +kernel⟩
abbrev s_law_bits : Stmt := topS 20
abbrev N_law_bits : List Str := ["number", "count", "bits", "k"]
theorem sc_law_bits : FnScope N_law_bits ["number", "count"] (defScope s_law_bits) := ⟨rfl, rfl, rfl, by decide +kernel, rfl, by decide +kernel, by decide +kernel⟩
abbrev s_law_wrong : Stmt := topS 21
abbrev N_law_wrong : List Str := ["bits", "choice", "item", "at"]
theorem sc_law_wrong : FnScope N_law_wrong ["bits", "choice"] (defScope s_law_wrong) := ⟨rfl, rfl, rfl, by decide +kernel, rfl, by decide +kernel, by decide +kernel⟩
abbrev s_law_kind : Stmt := topS 22
abbrev N_law_kind : List Str := ["parts", "nets", "latches", "kinds", "kind"]
theorem sc_law_kind : FnScope N_law_kind ["parts", "nets", "latches"] (defScope s_law_kind) := ⟨rfl, rfl, rfl, by decide +kernel, rfl, by decide +kernel, by decide +kernel⟩
abbrev s_law_drawn : Stmt := topS 23
abbrev N_law_drawn : List Str := ["parts", "count", "nets", "left", "drawn", "k"]
theorem sc_law_drawn : FnScope N_law_drawn ["parts", "count", "nets"] (defScope s_law_drawn) := ⟨rfl, rfl, rfl, by decide +kernel, rfl, by decide +kernel, by decide +kernel⟩
abbrev s_law_circuit : Stmt := topS 24
abbrev N_law_circuit : List Str := ["script", "most", "head", "cells", "latches", "total", "net", "parts", "kind", "outputs", "k"]
theorem sc_law_circuit : FnScope N_law_circuit ["script", "most"] (defScope s_law_circuit) := ⟨rfl, rfl, rfl, by decide +kernel, rfl, by decide +kernel, by decide +kernel⟩
abbrev s_law_value : Stmt := topS 25
abbrev N_law_value : List Str := ["kind", "bits"]
theorem sc_law_value : FnScope N_law_value ["kind", "bits"] (defScope s_law_value) := ⟨rfl, rfl, rfl, by decide +kernel, rfl, by decide +kernel, by decide +kernel⟩
abbrev s_law_values : Stmt := topS 26
abbrev N_law_values : List Str := ["circuit", "inputs", "states", "values", "latch", "cell", "net"]
theorem sc_law_values : FnScope N_law_values ["circuit", "inputs", "states"] (defScope s_law_values) := ⟨rfl, rfl, rfl, by decide +kernel, rfl, by decide +kernel, by decide +kernel⟩
abbrev s_law_refuses : Stmt := topS 27
abbrev N_law_refuses : List Str := ["circuit", "inputs", "states", "count"]
theorem sc_law_refuses : FnScope N_law_refuses ["circuit", "inputs", "states"] (defScope s_law_refuses) := ⟨rfl, rfl, rfl, by decide +kernel, rfl, by decide +kernel, by decide +kernel⟩
abbrev s_law_right_case : Stmt := topS 28
abbrev N_law_right_case : List Str := ["circuit", "inputs", "states", "due", "passed", "told", "following", "cell", "net"]
theorem sc_law_right_case : FnScope N_law_right_case ["circuit", "inputs", "states"] (defScope s_law_right_case) := ⟨rfl, rfl, rfl, by decide +kernel, rfl, by decide +kernel, by decide +kernel⟩
abbrev s_law_bare : Stmt := topS 29
abbrev N_law_bare : List Str := ["script", "circuit", "net"]
theorem sc_law_bare : FnScope N_law_bare ["script", "circuit"] (defScope s_law_bare) := ⟨rfl, rfl, rfl, by decide +kernel, rfl, by decide +kernel, by decide +kernel⟩
abbrev s_law : Stmt := topS 30
abbrev N_law : List Str := ["script", "circuit", "latches", "parts", "k", "bits", "inputs", "states"]
theorem sc_law : FnScope N_law ["script"] (defScope s_law) := ⟨rfl, rfl, rfl, by decide +kernel, rfl, by decide +kernel, by decide +kernel⟩
/-! ### what each def computes -/
def m_InvalidValues : Str → Option Bool := fun n => if n = S "InvalidValues" then some true else none
def tab_CONSTANTS : List (Str × Option D) := [(S "tie0", some (.int 0)), (S "tie1", some (.int 1)), (S "not", none), (S "nand2", none), (S "nand3", none), (S "nor2", none), (S "nor3", none)]
def kd_NANDS : D := (.tuple [(.str (S "not")), (.str (S "nand2")), (.str (S "nand3"))])
def ce_cell_value_1 : Ev → Out D := (fV (o2 dEq (oF (fN 2)) (oF (fC (.int 1)))))
def ce_cell_value_2 : Ev → Out D := (fV (o2 dEq (oF (fN 2)) (oF (fC (.int 1)))))
def fb_cell_value : Ev → SO := (sSeq (sIf (bF (fIn false tab_CONSTANTS (oF (fN 0))))
  (sRet (vF (fGet tab_CONSTANTS (oF (fN 0)))))
  sNx)
  (sSeq (sIf (bV (o2 dIn (oF (fN 0)) (oF (fC kd_NANDS))))
  (sRet (fB dIntV (osC (oF (fNot (fV (fB dAll (osC (oF (fV (vComp [2] (iLT (fN 1)) (gN 2) bYes ce_cell_value_1))) osN))))) osN)))
  sNx)
  (sRet (fB dIntV (osC (oF (fNot (fV (fB dAny (osC (oF (fV (vComp [2] (iLT (fN 1)) (gN 2) bYes ce_cell_value_2))) osN))))) osN)))))
def F_cell_value : List D → Res := runD 3 2 fb_cell_value
def lb_check_bits_1 : Ev → SO := (sIf (bAnd (bV (o2 dNe (oF (fN 2)) (oF (fC (.int 0))))) (bV (o2 dNe (oF (fN 2)) (oF (fC (.int 1))))))
  (sRaise ⟨(S "InvalidValues"), []⟩)
  sNx)
def fb_check_bits : Ev → SO := (sSeq (sIf (bV (o2 dNe (oF (fV (fB dLen (osC (oF (fN 0)) osN)))) (oF (fN 1))))
  (sRaise ⟨(S "InvalidValues"), []⟩)
  sNx)
  (sFor (iLT (fN 0)) (gN 2)
  lb_check_bits_1))
def F_check_bits : List D → Res := runD 3 2 fb_check_bits
def ce_latch_cells_1 : Ev → Out D := (fN 1)
def cc_latch_cells_1 : Ev → Out Bool := (bV (o2 dEq (oF (fV (o2 dAt (oF (fN 1)) (oF (fC (.int 0)))))) (oF (fC (.str (S "latch"))))))
def fb_latch_cells : Ev → SO := (sRet (vComp [1] (iLT (fV (o2 dAt (oF (fN 0)) (oF (fC (.int 1)))))) (gN 1) cc_latch_cells_1 ce_latch_cells_1))
def F_latch_cells : List D → Res := runD 2 1 fb_latch_cells
def ce_settled_values_1 : Ev → Out D := (fGet2 (fN 3) (fN 10) (fN 11))
def ce_settled_values_2 : Ev → Out D := (fV (o2 dAt (oB 4) (oF (fN 10))))
def lb_settled_values_1 : Ev → SO := (sSeq (sIf (bV (o2 dEq (oF (fN 6)) (oF (fC (.str (S "latch"))))))
  (sAsg 9 (vF (fMt 5 mPop (fsC (fC (.int 0)) fsN))))
  (sAsg 9 (vF (fV (fCall 2 F_cell_value (fsC (fN 6) (fsC (fV (vComp [10] (iLT (fN 7)) (gN 10) bYes ce_settled_values_2)) fsN)))))))
  (sExp (fMt 4 mAppend (fsC (fGet2 (fN 3) (fN 8) (fN 9)) fsN))))
def fb_settled_values : Ev → SO := (sSeq (sAsg 4 (vComp [10, 11] (iEn (fsC (fN 1) fsN)) (gT (gsC (gN 10) (gsC (gN 11) gsN))) bYes ce_settled_values_1))
  (sSeq (sAsg 5 (fB dListOf (osC (oF (fN 2)) osN)))
  (sSeq (sFor (iLT (fV (o2 dAt (oF (fN 0)) (oF (fC (.int 1)))))) (gT (gsC (gN 6) (gsC (gN 7) (gsC (gN 8) gsN))))
  lb_settled_values_1)
  (sRet (vMv 4)))))
def F_settled_values : List D → Res := runD 12 4 fb_settled_values
def fb_cell_values : Ev → SO := (sSeq (sExp (fV (fCall 2 F_check_bits (fsC (fN 1) (fsC (fV (o2 dAt (oF (fN 0)) (oF (fC (.int 0))))) fsN)))))
  (sSeq (sExp (fV (fCall 2 F_check_bits (fsC (fN 2) (fsC (fV (fB dLen (osC (oF (fV (fCall 1 F_latch_cells (fsC (fN 0) fsN)))) osN))) fsN)))))
  (sRet (fCall 4 F_settled_values (fsC (fN 0) (fsC (fN 1) (fsC (fN 2) (fsC fDct0 fsN))))))))
def F_cell_values : List D → Res := runD 3 3 fb_cell_values
def ce_circuit_outputs_1 : Ev → Out D := (fV (o2 dAt (oF (fN 3)) (oF (fN 4))))
def fb_circuit_outputs : Ev → SO := (sSeq (sAsg 3 (vF (fV (fCall 3 F_cell_values (fsC (fN 0) (fsC (fN 1) (fsC (fN 2) fsN)))))))
  (sRet (vComp [4] (iLT (fV (o2 dAt (oF (fN 0)) (oF (fC (.int 2)))))) (gN 4) bYes ce_circuit_outputs_1)))
def F_circuit_outputs : List D → Res := runD 5 3 fb_circuit_outputs
def ce_circuit_next_1 : Ev → Out D := (fV (o2 dAt (oF (fN 3)) (oF (fV (o2 dAt (oF (fV (o2 dAt (oF (fN 4)) (oF (fC (.int 1)))))) (oF (fC (.int 0))))))))
def fb_circuit_next : Ev → SO := (sSeq (sAsg 3 (vF (fV (fCall 3 F_cell_values (fsC (fN 0) (fsC (fN 1) (fsC (fN 2) fsN)))))))
  (sRet (vComp [4] (iLT (fV (fCall 1 F_latch_cells (fsC (fN 0) fsN)))) (gN 4) bYes ce_circuit_next_1)))
def F_circuit_next : List D → Res := runD 5 3 fb_circuit_next
def fb_law_cell : Ev → SO := (sSeq (sIf (bV (o2 dLt (oF (fN 1)) (oF (fV (fB dLen (osC (oF (fN 0)) osN))))))
  (sRet (o2 dAt (oF (fN 0)) (oF (fN 1))))
  sNx)
  (sRet (vF (fC (.int 0)))))
def F_law_cell : List D → Res := runD 2 2 fb_law_cell
def lb_law_parts_1 : Ev → SO := (sIf (bV (o2 dGe (oF (fN 3)) (oF (fC (.int 0)))))
  (sSeq (sExp (fMt 2 mAppend (fsC (fV (o2 dMod (oF (fV (fB dIntV (osC (oF (fN 3)) osN)))) (oF (fV (o2 dAt (oF (fN 1)) (oF (fN 4))))))) fsN)))
  (sAsg 3 (vF (fV (o2 dDiv (oF (fN 3)) (oF (fV (o2 dAt (oF (fN 1)) (oF (fN 4))))))))))
  (sSeq (sAsg 5 (vF (fV (o2 dMod (oF (fV (fB dIntV (osC (oF (fV (o2 dAdd (oF (fV (o2 dAdd (oF (fV (o2 dMul (oF (fN 0)) (oF (fC (.int 48271)))))) (oF (fV (o2 dMul (oF (fN 4)) (oF (fC (.int 69621))))))))) (oF (fC (.int 11)))))) osN)))) (oF (fC (.int 2147483647)))))))
  (sSeq (sAsg 5 (vF (fV (o2 dMod (oF (fV (fB dIntV (osC (oF (fV (o2 dAdd (oF (fV (o2 dAdd (oF (fV (o2 dMul (oF (fN 5)) (oF (fN 5))))) (oF (fV (o2 dMul (oF (fC (.int 16807))) (oF (fN 4)))))))) (oF (fC (.int 5)))))) osN)))) (oF (fC (.int 998244353)))))))
  (sExp (fMt 2 mAppend (fsC (fV (o2 dMod (oF (fV (fB dIntV (osC (oF (fN 5)) osN)))) (oF (fV (o2 dAt (oF (fN 1)) (oF (fN 4))))))) fsN))))))
def fb_law_parts : Ev → SO := (sSeq (sAsg 2 (fLst fsN))
  (sSeq (sAsg 3 (vF (fV (o2 dSub (oF (fN 0)) (oF (fV (o2 dPow (oF (fC (.int 10))) (oF (fC (.int 18))))))))))
  (sSeq (sFor (iR1 (fsC (fV (fB dLen (osC (oF (fN 1)) osN))) fsN)) (gN 4)
  lb_law_parts_1)
  (sRet (vMv 2)))))
def F_law_parts : List D → Res := runD 6 2 fb_law_parts
def fb_law_is_integer : Ev → SO := (sRet (vAnd (fIsi "int" (oF (fN 0))) (vF (fNot (fIsi "bool" (oF (fN 0)))))))
def F_law_is_integer : List D → Res := runD 1 1 fb_law_is_integer
def lb_law_is_bits_1 : Ev → SO := (sIf (bOr (bNot (bO (oF (fV (fCall 1 F_law_is_integer (fsC (fN 2) fsN)))))) (bOr (bV (o2 dLt (oF (fN 2)) (oF (fC (.int 0))))) (bV (o2 dGt (oF (fN 2)) (oF (fC (.int 1)))))))
  (sRet (vF (fC (.bool false))))
  sNx)
def fb_law_is_bits : Ev → SO := (sSeq (sIf (bOr (bNot (bO (oF (fIsi "list" (oF (fN 0)))))) (bV (o2 dNe (oF (fV (fB dLen (osC (oF (fN 0)) osN)))) (oF (fN 1)))))
  (sRet (vF (fC (.bool false))))
  sNx)
  (sSeq (sFor (iLT (fN 0)) (gN 2)
  lb_law_is_bits_1)
  (sRet (vF (fC (.bool true))))))
def F_law_is_bits : List D → Res := runD 3 2 fb_law_is_bits
def lb_law_bits_1 : Ev → SO := (sSeq (sExp (fMt 2 mAppend (fsC (fV (o2 dMod (oF (fV (fB dIntV (osC (oF (fN 0)) osN)))) (oF (fC (.int 2))))) fsN)))
  (sAsg 0 (vF (fV (o2 dDiv (oF (fN 0)) (oF (fC (.int 2))))))))
def fb_law_bits : Ev → SO := (sSeq (sAsg 2 (fLst fsN))
  (sSeq (sFor (iR1 (fsC (fN 1) fsN)) (gN 3)
  lb_law_bits_1)
  (sRet (vMv 2))))
def F_law_bits : List D → Res := runD 4 2 fb_law_bits
def fb_law_wrong : Ev → SO := (sSeq (sAsg 2 (vF (fV (o2 dAt (oF (fV (fLst (fsC (fC (.int 2)) (fsC (fNeg (fC (.int 1))) (fsC (fC (.int 3)) (fsC (fV (o2 dAdd (oF (fC (.int 11))) (oF (fN 1)))) fsN))))))) (oF (fV (o2 dMod (oF (fV (o2 dDiv (oF (fV (fB dIntV (osC (oF (fN 1)) osN)))) (oF (fC (.int 3)))))) (oF (fC (.int 4))))))))))
  (sSeq (sAsg 3 (vF (fV (o2 dMod (oF (fV (o2 dDiv (oF (fV (fB dIntV (osC (oF (fN 1)) osN)))) (oF (fC (.int 12)))))) (oF (fV (o2 dAdd (oF (fV (fB dLen (osC (oF (fN 0)) osN)))) (oF (fC (.int 1))))))))))
  (sSeq (sIf (bV (o2 dEq (oF (fV (o2 dMod (oF (fV (fB dIntV (osC (oF (fN 1)) osN)))) (oF (fC (.int 3)))))) (oF (fC (.int 0)))))
  (sRet (o2 dAdd (oF (fV (o2 dAdd (oF (fV (vCut (oF (fN 0)) fPN (fPS (fN 3))))) (oF (fV (fLst (fsC (fC (.int 1)) fsN))))))) (oF (fV (vCut (oF (fN 0)) (fPS (fN 3)) fPN)))))
  sNx)
  (sSeq (sIf (bV (o2 dEq (oF (fV (fB dLen (osC (oF (fN 0)) osN)))) (oF (fC (.int 0)))))
  (sRet (fLst (fsC (fN 2) fsN)))
  sNx)
  (sSeq (sAsg 3 (vF (fV (o2 dMod (oF (fV (fB dIntV (osC (oF (fN 3)) osN)))) (oF (fV (fB dLen (osC (oF (fN 0)) osN))))))))
  (sSeq (sIf (bV (o2 dEq (oF (fV (o2 dMod (oF (fV (fB dIntV (osC (oF (fN 1)) osN)))) (oF (fC (.int 3)))))) (oF (fC (.int 1)))))
  (sRet (o2 dAdd (oF (fV (vCut (oF (fN 0)) fPN (fPS (fN 3))))) (oF (fV (vCut (oF (fN 0)) (fPS (fV (o2 dAdd (oF (fN 3)) (oF (fC (.int 1)))))) fPN)))))
  sNx)
  (sRet (o2 dAdd (oF (fV (o2 dAdd (oF (fV (vCut (oF (fN 0)) fPN (fPS (fN 3))))) (oF (fV (fLst (fsC (fN 2) fsN))))))) (oF (fV (vCut (oF (fN 0)) (fPS (fV (o2 dAdd (oF (fN 3)) (oF (fC (.int 1)))))) fPN)))))))))))
def F_law_wrong : List D → Res := runD 4 2 fb_law_wrong
def fb_law_kind : Ev → SO := (sSeq (sAsg 3 (vF (fV (fLst (fsC (fC (.str (S "not"))) (fsC (fC (.str (S "not"))) (fsC (fC (.str (S "nand2"))) (fsC (fC (.str (S "nand2"))) (fsC (fC (.str (S "nand2"))) (fsC (fC (.str (S "nand3"))) (fsC (fC (.str (S "nand3"))) (fsC (fC (.str (S "nor2"))) (fsC (fC (.str (S "nor2"))) (fsC (fC (.str (S "nor2"))) (fsC (fC (.str (S "nor3"))) (fsC (fC (.str (S "nor3"))) fsN))))))))))))))))
  (sSeq (sAsg 4 (vF (fV (o2 dAt (oF (fV (o2 dAdd (oF (fN 3)) (oF (fV (fLst (fsC (fC (.str (S "latch"))) (fsC (fC (.str (S "latch"))) (fsC (fC (.str (S "tie0"))) (fsC (fC (.str (S "tie1"))) fsN)))))))))) (oF (fV (o2 dAt (oF (fN 0)) (oF (fC (.int 0))))))))))
  (sSeq (sIf (bAnd (bV (o2 dEq (oF (fN 4)) (oF (fC (.str (S "latch")))))) (bV (o2 dEq (oF (fN 2)) (oF (fC (.int 4))))))
  (sAsg 4 (vF (fC (.str (S "not")))))
  sNx)
  (sSeq (sIf (bAnd (bV (o2 dEq (oF (fN 1)) (oF (fC (.int 0))))) (bV (o2 dNe (oF (fN 4)) (oF (fC (.str (S "latch")))))))
  (sRet (o2 dAt (oF (fV (fLst (fsC (fC (.str (S "tie0"))) (fsC (fC (.str (S "tie1"))) fsN))))) (oF (fV (o2 dMod (oF (fV (fB dIntV (osC (oF (fV (o2 dAt (oF (fN 0)) (oF (fC (.int 1)))))) osN)))) (oF (fC (.int 2))))))))
  sNx)
  (sSeq (sIf (bAnd (bV (o2 dIn (oF (fN 4)) (oF (fV (fLst (fsC (fC (.str (S "nand2"))) (fsC (fC (.str (S "nor2"))) (fsC (fC (.str (S "nand3"))) (fsC (fC (.str (S "nor3"))) fsN))))))))) (bV (o2 dLt (oF (fN 1)) (oF (fV (fB dIntV (osC (oF (fV (o2 dAt (oF (fN 4)) (oF (fNeg (fC (.int 1))))))) osN)))))))
  (sRet (o2 dAt (oF (fV (fLst (fsC (fC (.str (S "not"))) (fsC (fC (.str (S "nand2"))) fsN))))) (oF (fV (o2 dSub (oF (fN 1)) (oF (fC (.int 1))))))))
  sNx)
  (sRet (vF (fN 4))))))))
def F_law_kind : List D → Res := runD 5 3 fb_law_kind
def lb_law_drawn_1 : Ev → SO := (sExp (fMt 4 mAppend (fsC (fMt 3 mPop (fsC (fV (o2 dMod (oF (fV (fB dIntV (osC (oF (fV (o2 dAt (oF (fN 0)) (oF (fV (o2 dAdd (oF (fC (.int 1))) (oF (fN 5)))))))) osN)))) (oF (fV (fB dLen (osC (oB 3) osN)))))) fsN)) fsN)))
def fb_law_drawn : Ev → SO := (sSeq (sAsg 3 (vLR1 (fN 2)))
  (sSeq (sAsg 4 (fLst fsN))
  (sSeq (sFor (iR1 (fsC (fN 1) fsN)) (gN 5)
  lb_law_drawn_1)
  (sRet (fB dTupOf (osC (oB 4) osN))))))
def F_law_drawn : List D → Res := runD 6 3 fb_law_drawn
def lb_law_circuit_1 : Ev → SO := (sSeq (sAsg 7 (vF (fV (fCall 2 F_law_parts (fsC (fV (fCall 2 F_law_cell (fsC (fN 0) (fsC (fV (o2 dSub (oF (fV (o2 dAdd (oF (fC (.int 3))) (oF (fN 6))))) (oF (fV (o2 dAt (oF (fN 2)) (oF (fC (.int 0)))))))) fsN)))) (fsC (fV (fLst (fsC (fC (.int 16)) (fsC (fC (.int 100)) (fsC (fC (.int 100)) (fsC (fC (.int 100)) fsN)))))) fsN))))))
  (sSeq (sAsg 8 (vF (fV (fCall 3 F_law_kind (fsC (fN 7) (fsC (fN 6) (fsC (fN 4) fsN)))))))
  (sIf (bV (o2 dEq (oF (fN 8)) (oF (fC (.str (S "latch"))))))
  (sSeq (sAsg 4 (vF (fV (o2 dAdd (oF (fN 4)) (oF (fC (.int 1)))))))
  (sExp (fMt 3 mAppend (fsC (fTup (fsC (fN 8) (fsC (fV (fCall 3 F_law_drawn (fsC (fN 7) (fsC (fC (.int 1)) (fsC (fN 5) fsN))))) (fsC (fN 6) fsN)))) fsN))))
  (sIf (bV (o2 dIn (oF (fN 8)) (oF (fV (fLst (fsC (fC (.str (S "tie0"))) (fsC (fC (.str (S "tie1"))) fsN)))))))
  (sExp (fMt 3 mAppend (fsC (fTup (fsC (fN 8) (fsC (fTup fsN) (fsC (fN 6) fsN)))) fsN)))
  (sIf (bV (o2 dEq (oF (fN 8)) (oF (fC (.str (S "not"))))))
  (sExp (fMt 3 mAppend (fsC (fTup (fsC (fN 8) (fsC (fV (fCall 3 F_law_drawn (fsC (fN 7) (fsC (fC (.int 1)) (fsC (fN 6) fsN))))) (fsC (fN 6) fsN)))) fsN)))
  (sExp (fMt 3 mAppend (fsC (fTup (fsC (fN 8) (fsC (fV (fCall 3 F_law_drawn (fsC (fN 7) (fsC (fV (fB dIntV (osC (oF (fV (o2 dAt (oF (fN 8)) (oF (fNeg (fC (.int 1))))))) osN))) (fsC (fN 6) fsN))))) (fsC (fN 6) fsN)))) fsN))))))))
def ce_law_circuit_1 : Ev → Out D := (fV (o2 dMod (oF (fV (fB dIntV (osC (oF (fV (o2 dAdd (oF (fV (o2 dAt (oF (fN 2)) (oF (fC (.int 2)))))) (oF (fV (o2 dMul (oF (fN 10)) (oF (fV (o2 dAt (oF (fN 2)) (oF (fC (.int 3)))))))))))) osN)))) (oF (fN 5))))
def ce_law_circuit_2 : Ev → Out D := (fV (o2 dMod (oF (fV (fB dIntV (osC (oF (fV (o2 dAdd (oF (fV (o2 dAt (oF (fN 2)) (oF (fC (.int 2)))))) (oF (fN 10))))) osN)))) (oF (fC (.int 4)))))
def fb_law_circuit : Ev → SO := (sSeq (sAsg 2 (vF (fV (fCall 2 F_law_parts (fsC (fV (fCall 2 F_law_cell (fsC (fN 0) (fsC (fC (.int 0)) fsN)))) (fsC (fV (fLst (fsC (fC (.int 7)) (fsC (fC (.int 6)) (fsC (fC (.int 100)) (fsC (fC (.int 100)) fsN)))))) fsN))))))
  (sSeq (sAsg 3 (fLst fsN))
  (sSeq (sAsg 4 (vF (fC (.int 0))))
  (sSeq (sAsg 5 (vF (fV (o2 dAdd (oF (fV (o2 dAt (oF (fN 2)) (oF (fC (.int 0)))))) (oF (fV (fB dMin (osC (oF (fN 1)) (osC (oF (fV (fB dMax (osC (oF (fC (.int 1))) (osC (oF (fV (o2 dSub (oF (fV (fB dLen (osC (oF (fN 0)) osN)))) (oF (fC (.int 3)))))) osN))))) osN)))))))))
  (sSeq (sFor (iR2 (fsC (fV (o2 dAt (oF (fN 2)) (oF (fC (.int 0))))) (fsC (fN 5) fsN))) (gN 6)
  lb_law_circuit_1)
  (sSeq (sAsg 9 (vF (fV (fB dTupOf (osC (oF (fV (vComp [10] (iR1 (fsC (fV (o2 dAdd (oF (fC (.int 1))) (oF (fV (o2 dAt (oF (fN 2)) (oF (fC (.int 1)))))))) fsN)) (gN 10) bYes ce_law_circuit_1))) osN)))))
  (sRet (vF (fTup (fsC (fV (o2 dAt (oF (fN 2)) (oF (fC (.int 0))))) (fsC (fV (fB dTupOf (osC (oB 3) osN))) (fsC (fN 9) (fsC (fV (fB dTupOf (osC (oF (fV (vComp [10] (iR1 (fsC (fN 4) fsN)) (gN 10) bYes ce_law_circuit_2))) osN))) fsN)))))))))))))
def F_law_circuit : List D → Res := runD 11 2 fb_law_circuit
def fb_law_value : Ev → SO := (sSeq (sIf (bV (o2 dEq (oF (fV (vCut (oF (fN 0)) fPN (fPS (fC (.int 3)))))) (oF (fC (.str (S "tie"))))))
  (sRet (fB dIntV (osC (oF (fV (o2 dAt (oF (fN 0)) (oF (fC (.int 3)))))) osN)))
  sNx)
  (sSeq (sIf (bV (o2 dEq (oF (fV (vCut (oF (fN 0)) fPN (fPS (fC (.int 3)))))) (oF (fC (.str (S "nor"))))))
  (sRet (fB dIntV (osC (oF (fV (o2 dEq (oF (fV (fB dSum (osC (oF (fN 1)) osN)))) (oF (fC (.int 0)))))) osN)))
  sNx)
  (sRet (fB dIntV (osC (oF (fV (o2 dLt (oF (fV (fB dSum (osC (oF (fN 1)) osN)))) (oF (fV (fB dLen (osC (oF (fN 1)) osN))))))) osN)))))
def F_law_value : List D → Res := runD 2 2 fb_law_value
def ce_law_values_1 : Ev → Out D := (fV (o2 dAt (oB 3) (oF (fN 6))))
def lb_law_values_1 : Ev → SO := (sIf (bV (o2 dEq (oF (fV (o2 dAt (oF (fN 5)) (oF (fC (.int 0)))))) (oF (fC (.str (S "latch"))))))
  (sSeq (sExp (fMt 3 mAppend (fsC (fV (o2 dAt (oF (fN 2)) (oF (fN 4)))) fsN)))
  (sAsg 4 (vF (fV (o2 dAdd (oF (fN 4)) (oF (fC (.int 1))))))))
  (sExp (fMt 3 mAppend (fsC (fV (fCall 2 F_law_value (fsC (fV (o2 dAt (oF (fN 5)) (oF (fC (.int 0))))) (fsC (fV (vComp [6] (iLT (fV (o2 dAt (oF (fN 5)) (oF (fC (.int 1)))))) (gN 6) bYes ce_law_values_1)) fsN)))) fsN))))
def fb_law_values : Ev → SO := (sSeq (sAsg 3 (fB dListOf (osC (oF (fN 1)) osN)))
  (sSeq (sAsg 4 (vF (fC (.int 0))))
  (sSeq (sFor (iLT (fV (o2 dAt (oF (fN 0)) (oF (fC (.int 1)))))) (gN 5)
  lb_law_values_1)
  (sRet (vMv 3)))))
def F_law_values : List D → Res := runD 7 3 fb_law_values
def fb_law_refuses : Ev → SO := (sSeq (sAsg 3 (vF (fC (.int 0))))
  (sSeq (sTry m_InvalidValues
  (sExp (fV (fCall 3 F_cell_values (fsC (fN 0) (fsC (fN 1) (fsC (fN 2) fsN))))))
  (sAsg 3 (vF (fV (o2 dAdd (oF (fN 3)) (oF (fC (.int 1))))))))
  (sSeq (sTry m_InvalidValues
  (sExp (fV (fCall 3 F_circuit_outputs (fsC (fN 0) (fsC (fN 1) (fsC (fN 2) fsN))))))
  (sAsg 3 (vF (fV (o2 dAdd (oF (fN 3)) (oF (fC (.int 1))))))))
  (sSeq (sTry m_InvalidValues
  (sExp (fV (fCall 3 F_circuit_next (fsC (fN 0) (fsC (fN 1) (fsC (fN 2) fsN))))))
  (sAsg 3 (vF (fV (o2 dAdd (oF (fN 3)) (oF (fC (.int 1))))))))
  (sRet (o2 dEq (oF (fN 3)) (oF (fC (.int 3)))))))))
def F_law_refuses : List D → Res := runD 4 3 fb_law_refuses
def ce_law_right_case_1 : Ev → Out D := (fV (o2 dAt (oF (fN 3)) (oF (fV (o2 dAt (oF (fV (o2 dAt (oF (fN 7)) (oF (fC (.int 1)))))) (oF (fC (.int 0))))))))
def cc_law_right_case_1 : Ev → Out Bool := (bV (o2 dEq (oF (fV (o2 dAt (oF (fN 7)) (oF (fC (.int 0)))))) (oF (fC (.str (S "latch"))))))
def ce_law_right_case_2 : Ev → Out D := (fV (o2 dAt (oF (fN 3)) (oF (fN 8))))
def fb_law_right_case : Ev → SO := (sSeq (sAsg 3 (vF (fV (fCall 3 F_law_values (fsC (fN 0) (fsC (fN 1) (fsC (fN 2) fsN)))))))
  (sSeq (sAsg 4 (vF (fV (fLst (fsC (fV (fB dListOf (osC (oF (fN 1)) osN))) (fsC (fV (fB dListOf (osC (oF (fN 2)) osN))) fsN))))))
  (sSeq (sAsg 5 (fLst (fsC (fV (fCall 3 F_cell_values (fsC (fN 0) (fsC (fV (o2 dAt (oF (fN 4)) (oF (fC (.int 0))))) (fsC (fV (o2 dAt (oF (fN 4)) (oF (fC (.int 1))))) fsN))))) (fsC (fV (fCall 3 F_circuit_outputs (fsC (fN 0) (fsC (fV (o2 dAt (oF (fN 4)) (oF (fC (.int 0))))) (fsC (fV (o2 dAt (oF (fN 4)) (oF (fC (.int 1))))) fsN))))) fsN))))
  (sSeq (sExp (fMt 5 mAppend (fsC (fV (fCall 3 F_circuit_next (fsC (fN 0) (fsC (fV (o2 dAt (oF (fN 4)) (oF (fC (.int 0))))) (fsC (fV (o2 dAt (oF (fN 4)) (oF (fC (.int 1))))) fsN))))) fsN)))
  (sSeq (sFz 6 (sAsg 6 (vComp [7] (iLT (fV (o2 dAt (oF (fN 0)) (oF (fC (.int 1)))))) (gN 7) cc_law_right_case_1 ce_law_right_case_1)))
  (sSeq (sIf (bV (o2 dNe (oF (fN 4)) (oF (fV (fLst (fsC (fN 1) (fsC (fN 2) fsN)))))))
  (sRet (vF (fC (.bool false))))
  sNx)
  (sSeq (sIf (bOr (bNot (bO (oF (fV (fCall 2 F_law_is_bits (fsC (fV (o2 dAt (oB 5) (oF (fC (.int 0))))) (fsC (fV (fB dLen (osC (oF (fN 3)) osN))) fsN))))))) (bNot (bO (oF (fV (fCall 2 F_law_is_bits (fsC (fV (o2 dAt (oB 5) (oF (fC (.int 1))))) (fsC (fV (fB dLen (osC (oF (fV (o2 dAt (oF (fN 0)) (oF (fC (.int 2)))))) osN))) fsN))))))))
  (sRet (vF (fC (.bool false))))
  sNx)
  (sSeq (sIf (bNot (bO (oF (fV (fCall 2 F_law_is_bits (fsC (fV (o2 dAt (oB 5) (oF (fC (.int 2))))) (fsC (fV (fB dLen (osC (oF (fN 2)) osN))) fsN)))))))
  (sRet (vF (fC (.bool false))))
  sNx)
  (sRet (vAnd (fV (o2 dEq (oF (fV (o2 dAt (oB 5) (oF (fC (.int 0)))))) (oF (fN 3)))) (vAnd (fV (o2 dEq (oF (fV (o2 dAt (oB 5) (oF (fC (.int 1)))))) (oF (fV (vComp [8] (iLT (fV (o2 dAt (oF (fN 0)) (oF (fC (.int 2)))))) (gN 8) bYes ce_law_right_case_2))))) (o2 dEq (oF (fV (o2 dAt (oB 5) (oF (fC (.int 2)))))) (oF (fN 6))))))))))))))
def F_law_right_case : List D → Res := runD 9 3 fb_law_right_case
def ce_law_bare_1 : Ev → Out D := (fV (o2 dMod (oF (fV (fB dIntV (osC (oF (fN 2)) osN)))) (oF (fV (o2 dAt (oF (fN 1)) (oF (fC (.int 0))))))))
def fb_law_bare : Ev → SO := (sSeq (sIf (bOr (bV (o2 dEq (oF (fV (o2 dAt (oF (fN 1)) (oF (fC (.int 0)))))) (oF (fC (.int 0))))) (bV (o2 dNe (oF (fV (o2 dMod (oF (fV (fB dIntV (osC (oF (fV (fCall 2 F_law_cell (fsC (fN 0) (fsC (fC (.int 2)) fsN))))) osN)))) (oF (fC (.int 8)))))) (oF (fC (.int 5))))))
  (sRet (vF (fN 1)))
  sNx)
  (sRet (vF (fTup (fsC (fV (o2 dAt (oF (fN 1)) (oF (fC (.int 0))))) (fsC (fTup fsN) (fsC (fV (fB dTupOf (osC (oF (fV (vComp [2] (iLT (fV (o2 dAt (oF (fN 1)) (oF (fC (.int 2)))))) (gN 2) bYes ce_law_bare_1))) osN))) (fsC (fTup fsN) fsN))))))))
def F_law_bare : List D → Res := runD 3 2 fb_law_bare
def lb_law_1 : Ev → SO := (sSeq (sAsg 5 (vF (fV (fCall 2 F_law_bits (fsC (fV (o2 dAdd (oF (fV (o2 dAt (oF (fN 3)) (oF (fC (.int 0)))))) (oF (fN 4)))) (fsC (fC (.int 10)) fsN))))))
  (sSeq (sAsg 6 (vF (fV (vCut (oF (fN 5)) fPN (fPS (fV (o2 dAt (oF (fN 1)) (oF (fC (.int 0))))))))))
  (sSeq (sAsg 7 (vF (fV (vCut (oF (fN 5)) (fPS (fV (o2 dAt (oF (fN 1)) (oF (fC (.int 0)))))) (fPS (fV (o2 dAdd (oF (fV (o2 dAt (oF (fN 1)) (oF (fC (.int 0)))))) (oF (fN 2)))))))))
  (sIf (bNot (bO (oF (fV (fCall 3 F_law_right_case (fsC (fN 1) (fsC (fN 6) (fsC (fN 7) fsN))))))))
  (sRet (vF (fC (.bool false))))
  sNx))))
def fb_law : Ev → SO := (sSeq (sAsg 1 (vF (fV (fCall 2 F_law_bare (fsC (fN 0) (fsC (fV (fCall 2 F_law_circuit (fsC (fN 0) (fsC (fC (.int 40)) fsN)))) fsN))))))
  (sSeq (sAsg 2 (vF (fV (fB dLen (osC (oF (fV (o2 dAt (oF (fN 1)) (oF (fC (.int 3)))))) osN)))))
  (sSeq (sAsg 3 (vF (fV (fCall 2 F_law_parts (fsC (fV (fCall 2 F_law_cell (fsC (fN 0) (fsC (fC (.int 1)) fsN)))) (fsC (fV (fLst (fsC (fC (.int 1024)) (fsC (fC (.int 2)) (fsC (fC (.int 120)) fsN))))) fsN))))))
  (sSeq (sFor (iR1 (fsC (fC (.int 8)) fsN)) (gN 4)
  lb_law_1)
  (sSeq (sIf (bV (o2 dEq (oF (fV (o2 dAt (oF (fN 3)) (oF (fC (.int 1)))))) (oF (fC (.int 0)))))
  (sRet (fCall 3 F_law_refuses (fsC (fN 1) (fsC (fV (fCall 2 F_law_wrong (fsC (fN 6) (fsC (fV (o2 dAt (oF (fN 3)) (oF (fC (.int 2))))) fsN)))) (fsC (fN 7) fsN)))))
  sNx)
  (sRet (fCall 3 F_law_refuses (fsC (fN 1) (fsC (fN 6) (fsC (fV (fCall 2 F_law_wrong (fsC (fN 7) (fsC (fV (o2 dAt (oF (fN 3)) (oF (fC (.int 2))))) fsN)))) fsN))))))))))
def F_law : List D → Res := runD 8 1 fb_law
/-! ### what the top has left -/
structure Tx (K : PySem.W.Frag) (mg : Str → Option Value) (w : World) where
  f_cell_value : Addr
  fd_cell_value : FuncData
  f_check_bits : Addr
  fd_check_bits : FuncData
  f_latch_cells : Addr
  fd_latch_cells : FuncData
  f_settled_values : Addr
  fd_settled_values : FuncData
  f_cell_values : Addr
  fd_cell_values : FuncData
  f_circuit_outputs : Addr
  fd_circuit_outputs : FuncData
  f_circuit_next : Addr
  fd_circuit_next : FuncData
  f_law_cell : Addr
  fd_law_cell : FuncData
  f_law_parts : Addr
  fd_law_parts : FuncData
  f_law_is_integer : Addr
  fd_law_is_integer : FuncData
  f_law_is_bits : Addr
  fd_law_is_bits : FuncData
  f_law_bits : Addr
  fd_law_bits : FuncData
  f_law_wrong : Addr
  fd_law_wrong : FuncData
  f_law_kind : Addr
  fd_law_kind : FuncData
  f_law_drawn : Addr
  fd_law_drawn : FuncData
  f_law_circuit : Addr
  fd_law_circuit : FuncData
  f_law_value : Addr
  fd_law_value : FuncData
  f_law_values : Addr
  fd_law_values : FuncData
  f_law_refuses : Addr
  fd_law_refuses : FuncData
  f_law_right_case : Addr
  fd_law_right_case : FuncData
  f_law_bare : Addr
  fd_law_bare : FuncData
  f_law : Addr
  fd_law : FuncData
  c_InvalidValues : Addr
  a_CONSTANTS : Addr
  a_NANDS : V
  u_NANDS : Value
  F_cell_value : Fun K "cell_value" "cell_value" s_cell_value f_cell_value fd_cell_value
  g_cell_value : mg "cell_value" = some (.ref f_cell_value)
  kp_cell_value : PySem.W.keepIn K (.ref f_cell_value) = true
  b_cell_value : Binds K fd_cell_value ["kind", "values"] []
  F_check_bits : Fun K "check_bits" "check_bits" s_check_bits f_check_bits fd_check_bits
  g_check_bits : mg "check_bits" = some (.ref f_check_bits)
  kp_check_bits : PySem.W.keepIn K (.ref f_check_bits) = true
  b_check_bits : Binds K fd_check_bits ["bits", "count"] []
  F_latch_cells : Fun K "latch_cells" "latch_cells" s_latch_cells f_latch_cells fd_latch_cells
  g_latch_cells : mg "latch_cells" = some (.ref f_latch_cells)
  kp_latch_cells : PySem.W.keepIn K (.ref f_latch_cells) = true
  b_latch_cells : Binds K fd_latch_cells ["circuit"] []
  F_settled_values : Fun K "settled_values" "settled_values" s_settled_values f_settled_values fd_settled_values
  g_settled_values : mg "settled_values" = some (.ref f_settled_values)
  kp_settled_values : PySem.W.keepIn K (.ref f_settled_values) = true
  b_settled_values : Binds K fd_settled_values ["circuit", "inputs", "states", "stuck"] []
  F_cell_values : Fun K "cell_values" "cell_values" s_cell_values f_cell_values fd_cell_values
  g_cell_values : mg "cell_values" = some (.ref f_cell_values)
  kp_cell_values : PySem.W.keepIn K (.ref f_cell_values) = true
  b_cell_values : Binds K fd_cell_values ["circuit", "inputs", "states"] []
  F_circuit_outputs : Fun K "circuit_outputs" "circuit_outputs" s_circuit_outputs f_circuit_outputs fd_circuit_outputs
  g_circuit_outputs : mg "circuit_outputs" = some (.ref f_circuit_outputs)
  kp_circuit_outputs : PySem.W.keepIn K (.ref f_circuit_outputs) = true
  b_circuit_outputs : Binds K fd_circuit_outputs ["circuit", "inputs", "states"] []
  F_circuit_next : Fun K "circuit_next" "circuit_next" s_circuit_next f_circuit_next fd_circuit_next
  g_circuit_next : mg "circuit_next" = some (.ref f_circuit_next)
  kp_circuit_next : PySem.W.keepIn K (.ref f_circuit_next) = true
  b_circuit_next : Binds K fd_circuit_next ["circuit", "inputs", "states"] []
  F_law_cell : Fun K "_law_cell" "_law_cell" s_law_cell f_law_cell fd_law_cell
  g_law_cell : mg "_law_cell" = some (.ref f_law_cell)
  kp_law_cell : PySem.W.keepIn K (.ref f_law_cell) = true
  b_law_cell : Binds K fd_law_cell ["script", "k"] []
  F_law_parts : Fun K "_law_parts" "_law_parts" s_law_parts f_law_parts fd_law_parts
  g_law_parts : mg "_law_parts" = some (.ref f_law_parts)
  kp_law_parts : PySem.W.keepIn K (.ref f_law_parts) = true
  b_law_parts : Binds K fd_law_parts ["cell", "sizes"] []
  F_law_is_integer : Fun K "_law_is_integer" "_law_is_integer" s_law_is_integer f_law_is_integer fd_law_is_integer
  g_law_is_integer : mg "_law_is_integer" = some (.ref f_law_is_integer)
  kp_law_is_integer : PySem.W.keepIn K (.ref f_law_is_integer) = true
  b_law_is_integer : Binds K fd_law_is_integer ["actual"] []
  F_law_is_bits : Fun K "_law_is_bits" "_law_is_bits" s_law_is_bits f_law_is_bits fd_law_is_bits
  g_law_is_bits : mg "_law_is_bits" = some (.ref f_law_is_bits)
  kp_law_is_bits : PySem.W.keepIn K (.ref f_law_is_bits) = true
  b_law_is_bits : Binds K fd_law_is_bits ["actual", "count"] []
  F_law_bits : Fun K "_law_bits" "_law_bits" s_law_bits f_law_bits fd_law_bits
  g_law_bits : mg "_law_bits" = some (.ref f_law_bits)
  kp_law_bits : PySem.W.keepIn K (.ref f_law_bits) = true
  b_law_bits : Binds K fd_law_bits ["number", "count"] []
  F_law_wrong : Fun K "_law_wrong" "_law_wrong" s_law_wrong f_law_wrong fd_law_wrong
  g_law_wrong : mg "_law_wrong" = some (.ref f_law_wrong)
  kp_law_wrong : PySem.W.keepIn K (.ref f_law_wrong) = true
  b_law_wrong : Binds K fd_law_wrong ["bits", "choice"] []
  F_law_kind : Fun K "_law_kind" "_law_kind" s_law_kind f_law_kind fd_law_kind
  g_law_kind : mg "_law_kind" = some (.ref f_law_kind)
  kp_law_kind : PySem.W.keepIn K (.ref f_law_kind) = true
  b_law_kind : Binds K fd_law_kind ["parts", "nets", "latches"] []
  F_law_drawn : Fun K "_law_drawn" "_law_drawn" s_law_drawn f_law_drawn fd_law_drawn
  g_law_drawn : mg "_law_drawn" = some (.ref f_law_drawn)
  kp_law_drawn : PySem.W.keepIn K (.ref f_law_drawn) = true
  b_law_drawn : Binds K fd_law_drawn ["parts", "count", "nets"] []
  F_law_circuit : Fun K "_law_circuit" "_law_circuit" s_law_circuit f_law_circuit fd_law_circuit
  g_law_circuit : mg "_law_circuit" = some (.ref f_law_circuit)
  kp_law_circuit : PySem.W.keepIn K (.ref f_law_circuit) = true
  b_law_circuit : Binds K fd_law_circuit ["script", "most"] []
  F_law_value : Fun K "_law_value" "_law_value" s_law_value f_law_value fd_law_value
  g_law_value : mg "_law_value" = some (.ref f_law_value)
  kp_law_value : PySem.W.keepIn K (.ref f_law_value) = true
  b_law_value : Binds K fd_law_value ["kind", "bits"] []
  F_law_values : Fun K "_law_values" "_law_values" s_law_values f_law_values fd_law_values
  g_law_values : mg "_law_values" = some (.ref f_law_values)
  kp_law_values : PySem.W.keepIn K (.ref f_law_values) = true
  b_law_values : Binds K fd_law_values ["circuit", "inputs", "states"] []
  F_law_refuses : Fun K "_law_refuses" "_law_refuses" s_law_refuses f_law_refuses fd_law_refuses
  g_law_refuses : mg "_law_refuses" = some (.ref f_law_refuses)
  kp_law_refuses : PySem.W.keepIn K (.ref f_law_refuses) = true
  b_law_refuses : Binds K fd_law_refuses ["circuit", "inputs", "states"] []
  F_law_right_case : Fun K "_law_right_case" "_law_right_case" s_law_right_case f_law_right_case fd_law_right_case
  g_law_right_case : mg "_law_right_case" = some (.ref f_law_right_case)
  kp_law_right_case : PySem.W.keepIn K (.ref f_law_right_case) = true
  b_law_right_case : Binds K fd_law_right_case ["circuit", "inputs", "states"] []
  F_law_bare : Fun K "_law_bare" "_law_bare" s_law_bare f_law_bare fd_law_bare
  g_law_bare : mg "_law_bare" = some (.ref f_law_bare)
  kp_law_bare : PySem.W.keepIn K (.ref f_law_bare) = true
  b_law_bare : Binds K fd_law_bare ["script", "circuit"] []
  F_law : Fun K "law" "law" s_law f_law fd_law
  g_law : mg "law" = some (.ref f_law)
  kp_law : PySem.W.keepIn K (.ref f_law) = true
  b_law : Binds K fd_law ["script"] []
  m_all : mg "all" = none
  m_any : mg "any" = none
  m_bool : mg "bool" = none
  m_enumerate : mg "enumerate" = none
  m_int : mg "int" = none
  m_isinstance : mg "isinstance" = none
  m_len : mg "len" = none
  m_list : mg "list" = none
  m_max : mg "max" = none
  m_min : mg "min" = none
  m_range : mg "range" = none
  m_sum : mg "sum" = none
  m_tuple : mg "tuple" = none
  g_InvalidValues : mg "InvalidValues" = some (.ref c_InvalidValues)
  x_InvalidValues : PySem.W.excIn K c_InvalidValues [.type "ValueError", .type "Exception", .type "BaseException", .type "object"] "ValueError.__new__" = true
  kp_InvalidValues : PySem.W.keepIn K (.ref c_InvalidValues) = true
  sb_InvalidValues : PySem.W.subIn K (.ref c_InvalidValues) (.type "BaseException") = some true
  ty_InvalidValues : PySem.W.typeIn K (.ref c_InvalidValues) = some (.type "type")
  em_InvalidValues : PySem.W.exmOne K (.ref c_InvalidValues) (.ref c_InvalidValues) = some true
  g_CONSTANTS : mg "CONSTANTS" = some (.ref a_CONSTANTS)
  t_CONSTANTS : KTab K w a_CONSTANTS tab_CONSTANTS
  g_NANDS : mg "NANDS" = some u_NANDS
  r_NANDS : RelV a_NANDS u_NANDS
  k_NANDS : KD K a_NANDS kd_NANDS
section
variable {P : Program} {w : World} {K : PySem.W.Frag} {mg : Str → Option Value} {base : Heap}
theorem Tx.ex_InvalidValues (T : Tx K mg w) : ∀ n b cls, m_InvalidValues n = some b → mg n = some cls → PySem.W.exmOne K cls (.ref T.c_InvalidValues) = some b := fun n b cls h h2 => by
  unfold m_InvalidValues at h
  split at h
  · rename_i e
    cases h
    subst e
    rw [show mg (S "InvalidValues") = some (.ref T.c_InvalidValues) from T.g_InvalidValues] at h2
    cases h2
    exact T.em_InvalidValues
  · cases h
theorem ok_cell_value (T : Tx K mg w) : FnOk P w K mg base (L2.CX P w) 1 T.f_cell_value T.fd_cell_value ["kind", "values"] (spV K mg 2 F_cell_value) := fn_ok T.F_cell_value sc_cell_value fun cdv A outer s H E W hr tk pw =>
  (pss_c (ps_i (pb_kin T.t_CONSTANTS (pz_f (pf_n 0)) (by rfl) T.g_CONSTANTS)
  (pss_1 (ps_r (pv_f (pf_kget T.t_CONSTANTS (pz_f (pf_n 0)) (fun _ _ => rfl) (by rfl) T.g_CONSTANTS))))
  pss_n)
  (pss_c (ps_i (pb_cmp op_inV ops_in (pz_f (pf_n 0)) (pz_f (pf_gl (by rfl) T.g_NANDS T.r_NANDS T.k_NANDS)) (by rfl))
  (pss_1 (ps_r (pv_callTy call_intV cs_intV (by rfl) T.m_int (by decide +kernel) (pzs_c (pz_f (pf_not (pf_v (pv_callB (cr_all rfl) cs_all (by rfl) T.m_all (by decide +kernel) (pzs_c (pz_f (pf_v (pv_lc (own := [("value", 2)]) rfl sc_cell_value.nd (blkOk_by (own := [("value", 2)]) (N := N_cell_value) (sc := defScope s_cell_value) (by decide +kernel)) (pi_lt (pf_n 1)) (fun _ _ _ _ _ => (pg_n 2 (by decide) sc_cell_value.nd rfl (by first | exact .inl rfl | exact .inr rfl) (by first | exact .inl rfl | exact .inr rfl))) (fun _ _ _ _ _ => pbs_n) (fun _ _ _ _ _ => (pf_v (pv_cmp (op_eqV (hU hr)) ops_eq (pz_f (pf_n 2)) (pz_f pf_int) (nomark _))))))) pzs_n))))) pzs_n))))
  pss_n)
  (pss_1 (ps_r (pv_callTy call_intV cs_intV (by rfl) T.m_int (by decide +kernel) (pzs_c (pz_f (pf_not (pf_v (pv_callB (cr_any rfl) cs_any (by rfl) T.m_any (by decide +kernel) (pzs_c (pz_f (pf_v (pv_lc (own := [("value", 2)]) rfl sc_cell_value.nd (blkOk_by (own := [("value", 2)]) (N := N_cell_value) (sc := defScope s_cell_value) (by decide +kernel)) (pi_lt (pf_n 1)) (fun _ _ _ _ _ => (pg_n 2 (by decide) sc_cell_value.nd rfl (by first | exact .inl rfl | exact .inr rfl) (by first | exact .inl rfl | exact .inr rfl))) (fun _ _ _ _ _ => pbs_n) (fun _ _ _ _ _ => (pf_v (pv_cmp (op_eqV (hU hr)) ops_eq (pz_f (pf_n 2)) (pz_f pf_int) (nomark _))))))) pzs_n))))) pzs_n))))))
theorem ok_check_bits (T : Tx K mg w) : FnOk P w K mg base (L2.CX P w) 1 T.f_check_bits T.fd_check_bits ["bits", "count"] (spV K mg 2 F_check_bits) := fn_ok T.F_check_bits sc_check_bits fun cdv A outer s H E W hr tk pw =>
  (pss_c (ps_i (pb_cmp (op_neV (hU hr)) ops_ne (pz_f (pf_v (pv_callB call_lenV cs_len (by rfl) T.m_len (by decide +kernel) (pzs_c (pz_f (pf_n 0)) pzs_n)))) (pz_f (pf_n 1)) (nomark _))
  (pss_1 (ps_rs rfl tk PySem.F.excBase_ValueError T.x_InvalidValues T.g_InvalidValues T.kp_InvalidValues (raises_own T.sb_InvalidValues T.ty_InvalidValues) (by rfl)))
  pss_n)
  (pss_1 (ps_f (is := [2]) pw rfl (pi_lt (pf_n 0)) (pg_n 2 (by decide) sc_check_bits.nd rfl (by first | exact .inl rfl | exact .inr rfl) (by first | exact .inl rfl | exact .inr rfl))
  (pss_1 (ps_i (pb_w (pw_a (pb_cmp (op_neV (hU hr)) ops_ne (pz_f (pf_n 2)) (pz_f pf_int) (nomark _)) (pw_a1 (pb_cmp (op_neV (hU hr)) ops_ne (pz_f (pf_n 2)) (pz_f pf_int) (nomark _)))))
  (pss_1 (ps_rs rfl tk PySem.F.excBase_ValueError T.x_InvalidValues T.g_InvalidValues T.kp_InvalidValues (raises_own T.sb_InvalidValues T.ty_InvalidValues) (by rfl)))
  pss_n)))))
theorem ok_latch_cells (T : Tx K mg w) : FnOk P w K mg base (L2.CX P w) 1 T.f_latch_cells T.fd_latch_cells ["circuit"] (spV K mg 1 F_latch_cells) := fn_ok T.F_latch_cells sc_latch_cells fun cdv A outer s H E W hr tk pw =>
  (pss_1 (ps_r (pv_lc (own := [("cell", 1)]) rfl sc_latch_cells.nd (blkOk_by (own := [("cell", 1)]) (N := N_latch_cells) (sc := defScope s_latch_cells) (by decide +kernel)) (pi_lt (pf_v (pv_ix ix_seq ops_at (pz_f (pf_n 0)) (pz_f pf_int) (fun _ _ => rfl)))) (fun _ _ _ _ _ => (pg_n 1 (by decide) sc_latch_cells.nd rfl (by first | exact .inl rfl | exact .inr rfl) (by first | exact .inl rfl | exact .inr rfl))) (fun _ _ _ _ _ => (pbs_1 (pb_cmp (op_eqV (hU hr)) ops_eq (pz_f (pf_v (pv_ix ix_seq ops_at (pz_f (pf_n 1)) (pz_f pf_int) (fun _ _ => rfl)))) (pz_f pf_str) (nomark _)))) (fun _ _ _ _ _ => (pf_n 1)))))
theorem ok_settled_values (T : Tx K mg w) : FnOk P w K mg base (L2.CX P w) 2 T.f_settled_values T.fd_settled_values ["circuit", "inputs", "states", "stuck"] (spV K mg 4 F_settled_values) := fn_ok T.F_settled_values sc_settled_values fun cdv A outer s H E W hr tk pw =>
  (pss_c (ps_a 4 sc_settled_values.nd rfl (by first | exact .inl rfl | exact .inr rfl) (pv_lc (own := [("net", 10), ("bit", 11)]) rfl sc_settled_values.nd (blkOk_by (own := [("net", 10), ("bit", 11)]) (N := N_settled_values) (sc := defScope s_settled_values) (by decide +kernel)) (pi_en (by rfl) T.m_enumerate (pfs_c (pf_n 1) pfs_n)) (fun _ _ _ _ _ => (pg_t rfl (pgs_c (pg_n 10 (by decide) sc_settled_values.nd rfl (by first | exact .inl rfl | exact .inr rfl) (by first | exact .inl rfl | exact .inr rfl)) (pgs_c (pg_n 11 (by decide) sc_settled_values.nd rfl (by first | exact .inl rfl | exact .inr rfl) (by first | exact .inl rfl | exact .inr rfl)) pgs_n)))) (fun _ _ _ _ _ => pbs_n) (fun _ _ _ _ _ => (pf_get2 (hU1 hr) (pf_n 3) (pf_n 10) (pf_n 11) ⟨rfl, rfl, rfl, rfl⟩))))
  (pss_c (ps_a 5 sc_settled_values.nd rfl (by first | exact .inl rfl | exact .inr rfl) (pv_callTy call_list_of cs_list (by rfl) T.m_list (by decide +kernel) (pzs_c (pz_f (pf_n 2)) pzs_n)))
  (pss_c (ps_f (is := [6, 7, 8]) pw rfl (pi_lt (pf_v (pv_ix ix_seq ops_at (pz_f (pf_n 0)) (pz_f pf_int) (fun _ _ => rfl)))) (pg_t rfl (pgs_c (pg_n 6 (by decide) sc_settled_values.nd rfl (by first | exact .inl rfl | exact .inr rfl) (by first | exact .inl rfl | exact .inr rfl)) (pgs_c (pg_n 7 (by decide) sc_settled_values.nd rfl (by first | exact .inl rfl | exact .inr rfl) (by first | exact .inl rfl | exact .inr rfl)) (pgs_c (pg_n 8 (by decide) sc_settled_values.nd rfl (by first | exact .inl rfl | exact .inr rfl) (by first | exact .inl rfl | exact .inr rfl)) pgs_n))))
  (pss_c (ps_i (pb_cmp (op_eqV (hU hr)) ops_eq (pz_f (pf_n 6)) (pz_f pf_str) (nomark _))
  (pss_1 (ps_a 9 sc_settled_values.nd rfl (by first | exact .inl rfl | exact .inr rfl) (pv_f (pf_mt 5 PySem.F.plainAttrs_list PySem.F.slot_list_pop PySem.F.type_list_pop mt_popAt ms_pop (pfs_c pf_int pfs_n)))))
  (pss_1 (ps_a 9 sc_settled_values.nd rfl (by first | exact .inl rfl | exact .inr rfl) (pv_f (pf_v (pv_call (ok_cell_value T) (hr.mono (by decide)) (by rfl) T.g_cell_value T.kp_cell_value T.b_cell_value tk (pfs_c (pf_n 6) (pfs_c (pf_v (pv_lc (own := [("net", 10)]) rfl sc_settled_values.nd (blkOk_by (own := [("net", 10)]) (N := N_settled_values) (sc := defScope s_settled_values) (by decide +kernel)) (pi_lt (pf_n 7)) (fun _ _ _ _ _ => (pg_n 10 (by decide) sc_settled_values.nd rfl (by first | exact .inl rfl | exact .inr rfl) (by first | exact .inl rfl | exact .inr rfl))) (fun _ _ _ _ _ => pbs_n) (fun _ _ _ _ _ => (pf_v (pv_ix ix_seq ops_at (pz_b 4) (pz_f (pf_n 10)) (fun _ _ => rfl)))))) pfs_n))))))))
  (pss_1 (ps_x (pf_mt 4 PySem.F.plainAttrs_list PySem.F.slot_list_append PySem.F.type_list_append mt_append ms_append (pfs_c (pf_get2 (hU1 hr) (pf_n 3) (pf_n 8) (pf_n 9) ⟨rfl, rfl, rfl, rfl⟩) pfs_n))))))
  (pss_1 (ps_r (pv_mv 4))))))
theorem ok_cell_values (T : Tx K mg w) : FnOk P w K mg base (L2.CX P w) 3 T.f_cell_values T.fd_cell_values ["circuit", "inputs", "states"] (spV K mg 3 F_cell_values) := fn_ok T.F_cell_values sc_cell_values fun cdv A outer s H E W hr tk pw =>
  (pss_c (ps_x (pf_v (pv_call (ok_check_bits T) (hr.mono (by decide)) (by rfl) T.g_check_bits T.kp_check_bits T.b_check_bits tk (pfs_c (pf_n 1) (pfs_c (pf_v (pv_ix ix_seq ops_at (pz_f (pf_n 0)) (pz_f pf_int) (fun _ _ => rfl))) pfs_n)))))
  (pss_c (ps_x (pf_v (pv_call (ok_check_bits T) (hr.mono (by decide)) (by rfl) T.g_check_bits T.kp_check_bits T.b_check_bits tk (pfs_c (pf_n 2) (pfs_c (pf_v (pv_callB call_lenV cs_len (by rfl) T.m_len (by decide +kernel) (pzs_c (pz_f (pf_v (pv_call (ok_latch_cells T) (hr.mono (by decide)) (by rfl) T.g_latch_cells T.kp_latch_cells T.b_latch_cells tk (pfs_c (pf_n 0) pfs_n)))) pzs_n))) pfs_n)))))
  (pss_1 (ps_r (pv_call (ok_settled_values T) (hr.mono (by decide)) (by rfl) T.g_settled_values T.kp_settled_values T.b_settled_values tk (pfs_c (pf_n 0) (pfs_c (pf_n 1) (pfs_c (pf_n 2) (pfs_c pf_dct0 pfs_n)))))))))
theorem ok_circuit_outputs (T : Tx K mg w) : FnOk P w K mg base (L2.CX P w) 4 T.f_circuit_outputs T.fd_circuit_outputs ["circuit", "inputs", "states"] (spV K mg 3 F_circuit_outputs) := fn_ok T.F_circuit_outputs sc_circuit_outputs fun cdv A outer s H E W hr tk pw =>
  (pss_c (ps_a 3 sc_circuit_outputs.nd rfl (by first | exact .inl rfl | exact .inr rfl) (pv_f (pf_v (pv_call (ok_cell_values T) (hr.mono (by decide)) (by rfl) T.g_cell_values T.kp_cell_values T.b_cell_values tk (pfs_c (pf_n 0) (pfs_c (pf_n 1) (pfs_c (pf_n 2) pfs_n)))))))
  (pss_1 (ps_r (pv_lc (own := [("net", 4)]) rfl sc_circuit_outputs.nd (blkOk_by (own := [("net", 4)]) (N := N_circuit_outputs) (sc := defScope s_circuit_outputs) (by decide +kernel)) (pi_lt (pf_v (pv_ix ix_seq ops_at (pz_f (pf_n 0)) (pz_f pf_int) (fun _ _ => rfl)))) (fun _ _ _ _ _ => (pg_n 4 (by decide) sc_circuit_outputs.nd rfl (by first | exact .inl rfl | exact .inr rfl) (by first | exact .inl rfl | exact .inr rfl))) (fun _ _ _ _ _ => pbs_n) (fun _ _ _ _ _ => (pf_v (pv_ix ix_seq ops_at (pz_f (pf_n 3)) (pz_f (pf_n 4)) (fun _ _ => rfl))))))))
theorem ok_circuit_next (T : Tx K mg w) : FnOk P w K mg base (L2.CX P w) 4 T.f_circuit_next T.fd_circuit_next ["circuit", "inputs", "states"] (spV K mg 3 F_circuit_next) := fn_ok T.F_circuit_next sc_circuit_next fun cdv A outer s H E W hr tk pw =>
  (pss_c (ps_a 3 sc_circuit_next.nd rfl (by first | exact .inl rfl | exact .inr rfl) (pv_f (pf_v (pv_call (ok_cell_values T) (hr.mono (by decide)) (by rfl) T.g_cell_values T.kp_cell_values T.b_cell_values tk (pfs_c (pf_n 0) (pfs_c (pf_n 1) (pfs_c (pf_n 2) pfs_n)))))))
  (pss_1 (ps_r (pv_lc (own := [("cell", 4)]) rfl sc_circuit_next.nd (blkOk_by (own := [("cell", 4)]) (N := N_circuit_next) (sc := defScope s_circuit_next) (by decide +kernel)) (pi_lt (pf_v (pv_call (ok_latch_cells T) (hr.mono (by decide)) (by rfl) T.g_latch_cells T.kp_latch_cells T.b_latch_cells tk (pfs_c (pf_n 0) pfs_n)))) (fun _ _ _ _ _ => (pg_n 4 (by decide) sc_circuit_next.nd rfl (by first | exact .inl rfl | exact .inr rfl) (by first | exact .inl rfl | exact .inr rfl))) (fun _ _ _ _ _ => pbs_n) (fun _ _ _ _ _ => (pf_v (pv_ix ix_seq ops_at (pz_f (pf_n 3)) (pz_f (pf_v (pv_ix ix_seq ops_at (pz_f (pf_v (pv_ix ix_seq ops_at (pz_f (pf_n 4)) (pz_f pf_int) (fun _ _ => rfl)))) (pz_f pf_int) (fun _ _ => rfl)))) (fun _ _ => rfl))))))))
theorem ok_law_cell (T : Tx K mg w) : FnOk P w K mg base (L2.CX P w) 1 T.f_law_cell T.fd_law_cell ["script", "k"] (spV K mg 2 F_law_cell) := fn_ok T.F_law_cell sc_law_cell fun cdv A outer s H E W hr tk pw =>
  (pss_c (ps_i (pb_cmp op_ltV ops_lt (pz_f (pf_n 1)) (pz_f (pf_v (pv_callB call_lenV cs_len (by rfl) T.m_len (by decide +kernel) (pzs_c (pz_f (pf_n 0)) pzs_n)))) (nomark _))
  (pss_1 (ps_r (pv_ix ix_seq ops_at (pz_f (pf_n 0)) (pz_f (pf_n 1)) (fun _ _ => rfl))))
  pss_n)
  (pss_1 (ps_r (pv_f pf_int))))
theorem ok_law_parts (T : Tx K mg w) : FnOk P w K mg base (L2.CX P w) 1 T.f_law_parts T.fd_law_parts ["cell", "sizes"] (spV K mg 2 F_law_parts) := fn_ok T.F_law_parts sc_law_parts fun cdv A outer s H E W hr tk pw =>
  (pss_c (ps_a 2 sc_law_parts.nd rfl (by first | exact .inl rfl | exact .inr rfl) (pv_lst pfs_n))
  (pss_c (ps_a 3 sc_law_parts.nd rfl (by first | exact .inl rfl | exact .inr rfl) (pv_f (pf_v (pv_bin op_sub ops_sub (pz_f (pf_n 0)) (pz_f (pf_v (pv_bin op_pow ops_pow (pz_f pf_int) (pz_f pf_int))))))))
  (pss_c (ps_f (is := [4]) pw rfl (pi_r1 (by rfl) T.m_range (pfs_c (pf_v (pv_callB call_lenV cs_len (by rfl) T.m_len (by decide +kernel) (pzs_c (pz_f (pf_n 1)) pzs_n))) pfs_n)) (pg_n 4 (by decide) sc_law_parts.nd rfl (by first | exact .inl rfl | exact .inr rfl) (by first | exact .inl rfl | exact .inr rfl))
  (pss_1 (ps_i (pb_cmp op_ge ops_ge (pz_f (pf_n 3)) (pz_f pf_int) (nomark _))
  (pss_c (ps_x (pf_mt 2 PySem.F.plainAttrs_list PySem.F.slot_list_append PySem.F.type_list_append mt_append ms_append (pfs_c (pf_v (pv_bin op_mod ops_mod (pz_f (pf_v (pv_callTy call_intV cs_intV (by rfl) T.m_int (by decide +kernel) (pzs_c (pz_f (pf_n 3)) pzs_n)))) (pz_f (pf_v (pv_ix ix_seq ops_at (pz_f (pf_n 1)) (pz_f (pf_n 4)) (fun _ _ => rfl)))))) pfs_n)))
  (pss_1 (ps_a 3 sc_law_parts.nd rfl (by first | exact .inl rfl | exact .inr rfl) (pv_f (pf_v (pv_bin op_divV ops_div (pz_f (pf_n 3)) (pz_f (pf_v (pv_ix ix_seq ops_at (pz_f (pf_n 1)) (pz_f (pf_n 4)) (fun _ _ => rfl))))))))))
  (pss_c (ps_a 5 sc_law_parts.nd rfl (by first | exact .inl rfl | exact .inr rfl) (pv_f (pf_v (pv_bin op_mod ops_mod (pz_f (pf_v (pv_callTy call_intV cs_intV (by rfl) T.m_int (by decide +kernel) (pzs_c (pz_f (pf_v (pv_bin op_addV ops_add (pz_f (pf_v (pv_bin op_addV ops_add (pz_f (pf_v (pv_bin op_mulV ops_mul (pz_f (pf_n 0)) (pz_f pf_int)))) (pz_f (pf_v (pv_bin op_mulV ops_mul (pz_f (pf_n 4)) (pz_f pf_int))))))) (pz_f pf_int)))) pzs_n)))) (pz_f pf_int)))))
  (pss_c (ps_a 5 sc_law_parts.nd rfl (by first | exact .inl rfl | exact .inr rfl) (pv_f (pf_v (pv_bin op_mod ops_mod (pz_f (pf_v (pv_callTy call_intV cs_intV (by rfl) T.m_int (by decide +kernel) (pzs_c (pz_f (pf_v (pv_bin op_addV ops_add (pz_f (pf_v (pv_bin op_addV ops_add (pz_f (pf_v (pv_bin op_mulV ops_mul (pz_f (pf_n 5)) (pz_f (pf_n 5))))) (pz_f (pf_v (pv_bin op_mulV ops_mul (pz_f pf_int) (pz_f (pf_n 4)))))))) (pz_f pf_int)))) pzs_n)))) (pz_f pf_int)))))
  (pss_1 (ps_x (pf_mt 2 PySem.F.plainAttrs_list PySem.F.slot_list_append PySem.F.type_list_append mt_append ms_append (pfs_c (pf_v (pv_bin op_mod ops_mod (pz_f (pf_v (pv_callTy call_intV cs_intV (by rfl) T.m_int (by decide +kernel) (pzs_c (pz_f (pf_n 5)) pzs_n)))) (pz_f (pf_v (pv_ix ix_seq ops_at (pz_f (pf_n 1)) (pz_f (pf_n 4)) (fun _ _ => rfl)))))) pfs_n)))))))))
  (pss_1 (ps_r (pv_mv 2))))))
theorem ok_law_is_integer (T : Tx K mg w) : FnOk P w K mg base (L2.CX P w) 1 T.f_law_is_integer T.fd_law_is_integer ["actual"] (spV K mg 1 F_law_is_integer) := fn_ok T.F_law_is_integer sc_law_is_integer fun cdv A outer s H E W hr tk pw =>
  (pss_1 (ps_r (pv_and (pf_isi (by rfl) T.m_isinstance (by decide +kernel) (pz_f (pf_n 0)) (by rfl) T.m_int (by decide +kernel) (fun t h => kit_ty (kit_int t h))) (pv_one (pv_f (pf_not (pf_isi (by rfl) T.m_isinstance (by decide +kernel) (pz_f (pf_n 0)) (by rfl) T.m_bool (by decide +kernel) (fun t h => kit_ty (kit_bool t h)))))))))
theorem ok_law_is_bits (T : Tx K mg w) : FnOk P w K mg base (L2.CX P w) 2 T.f_law_is_bits T.fd_law_is_bits ["actual", "count"] (spV K mg 2 F_law_is_bits) := fn_ok T.F_law_is_bits sc_law_is_bits fun cdv A outer s H E W hr tk pw =>
  (pss_c (ps_i (pb_w (pw_o (pb_not (pb_o (pz_f (pf_isi (by rfl) T.m_isinstance (by decide +kernel) (pz_f (pf_n 0)) (by rfl) T.m_list (by decide +kernel) (fun t h => kit_ty (kit_list t h)))))) (pw_o1 (pb_cmp (op_neV (hU hr)) ops_ne (pz_f (pf_v (pv_callB call_lenV cs_len (by rfl) T.m_len (by decide +kernel) (pzs_c (pz_f (pf_n 0)) pzs_n)))) (pz_f (pf_n 1)) (nomark _)))))
  (pss_1 (ps_r (pv_f pf_bl)))
  pss_n)
  (pss_c (ps_f (is := [2]) pw rfl (pi_lt (pf_n 0)) (pg_n 2 (by decide) sc_law_is_bits.nd rfl (by first | exact .inl rfl | exact .inr rfl) (by first | exact .inl rfl | exact .inr rfl))
  (pss_1 (ps_i (pb_w (pw_o (pb_not (pb_o (pz_f (pf_v (pv_call (ok_law_is_integer T) (hr.mono (by decide)) (by rfl) T.g_law_is_integer T.kp_law_is_integer T.b_law_is_integer tk (pfs_c (pf_n 2) pfs_n)))))) (pw_o (pb_cmp op_ltV ops_lt (pz_f (pf_n 2)) (pz_f pf_int) (nomark _)) (pw_o1 (pb_cmp op_gtV ops_gt (pz_f (pf_n 2)) (pz_f pf_int) (nomark _))))))
  (pss_1 (ps_r (pv_f pf_bl)))
  pss_n)))
  (pss_1 (ps_r (pv_f pf_bl)))))
theorem ok_law_bits (T : Tx K mg w) : FnOk P w K mg base (L2.CX P w) 1 T.f_law_bits T.fd_law_bits ["number", "count"] (spV K mg 2 F_law_bits) := fn_ok T.F_law_bits sc_law_bits fun cdv A outer s H E W hr tk pw =>
  (pss_c (ps_a 2 sc_law_bits.nd rfl (by first | exact .inl rfl | exact .inr rfl) (pv_lst pfs_n))
  (pss_c (ps_f (is := [3]) pw rfl (pi_r1 (by rfl) T.m_range (pfs_c (pf_n 1) pfs_n)) (pg_n 3 (by decide) sc_law_bits.nd rfl (by first | exact .inl rfl | exact .inr rfl) (by first | exact .inl rfl | exact .inr rfl))
  (pss_c (ps_x (pf_mt 2 PySem.F.plainAttrs_list PySem.F.slot_list_append PySem.F.type_list_append mt_append ms_append (pfs_c (pf_v (pv_bin op_mod ops_mod (pz_f (pf_v (pv_callTy call_intV cs_intV (by rfl) T.m_int (by decide +kernel) (pzs_c (pz_f (pf_n 0)) pzs_n)))) (pz_f pf_int))) pfs_n)))
  (pss_1 (ps_a 0 sc_law_bits.nd rfl (by first | exact .inl rfl | exact .inr rfl) (pv_f (pf_v (pv_bin op_divV ops_div (pz_f (pf_n 0)) (pz_f pf_int))))))))
  (pss_1 (ps_r (pv_mv 2)))))
theorem ok_law_wrong (T : Tx K mg w) : FnOk P w K mg base (L2.CX P w) 1 T.f_law_wrong T.fd_law_wrong ["bits", "choice"] (spV K mg 2 F_law_wrong) := fn_ok T.F_law_wrong sc_law_wrong fun cdv A outer s H E W hr tk pw =>
  (pss_c (ps_a 2 sc_law_wrong.nd rfl (by first | exact .inl rfl | exact .inr rfl) (pv_f (pf_v (pv_ix ix_seq ops_at (pz_f (pf_v (pv_lst (pfs_c pf_int (pfs_c (pf_neg pf_int) (pfs_c pf_int (pfs_c (pf_v (pv_bin op_addV ops_add (pz_f pf_int) (pz_f (pf_n 1)))) pfs_n))))))) (pz_f (pf_v (pv_bin op_mod ops_mod (pz_f (pf_v (pv_bin op_divV ops_div (pz_f (pf_v (pv_callTy call_intV cs_intV (by rfl) T.m_int (by decide +kernel) (pzs_c (pz_f (pf_n 1)) pzs_n)))) (pz_f pf_int)))) (pz_f pf_int)))) (fun _ _ => rfl)))))
  (pss_c (ps_a 3 sc_law_wrong.nd rfl (by first | exact .inl rfl | exact .inr rfl) (pv_f (pf_v (pv_bin op_mod ops_mod (pz_f (pf_v (pv_bin op_divV ops_div (pz_f (pf_v (pv_callTy call_intV cs_intV (by rfl) T.m_int (by decide +kernel) (pzs_c (pz_f (pf_n 1)) pzs_n)))) (pz_f pf_int)))) (pz_f (pf_v (pv_bin op_addV ops_add (pz_f (pf_v (pv_callB call_lenV cs_len (by rfl) T.m_len (by decide +kernel) (pzs_c (pz_f (pf_n 0)) pzs_n)))) (pz_f pf_int))))))))
  (pss_c (ps_i (pb_cmp (op_eqV (hU hr)) ops_eq (pz_f (pf_v (pv_bin op_mod ops_mod (pz_f (pf_v (pv_callTy call_intV cs_intV (by rfl) T.m_int (by decide +kernel) (pzs_c (pz_f (pf_n 1)) pzs_n)))) (pz_f pf_int)))) (pz_f pf_int) (nomark _))
  (pss_1 (ps_r (pv_bin op_addV ops_add (pz_f (pf_v (pv_bin op_addV ops_add (pz_f (pf_v (pv_cut (pz_f (pf_n 0)) pp_n (pp_s (pf_n 3))))) (pz_f (pf_v (pv_lst (pfs_c pf_int pfs_n))))))) (pz_f (pf_v (pv_cut (pz_f (pf_n 0)) (pp_s (pf_n 3)) pp_n))))))
  pss_n)
  (pss_c (ps_i (pb_cmp (op_eqV (hU hr)) ops_eq (pz_f (pf_v (pv_callB call_lenV cs_len (by rfl) T.m_len (by decide +kernel) (pzs_c (pz_f (pf_n 0)) pzs_n)))) (pz_f pf_int) (nomark _))
  (pss_1 (ps_r (pv_lst (pfs_c (pf_n 2) pfs_n))))
  pss_n)
  (pss_c (ps_a 3 sc_law_wrong.nd rfl (by first | exact .inl rfl | exact .inr rfl) (pv_f (pf_v (pv_bin op_mod ops_mod (pz_f (pf_v (pv_callTy call_intV cs_intV (by rfl) T.m_int (by decide +kernel) (pzs_c (pz_f (pf_n 3)) pzs_n)))) (pz_f (pf_v (pv_callB call_lenV cs_len (by rfl) T.m_len (by decide +kernel) (pzs_c (pz_f (pf_n 0)) pzs_n))))))))
  (pss_c (ps_i (pb_cmp (op_eqV (hU hr)) ops_eq (pz_f (pf_v (pv_bin op_mod ops_mod (pz_f (pf_v (pv_callTy call_intV cs_intV (by rfl) T.m_int (by decide +kernel) (pzs_c (pz_f (pf_n 1)) pzs_n)))) (pz_f pf_int)))) (pz_f pf_int) (nomark _))
  (pss_1 (ps_r (pv_bin op_addV ops_add (pz_f (pf_v (pv_cut (pz_f (pf_n 0)) pp_n (pp_s (pf_n 3))))) (pz_f (pf_v (pv_cut (pz_f (pf_n 0)) (pp_s (pf_v (pv_bin op_addV ops_add (pz_f (pf_n 3)) (pz_f pf_int)))) pp_n))))))
  pss_n)
  (pss_1 (ps_r (pv_bin op_addV ops_add (pz_f (pf_v (pv_bin op_addV ops_add (pz_f (pf_v (pv_cut (pz_f (pf_n 0)) pp_n (pp_s (pf_n 3))))) (pz_f (pf_v (pv_lst (pfs_c (pf_n 2) pfs_n))))))) (pz_f (pf_v (pv_cut (pz_f (pf_n 0)) (pp_s (pf_v (pv_bin op_addV ops_add (pz_f (pf_n 3)) (pz_f pf_int)))) pp_n))))))))))))
theorem ok_law_kind (T : Tx K mg w) : FnOk P w K mg base (L2.CX P w) 1 T.f_law_kind T.fd_law_kind ["parts", "nets", "latches"] (spV K mg 3 F_law_kind) := fn_ok T.F_law_kind sc_law_kind fun cdv A outer s H E W hr tk pw =>
  (pss_c (ps_a 3 sc_law_kind.nd rfl (by first | exact .inl rfl | exact .inr rfl) (pv_f (pf_v (pv_lst (pfs_c pf_str (pfs_c pf_str (pfs_c pf_str (pfs_c pf_str (pfs_c pf_str (pfs_c pf_str (pfs_c pf_str (pfs_c pf_str (pfs_c pf_str (pfs_c pf_str (pfs_c pf_str (pfs_c pf_str pfs_n))))))))))))))))
  (pss_c (ps_a 4 sc_law_kind.nd rfl (by first | exact .inl rfl | exact .inr rfl) (pv_f (pf_v (pv_ix ix_seq ops_at (pz_f (pf_v (pv_bin op_addV ops_add (pz_f (pf_n 3)) (pz_f (pf_v (pv_lst (pfs_c pf_str (pfs_c pf_str (pfs_c pf_str (pfs_c pf_str pfs_n)))))))))) (pz_f (pf_v (pv_ix ix_seq ops_at (pz_f (pf_n 0)) (pz_f pf_int) (fun _ _ => rfl)))) (fun _ _ => rfl)))))
  (pss_c (ps_i (pb_w (pw_a (pb_cmp (op_eqV (hU hr)) ops_eq (pz_f (pf_n 4)) (pz_f pf_str) (nomark _)) (pw_a1 (pb_cmp (op_eqV (hU hr)) ops_eq (pz_f (pf_n 2)) (pz_f pf_int) (nomark _)))))
  (pss_1 (ps_a 4 sc_law_kind.nd rfl (by first | exact .inl rfl | exact .inr rfl) (pv_f pf_str)))
  pss_n)
  (pss_c (ps_i (pb_w (pw_a (pb_cmp (op_eqV (hU hr)) ops_eq (pz_f (pf_n 1)) (pz_f pf_int) (nomark _)) (pw_a1 (pb_cmp (op_neV (hU hr)) ops_ne (pz_f (pf_n 4)) (pz_f pf_str) (nomark _)))))
  (pss_1 (ps_r (pv_ix ix_seq ops_at (pz_f (pf_v (pv_lst (pfs_c pf_str (pfs_c pf_str pfs_n))))) (pz_f (pf_v (pv_bin op_mod ops_mod (pz_f (pf_v (pv_callTy call_intV cs_intV (by rfl) T.m_int (by decide +kernel) (pzs_c (pz_f (pf_v (pv_ix ix_seq ops_at (pz_f (pf_n 0)) (pz_f pf_int) (fun _ _ => rfl)))) pzs_n)))) (pz_f pf_int)))) (fun _ _ => rfl))))
  pss_n)
  (pss_c (ps_i (pb_w (pw_a (pb_cmp op_inV ops_in (pz_f (pf_n 4)) (pz_f (pf_v (pv_lst (pfs_c pf_str (pfs_c pf_str (pfs_c pf_str (pfs_c pf_str pfs_n))))))) (by rfl)) (pw_a1 (pb_cmp op_ltV ops_lt (pz_f (pf_n 1)) (pz_f (pf_v (pv_callTy call_intV cs_intV (by rfl) T.m_int (by decide +kernel) (pzs_c (pz_f (pf_v (pv_ix ix_seq ops_at (pz_f (pf_n 4)) (pz_f (pf_neg pf_int)) (fun _ _ => rfl)))) pzs_n)))) (nomark _)))))
  (pss_1 (ps_r (pv_ix ix_seq ops_at (pz_f (pf_v (pv_lst (pfs_c pf_str (pfs_c pf_str pfs_n))))) (pz_f (pf_v (pv_bin op_sub ops_sub (pz_f (pf_n 1)) (pz_f pf_int)))) (fun _ _ => rfl))))
  pss_n)
  (pss_1 (ps_r (pv_f (pf_n 4)))))))))
theorem ok_law_drawn (T : Tx K mg w) : FnOk P w K mg base (L2.CX P w) 1 T.f_law_drawn T.fd_law_drawn ["parts", "count", "nets"] (spV K mg 3 F_law_drawn) := fn_ok T.F_law_drawn sc_law_drawn fun cdv A outer s H E W hr tk pw =>
  (pss_c (ps_a 3 sc_law_drawn.nd rfl (by first | exact .inl rfl | exact .inr rfl) (pv_lr1 rfl (by rfl) T.m_list (by rfl) T.m_range (pf_n 2)))
  (pss_c (ps_a 4 sc_law_drawn.nd rfl (by first | exact .inl rfl | exact .inr rfl) (pv_lst pfs_n))
  (pss_c (ps_f (is := [5]) pw rfl (pi_r1 (by rfl) T.m_range (pfs_c (pf_n 1) pfs_n)) (pg_n 5 (by decide) sc_law_drawn.nd rfl (by first | exact .inl rfl | exact .inr rfl) (by first | exact .inl rfl | exact .inr rfl))
  (pss_1 (ps_x (pf_mt 4 PySem.F.plainAttrs_list PySem.F.slot_list_append PySem.F.type_list_append mt_append ms_append (pfs_c (pf_mt 3 PySem.F.plainAttrs_list PySem.F.slot_list_pop PySem.F.type_list_pop mt_popAt ms_pop (pfs_c (pf_v (pv_bin op_mod ops_mod (pz_f (pf_v (pv_callTy call_intV cs_intV (by rfl) T.m_int (by decide +kernel) (pzs_c (pz_f (pf_v (pv_ix ix_seq ops_at (pz_f (pf_n 0)) (pz_f (pf_v (pv_bin op_addV ops_add (pz_f pf_int) (pz_f (pf_n 5))))) (fun _ _ => rfl)))) pzs_n)))) (pz_f (pf_v (pv_callB call_lenV cs_len (by rfl) T.m_len (by decide +kernel) (pzs_c (pz_b 3) pzs_n)))))) pfs_n)) pfs_n)))))
  (pss_1 (ps_r (pv_callTy call_tuple_of cs_tuple (by rfl) T.m_tuple (by decide +kernel) (pzs_c (pz_b 4) pzs_n)))))))
theorem ok_law_circuit (T : Tx K mg w) : FnOk P w K mg base (L2.CX P w) 2 T.f_law_circuit T.fd_law_circuit ["script", "most"] (spV K mg 2 F_law_circuit) := fn_ok T.F_law_circuit sc_law_circuit fun cdv A outer s H E W hr tk pw =>
  (pss_c (ps_a 2 sc_law_circuit.nd rfl (by first | exact .inl rfl | exact .inr rfl) (pv_f (pf_v (pv_call (ok_law_parts T) (hr.mono (by decide)) (by rfl) T.g_law_parts T.kp_law_parts T.b_law_parts tk (pfs_c (pf_v (pv_call (ok_law_cell T) (hr.mono (by decide)) (by rfl) T.g_law_cell T.kp_law_cell T.b_law_cell tk (pfs_c (pf_n 0) (pfs_c pf_int pfs_n)))) (pfs_c (pf_v (pv_lst (pfs_c pf_int (pfs_c pf_int (pfs_c pf_int (pfs_c pf_int pfs_n)))))) pfs_n))))))
  (pss_c (ps_a 3 sc_law_circuit.nd rfl (by first | exact .inl rfl | exact .inr rfl) (pv_lst pfs_n))
  (pss_c (ps_a 4 sc_law_circuit.nd rfl (by first | exact .inl rfl | exact .inr rfl) (pv_f pf_int))
  (pss_c (ps_a 5 sc_law_circuit.nd rfl (by first | exact .inl rfl | exact .inr rfl) (pv_f (pf_v (pv_bin op_addV ops_add (pz_f (pf_v (pv_ix ix_seq ops_at (pz_f (pf_n 2)) (pz_f pf_int) (fun _ _ => rfl)))) (pz_f (pf_v (pv_callB (call_minV rfl) cs_min (by rfl) T.m_min (by decide +kernel) (pzs_c (pz_f (pf_n 1)) (pzs_c (pz_f (pf_v (pv_callB (call_maxV rfl) cs_max (by rfl) T.m_max (by decide +kernel) (pzs_c (pz_f pf_int) (pzs_c (pz_f (pf_v (pv_bin op_sub ops_sub (pz_f (pf_v (pv_callB call_lenV cs_len (by rfl) T.m_len (by decide +kernel) (pzs_c (pz_f (pf_n 0)) pzs_n)))) (pz_f pf_int)))) pzs_n))))) pzs_n)))))))))
  (pss_c (ps_f (is := [6]) pw rfl (pi_r2 (by rfl) T.m_range (pfs_c (pf_v (pv_ix ix_seq ops_at (pz_f (pf_n 2)) (pz_f pf_int) (fun _ _ => rfl))) (pfs_c (pf_n 5) pfs_n))) (pg_n 6 (by decide) sc_law_circuit.nd rfl (by first | exact .inl rfl | exact .inr rfl) (by first | exact .inl rfl | exact .inr rfl))
  (pss_c (ps_a 7 sc_law_circuit.nd rfl (by first | exact .inl rfl | exact .inr rfl) (pv_f (pf_v (pv_call (ok_law_parts T) (hr.mono (by decide)) (by rfl) T.g_law_parts T.kp_law_parts T.b_law_parts tk (pfs_c (pf_v (pv_call (ok_law_cell T) (hr.mono (by decide)) (by rfl) T.g_law_cell T.kp_law_cell T.b_law_cell tk (pfs_c (pf_n 0) (pfs_c (pf_v (pv_bin op_sub ops_sub (pz_f (pf_v (pv_bin op_addV ops_add (pz_f pf_int) (pz_f (pf_n 6))))) (pz_f (pf_v (pv_ix ix_seq ops_at (pz_f (pf_n 2)) (pz_f pf_int) (fun _ _ => rfl)))))) pfs_n)))) (pfs_c (pf_v (pv_lst (pfs_c pf_int (pfs_c pf_int (pfs_c pf_int (pfs_c pf_int pfs_n)))))) pfs_n))))))
  (pss_c (ps_a 8 sc_law_circuit.nd rfl (by first | exact .inl rfl | exact .inr rfl) (pv_f (pf_v (pv_call (ok_law_kind T) (hr.mono (by decide)) (by rfl) T.g_law_kind T.kp_law_kind T.b_law_kind tk (pfs_c (pf_n 7) (pfs_c (pf_n 6) (pfs_c (pf_n 4) pfs_n)))))))
  (pss_1 (ps_i (pb_cmp (op_eqV (hU hr)) ops_eq (pz_f (pf_n 8)) (pz_f pf_str) (nomark _))
  (pss_c (ps_a 4 sc_law_circuit.nd rfl (by first | exact .inl rfl | exact .inr rfl) (pv_f (pf_v (pv_bin op_addV ops_add (pz_f (pf_n 4)) (pz_f pf_int)))))
  (pss_1 (ps_x (pf_mt 3 PySem.F.plainAttrs_list PySem.F.slot_list_append PySem.F.type_list_append mt_append ms_append (pfs_c (pf_tup (pfs_c (pf_n 8) (pfs_c (pf_v (pv_call (ok_law_drawn T) (hr.mono (by decide)) (by rfl) T.g_law_drawn T.kp_law_drawn T.b_law_drawn tk (pfs_c (pf_n 7) (pfs_c pf_int (pfs_c (pf_n 5) pfs_n))))) (pfs_c (pf_n 6) pfs_n)))) pfs_n)))))
  (pss_1 (ps_i (pb_cmp op_inV ops_in (pz_f (pf_n 8)) (pz_f (pf_v (pv_lst (pfs_c pf_str (pfs_c pf_str pfs_n))))) (by rfl))
  (pss_1 (ps_x (pf_mt 3 PySem.F.plainAttrs_list PySem.F.slot_list_append PySem.F.type_list_append mt_append ms_append (pfs_c (pf_tup (pfs_c (pf_n 8) (pfs_c (pf_tup pfs_n) (pfs_c (pf_n 6) pfs_n)))) pfs_n))))
  (pss_1 (ps_i (pb_cmp (op_eqV (hU hr)) ops_eq (pz_f (pf_n 8)) (pz_f pf_str) (nomark _))
  (pss_1 (ps_x (pf_mt 3 PySem.F.plainAttrs_list PySem.F.slot_list_append PySem.F.type_list_append mt_append ms_append (pfs_c (pf_tup (pfs_c (pf_n 8) (pfs_c (pf_v (pv_call (ok_law_drawn T) (hr.mono (by decide)) (by rfl) T.g_law_drawn T.kp_law_drawn T.b_law_drawn tk (pfs_c (pf_n 7) (pfs_c pf_int (pfs_c (pf_n 6) pfs_n))))) (pfs_c (pf_n 6) pfs_n)))) pfs_n))))
  (pss_1 (ps_x (pf_mt 3 PySem.F.plainAttrs_list PySem.F.slot_list_append PySem.F.type_list_append mt_append ms_append (pfs_c (pf_tup (pfs_c (pf_n 8) (pfs_c (pf_v (pv_call (ok_law_drawn T) (hr.mono (by decide)) (by rfl) T.g_law_drawn T.kp_law_drawn T.b_law_drawn tk (pfs_c (pf_n 7) (pfs_c (pf_v (pv_callTy call_intV cs_intV (by rfl) T.m_int (by decide +kernel) (pzs_c (pz_f (pf_v (pv_ix ix_seq ops_at (pz_f (pf_n 8)) (pz_f (pf_neg pf_int)) (fun _ _ => rfl)))) pzs_n))) (pfs_c (pf_n 6) pfs_n))))) (pfs_c (pf_n 6) pfs_n)))) pfs_n)))))))))))))
  (pss_c (ps_a 9 sc_law_circuit.nd rfl (by first | exact .inl rfl | exact .inr rfl) (pv_f (pf_v (pv_callTy call_tuple_of cs_tuple (by rfl) T.m_tuple (by decide +kernel) (pzs_c (pz_f (pf_v (pv_lc (own := [("k", 10)]) rfl sc_law_circuit.nd (blkOk_by (own := [("k", 10)]) (N := N_law_circuit) (sc := defScope s_law_circuit) (by decide +kernel)) (pi_r1 (by rfl) T.m_range (pfs_c (pf_v (pv_bin op_addV ops_add (pz_f pf_int) (pz_f (pf_v (pv_ix ix_seq ops_at (pz_f (pf_n 2)) (pz_f pf_int) (fun _ _ => rfl)))))) pfs_n)) (fun _ _ _ _ _ => (pg_n 10 (by decide) sc_law_circuit.nd rfl (by first | exact .inl rfl | exact .inr rfl) (by first | exact .inl rfl | exact .inr rfl))) (fun _ _ _ _ _ => pbs_n) (fun _ _ _ _ _ => (pf_v (pv_bin op_mod ops_mod (pz_f (pf_v (pv_callTy call_intV cs_intV (by rfl) T.m_int (by decide +kernel) (pzs_c (pz_f (pf_v (pv_bin op_addV ops_add (pz_f (pf_v (pv_ix ix_seq ops_at (pz_f (pf_n 2)) (pz_f pf_int) (fun _ _ => rfl)))) (pz_f (pf_v (pv_bin op_mulV ops_mul (pz_f (pf_n 10)) (pz_f (pf_v (pv_ix ix_seq ops_at (pz_f (pf_n 2)) (pz_f pf_int) (fun _ _ => rfl)))))))))) pzs_n)))) (pz_f (pf_n 5)))))))) pzs_n)))))
  (pss_1 (ps_r (pv_f (pf_tup (pfs_c (pf_v (pv_ix ix_seq ops_at (pz_f (pf_n 2)) (pz_f pf_int) (fun _ _ => rfl))) (pfs_c (pf_v (pv_callTy call_tuple_of cs_tuple (by rfl) T.m_tuple (by decide +kernel) (pzs_c (pz_b 3) pzs_n))) (pfs_c (pf_n 9) (pfs_c (pf_v (pv_callTy call_tuple_of cs_tuple (by rfl) T.m_tuple (by decide +kernel) (pzs_c (pz_f (pf_v (pv_lc (own := [("k", 10)]) rfl sc_law_circuit.nd (blkOk_by (own := [("k", 10)]) (N := N_law_circuit) (sc := defScope s_law_circuit) (by decide +kernel)) (pi_r1 (by rfl) T.m_range (pfs_c (pf_n 4) pfs_n)) (fun _ _ _ _ _ => (pg_n 10 (by decide) sc_law_circuit.nd rfl (by first | exact .inl rfl | exact .inr rfl) (by first | exact .inl rfl | exact .inr rfl))) (fun _ _ _ _ _ => pbs_n) (fun _ _ _ _ _ => (pf_v (pv_bin op_mod ops_mod (pz_f (pf_v (pv_callTy call_intV cs_intV (by rfl) T.m_int (by decide +kernel) (pzs_c (pz_f (pf_v (pv_bin op_addV ops_add (pz_f (pf_v (pv_ix ix_seq ops_at (pz_f (pf_n 2)) (pz_f pf_int) (fun _ _ => rfl)))) (pz_f (pf_n 10))))) pzs_n)))) (pz_f pf_int))))))) pzs_n))) pfs_n))))))))))))))
theorem ok_law_value (T : Tx K mg w) : FnOk P w K mg base (L2.CX P w) 1 T.f_law_value T.fd_law_value ["kind", "bits"] (spV K mg 2 F_law_value) := fn_ok T.F_law_value sc_law_value fun cdv A outer s H E W hr tk pw =>
  (pss_c (ps_i (pb_cmp (op_eqV (hU hr)) ops_eq (pz_f (pf_v (pv_cut (pz_f (pf_n 0)) pp_n (pp_s pf_int)))) (pz_f pf_str) (nomark _))
  (pss_1 (ps_r (pv_callTy call_intV cs_intV (by rfl) T.m_int (by decide +kernel) (pzs_c (pz_f (pf_v (pv_ix ix_seq ops_at (pz_f (pf_n 0)) (pz_f pf_int) (fun _ _ => rfl)))) pzs_n))))
  pss_n)
  (pss_c (ps_i (pb_cmp (op_eqV (hU hr)) ops_eq (pz_f (pf_v (pv_cut (pz_f (pf_n 0)) pp_n (pp_s pf_int)))) (pz_f pf_str) (nomark _))
  (pss_1 (ps_r (pv_callTy call_intV cs_intV (by rfl) T.m_int (by decide +kernel) (pzs_c (pz_f (pf_v (pv_cmp (op_eqV (hU hr)) ops_eq (pz_f (pf_v (pv_callB (cr_sum rfl) cs_sum (by rfl) T.m_sum (by decide +kernel) (pzs_c (pz_f (pf_n 1)) pzs_n)))) (pz_f pf_int) (nomark _)))) pzs_n))))
  pss_n)
  (pss_1 (ps_r (pv_callTy call_intV cs_intV (by rfl) T.m_int (by decide +kernel) (pzs_c (pz_f (pf_v (pv_cmp op_ltV ops_lt (pz_f (pf_v (pv_callB (cr_sum rfl) cs_sum (by rfl) T.m_sum (by decide +kernel) (pzs_c (pz_f (pf_n 1)) pzs_n)))) (pz_f (pf_v (pv_callB call_lenV cs_len (by rfl) T.m_len (by decide +kernel) (pzs_c (pz_f (pf_n 1)) pzs_n)))) (nomark _)))) pzs_n))))))
theorem ok_law_values (T : Tx K mg w) : FnOk P w K mg base (L2.CX P w) 2 T.f_law_values T.fd_law_values ["circuit", "inputs", "states"] (spV K mg 3 F_law_values) := fn_ok T.F_law_values sc_law_values fun cdv A outer s H E W hr tk pw =>
  (pss_c (ps_a 3 sc_law_values.nd rfl (by first | exact .inl rfl | exact .inr rfl) (pv_callTy call_list_of cs_list (by rfl) T.m_list (by decide +kernel) (pzs_c (pz_f (pf_n 1)) pzs_n)))
  (pss_c (ps_a 4 sc_law_values.nd rfl (by first | exact .inl rfl | exact .inr rfl) (pv_f pf_int))
  (pss_c (ps_f (is := [5]) pw rfl (pi_lt (pf_v (pv_ix ix_seq ops_at (pz_f (pf_n 0)) (pz_f pf_int) (fun _ _ => rfl)))) (pg_n 5 (by decide) sc_law_values.nd rfl (by first | exact .inl rfl | exact .inr rfl) (by first | exact .inl rfl | exact .inr rfl))
  (pss_1 (ps_i (pb_cmp (op_eqV (hU hr)) ops_eq (pz_f (pf_v (pv_ix ix_seq ops_at (pz_f (pf_n 5)) (pz_f pf_int) (fun _ _ => rfl)))) (pz_f pf_str) (nomark _))
  (pss_c (ps_x (pf_mt 3 PySem.F.plainAttrs_list PySem.F.slot_list_append PySem.F.type_list_append mt_append ms_append (pfs_c (pf_v (pv_ix ix_seq ops_at (pz_f (pf_n 2)) (pz_f (pf_n 4)) (fun _ _ => rfl))) pfs_n)))
  (pss_1 (ps_a 4 sc_law_values.nd rfl (by first | exact .inl rfl | exact .inr rfl) (pv_f (pf_v (pv_bin op_addV ops_add (pz_f (pf_n 4)) (pz_f pf_int)))))))
  (pss_1 (ps_x (pf_mt 3 PySem.F.plainAttrs_list PySem.F.slot_list_append PySem.F.type_list_append mt_append ms_append (pfs_c (pf_v (pv_call (ok_law_value T) (hr.mono (by decide)) (by rfl) T.g_law_value T.kp_law_value T.b_law_value tk (pfs_c (pf_v (pv_ix ix_seq ops_at (pz_f (pf_n 5)) (pz_f pf_int) (fun _ _ => rfl))) (pfs_c (pf_v (pv_lc (own := [("net", 6)]) rfl sc_law_values.nd (blkOk_by (own := [("net", 6)]) (N := N_law_values) (sc := defScope s_law_values) (by decide +kernel)) (pi_lt (pf_v (pv_ix ix_seq ops_at (pz_f (pf_n 5)) (pz_f pf_int) (fun _ _ => rfl)))) (fun _ _ _ _ _ => (pg_n 6 (by decide) sc_law_values.nd rfl (by first | exact .inl rfl | exact .inr rfl) (by first | exact .inl rfl | exact .inr rfl))) (fun _ _ _ _ _ => pbs_n) (fun _ _ _ _ _ => (pf_v (pv_ix ix_seq ops_at (pz_b 3) (pz_f (pf_n 6)) (fun _ _ => rfl)))))) pfs_n)))) pfs_n)))))))
  (pss_1 (ps_r (pv_mv 3))))))
theorem ok_law_refuses (T : Tx K mg w) : FnOk P w K mg base (L2.CX P w) 5 T.f_law_refuses T.fd_law_refuses ["circuit", "inputs", "states"] (spV K mg 3 F_law_refuses) := fn_ok T.F_law_refuses sc_law_refuses fun cdv A outer s H E W hr tk pw =>
  (pss_c (ps_a 3 sc_law_refuses.nd rfl (by first | exact .inl rfl | exact .inr rfl) (pv_f pf_int))
  (pss_c (ps_try rfl rfl ⟨rfl, by decide, Or.inl T.g_InvalidValues⟩ tk T.ex_InvalidValues (fun W' pn xe tk' pw' => (pss_1 (ps_x (pf_v (pv_call (ok_cell_values T) (hr.mono (by decide)) (by rfl) T.g_cell_values T.kp_cell_values T.b_cell_values tk' (pfs_c (pf_n 0) (pfs_c (pf_n 1) (pfs_c (pf_n 2) pfs_n))))))))
  (fun a pn => (pss_1 (ps_a 3 sc_law_refuses.nd rfl (by first | exact .inl rfl | exact .inr rfl) (pv_f (pf_v (pv_bin op_addV ops_add (pz_f (pf_n 3)) (pz_f pf_int))))))))
  (pss_c (ps_try rfl rfl ⟨rfl, by decide, Or.inl T.g_InvalidValues⟩ tk T.ex_InvalidValues (fun W' pn xe tk' pw' => (pss_1 (ps_x (pf_v (pv_call (ok_circuit_outputs T) (hr.mono (by decide)) (by rfl) T.g_circuit_outputs T.kp_circuit_outputs T.b_circuit_outputs tk' (pfs_c (pf_n 0) (pfs_c (pf_n 1) (pfs_c (pf_n 2) pfs_n))))))))
  (fun a pn => (pss_1 (ps_a 3 sc_law_refuses.nd rfl (by first | exact .inl rfl | exact .inr rfl) (pv_f (pf_v (pv_bin op_addV ops_add (pz_f (pf_n 3)) (pz_f pf_int))))))))
  (pss_c (ps_try rfl rfl ⟨rfl, by decide, Or.inl T.g_InvalidValues⟩ tk T.ex_InvalidValues (fun W' pn xe tk' pw' => (pss_1 (ps_x (pf_v (pv_call (ok_circuit_next T) (hr.mono (by decide)) (by rfl) T.g_circuit_next T.kp_circuit_next T.b_circuit_next tk' (pfs_c (pf_n 0) (pfs_c (pf_n 1) (pfs_c (pf_n 2) pfs_n))))))))
  (fun a pn => (pss_1 (ps_a 3 sc_law_refuses.nd rfl (by first | exact .inl rfl | exact .inr rfl) (pv_f (pf_v (pv_bin op_addV ops_add (pz_f (pf_n 3)) (pz_f pf_int))))))))
  (pss_1 (ps_r (pv_cmp (op_eqV (hU hr)) ops_eq (pz_f (pf_n 3)) (pz_f pf_int) (nomark _))))))))
theorem ok_law_right_case (T : Tx K mg w) : FnOk P w K mg base (L2.CX P w) 5 T.f_law_right_case T.fd_law_right_case ["circuit", "inputs", "states"] (spV K mg 3 F_law_right_case) := fn_ok T.F_law_right_case sc_law_right_case fun cdv A outer s H E W hr tk pw =>
  (pss_c (ps_a 3 sc_law_right_case.nd rfl (by first | exact .inl rfl | exact .inr rfl) (pv_f (pf_v (pv_call (ok_law_values T) (hr.mono (by decide)) (by rfl) T.g_law_values T.kp_law_values T.b_law_values tk (pfs_c (pf_n 0) (pfs_c (pf_n 1) (pfs_c (pf_n 2) pfs_n)))))))
  (pss_c (ps_a 4 sc_law_right_case.nd rfl (by first | exact .inl rfl | exact .inr rfl) (pv_f (pf_v (pv_lst (pfs_c (pf_v (pv_callTy call_list_of cs_list (by rfl) T.m_list (by decide +kernel) (pzs_c (pz_f (pf_n 1)) pzs_n))) (pfs_c (pf_v (pv_callTy call_list_of cs_list (by rfl) T.m_list (by decide +kernel) (pzs_c (pz_f (pf_n 2)) pzs_n))) pfs_n))))))
  (pss_c (ps_a 5 sc_law_right_case.nd rfl (by first | exact .inl rfl | exact .inr rfl) (pv_lst (pfs_c (pf_v (pv_call (ok_cell_values T) (hr.mono (by decide)) (by rfl) T.g_cell_values T.kp_cell_values T.b_cell_values tk (pfs_c (pf_n 0) (pfs_c (pf_v (pv_ix ix_seq ops_at (pz_f (pf_n 4)) (pz_f pf_int) (fun _ _ => rfl))) (pfs_c (pf_v (pv_ix ix_seq ops_at (pz_f (pf_n 4)) (pz_f pf_int) (fun _ _ => rfl))) pfs_n))))) (pfs_c (pf_v (pv_call (ok_circuit_outputs T) (hr.mono (by decide)) (by rfl) T.g_circuit_outputs T.kp_circuit_outputs T.b_circuit_outputs tk (pfs_c (pf_n 0) (pfs_c (pf_v (pv_ix ix_seq ops_at (pz_f (pf_n 4)) (pz_f pf_int) (fun _ _ => rfl))) (pfs_c (pf_v (pv_ix ix_seq ops_at (pz_f (pf_n 4)) (pz_f pf_int) (fun _ _ => rfl))) pfs_n))))) pfs_n))))
  (pss_c (ps_x (pf_mt 5 PySem.F.plainAttrs_list PySem.F.slot_list_append PySem.F.type_list_append mt_append ms_append (pfs_c (pf_v (pv_call (ok_circuit_next T) (hr.mono (by decide)) (by rfl) T.g_circuit_next T.kp_circuit_next T.b_circuit_next tk (pfs_c (pf_n 0) (pfs_c (pf_v (pv_ix ix_seq ops_at (pz_f (pf_n 4)) (pz_f pf_int) (fun _ _ => rfl))) (pfs_c (pf_v (pv_ix ix_seq ops_at (pz_f (pf_n 4)) (pz_f pf_int) (fun _ _ => rfl))) pfs_n))))) pfs_n)))
  (pss_c (ps_fz 6 (ps_lc 6 (own := [("cell", 7)]) rfl sc_law_right_case.nd (blkOk_by (own := [("cell", 7)]) (N := N_law_right_case) (sc := defScope s_law_right_case) (by decide +kernel)) rfl rfl (sw_true rfl rfl rfl (by decide +kernel)) (pi_lt (pf_v (pv_ix ix_seq ops_at (pz_f (pf_n 0)) (pz_f pf_int) (fun _ _ => rfl)))) (fun _ _ _ _ _ => (pg_n 7 (by decide) sc_law_right_case.nd rfl (by first | exact .inl rfl | exact .inr rfl) (by first | exact .inl rfl | exact .inr rfl))) (fun _ _ _ _ _ => (pbs_1 (pb_cmp (op_eqV (hU hr)) ops_eq (pz_f (pf_v (pv_ix ix_seq ops_at (pz_f (pf_n 7)) (pz_f pf_int) (fun _ _ => rfl)))) (pz_f pf_str) (nomark _)))) (fun _ _ _ _ _ => (pf_v (pv_ix ix_seq ops_at (pz_f (pf_n 3)) (pz_f (pf_v (pv_ix ix_seq ops_at (pz_f (pf_v (pv_ix ix_seq ops_at (pz_f (pf_n 7)) (pz_f pf_int) (fun _ _ => rfl)))) (pz_f pf_int) (fun _ _ => rfl)))) (fun _ _ => rfl))))))
  (pss_c (ps_i (pb_cmp (op_neV (hU hr)) ops_ne (pz_f (pf_n 4)) (pz_f (pf_v (pv_lst (pfs_c (pf_n 1) (pfs_c (pf_n 2) pfs_n))))) (nomark _))
  (pss_1 (ps_r (pv_f pf_bl)))
  pss_n)
  (pss_c (ps_i (pb_w (pw_o (pb_not (pb_o (pz_f (pf_v (pv_call (ok_law_is_bits T) (hr.mono (by decide)) (by rfl) T.g_law_is_bits T.kp_law_is_bits T.b_law_is_bits tk (pfs_c (pf_v (pv_ix ix_seq ops_at (pz_b 5) (pz_f pf_int) (fun _ _ => rfl))) (pfs_c (pf_v (pv_callB call_lenV cs_len (by rfl) T.m_len (by decide +kernel) (pzs_c (pz_f (pf_n 3)) pzs_n))) pfs_n))))))) (pw_o1 (pb_not (pb_o (pz_f (pf_v (pv_call (ok_law_is_bits T) (hr.mono (by decide)) (by rfl) T.g_law_is_bits T.kp_law_is_bits T.b_law_is_bits tk (pfs_c (pf_v (pv_ix ix_seq ops_at (pz_b 5) (pz_f pf_int) (fun _ _ => rfl))) (pfs_c (pf_v (pv_callB call_lenV cs_len (by rfl) T.m_len (by decide +kernel) (pzs_c (pz_f (pf_v (pv_ix ix_seq ops_at (pz_f (pf_n 0)) (pz_f pf_int) (fun _ _ => rfl)))) pzs_n))) pfs_n))))))))))
  (pss_1 (ps_r (pv_f pf_bl)))
  pss_n)
  (pss_c (ps_i (pb_not (pb_o (pz_f (pf_v (pv_call (ok_law_is_bits T) (hr.mono (by decide)) (by rfl) T.g_law_is_bits T.kp_law_is_bits T.b_law_is_bits tk (pfs_c (pf_v (pv_ix ix_seq ops_at (pz_b 5) (pz_f pf_int) (fun _ _ => rfl))) (pfs_c (pf_v (pv_callB call_lenV cs_len (by rfl) T.m_len (by decide +kernel) (pzs_c (pz_f (pf_n 2)) pzs_n))) pfs_n)))))))
  (pss_1 (ps_r (pv_f pf_bl)))
  pss_n)
  (pss_1 (ps_r (pv_and (pf_v (pv_cmp (op_eqV (hU hr)) ops_eq (pz_f (pf_v (pv_ix ix_seq ops_at (pz_b 5) (pz_f pf_int) (fun _ _ => rfl)))) (pz_f (pf_n 3)) (nomark _))) (pv_and (pf_v (pv_cmp (op_eqV (hU hr)) ops_eq (pz_f (pf_v (pv_ix ix_seq ops_at (pz_b 5) (pz_f pf_int) (fun _ _ => rfl)))) (pz_f (pf_v (pv_lc (own := [("net", 8)]) rfl sc_law_right_case.nd (blkOk_by (own := [("net", 8)]) (N := N_law_right_case) (sc := defScope s_law_right_case) (by decide +kernel)) (pi_lt (pf_v (pv_ix ix_seq ops_at (pz_f (pf_n 0)) (pz_f pf_int) (fun _ _ => rfl)))) (fun _ _ _ _ _ => (pg_n 8 (by decide) sc_law_right_case.nd rfl (by first | exact .inl rfl | exact .inr rfl) (by first | exact .inl rfl | exact .inr rfl))) (fun _ _ _ _ _ => pbs_n) (fun _ _ _ _ _ => (pf_v (pv_ix ix_seq ops_at (pz_f (pf_n 3)) (pz_f (pf_n 8)) (fun _ _ => rfl))))))) (nomark _))) (pv_one (pv_cmp (op_eqV (hU hr)) ops_eq (pz_f (pf_v (pv_ix ix_seq ops_at (pz_b 5) (pz_f pf_int) (fun _ _ => rfl)))) (pz_f (pf_n 6)) (nomark _)))))))))))))))
theorem ok_law_bare (T : Tx K mg w) : FnOk P w K mg base (L2.CX P w) 2 T.f_law_bare T.fd_law_bare ["script", "circuit"] (spV K mg 2 F_law_bare) := fn_ok T.F_law_bare sc_law_bare fun cdv A outer s H E W hr tk pw =>
  (pss_c (ps_i (pb_w (pw_o (pb_cmp (op_eqV (hU hr)) ops_eq (pz_f (pf_v (pv_ix ix_seq ops_at (pz_f (pf_n 1)) (pz_f pf_int) (fun _ _ => rfl)))) (pz_f pf_int) (nomark _)) (pw_o1 (pb_cmp (op_neV (hU hr)) ops_ne (pz_f (pf_v (pv_bin op_mod ops_mod (pz_f (pf_v (pv_callTy call_intV cs_intV (by rfl) T.m_int (by decide +kernel) (pzs_c (pz_f (pf_v (pv_call (ok_law_cell T) (hr.mono (by decide)) (by rfl) T.g_law_cell T.kp_law_cell T.b_law_cell tk (pfs_c (pf_n 0) (pfs_c pf_int pfs_n))))) pzs_n)))) (pz_f pf_int)))) (pz_f pf_int) (nomark _)))))
  (pss_1 (ps_r (pv_f (pf_n 1))))
  pss_n)
  (pss_1 (ps_r (pv_f (pf_tup (pfs_c (pf_v (pv_ix ix_seq ops_at (pz_f (pf_n 1)) (pz_f pf_int) (fun _ _ => rfl))) (pfs_c (pf_tup pfs_n) (pfs_c (pf_v (pv_callTy call_tuple_of cs_tuple (by rfl) T.m_tuple (by decide +kernel) (pzs_c (pz_f (pf_v (pv_lc (own := [("net", 2)]) rfl sc_law_bare.nd (blkOk_by (own := [("net", 2)]) (N := N_law_bare) (sc := defScope s_law_bare) (by decide +kernel)) (pi_lt (pf_v (pv_ix ix_seq ops_at (pz_f (pf_n 1)) (pz_f pf_int) (fun _ _ => rfl)))) (fun _ _ _ _ _ => (pg_n 2 (by decide) sc_law_bare.nd rfl (by first | exact .inl rfl | exact .inr rfl) (by first | exact .inl rfl | exact .inr rfl))) (fun _ _ _ _ _ => pbs_n) (fun _ _ _ _ _ => (pf_v (pv_bin op_mod ops_mod (pz_f (pf_v (pv_callTy call_intV cs_intV (by rfl) T.m_int (by decide +kernel) (pzs_c (pz_f (pf_n 2)) pzs_n)))) (pz_f (pf_v (pv_ix ix_seq ops_at (pz_f (pf_n 1)) (pz_f pf_int) (fun _ _ => rfl)))))))))) pzs_n))) (pfs_c (pf_tup pfs_n) pfs_n)))))))))
theorem ok_law (T : Tx K mg w) : FnOk P w K mg base (L2.CX P w) 6 T.f_law T.fd_law ["script"] (spV K mg 1 F_law) := fn_ok T.F_law sc_law fun cdv A outer s H E W hr tk pw =>
  (pss_c (ps_a 1 sc_law.nd rfl (by first | exact .inl rfl | exact .inr rfl) (pv_f (pf_v (pv_call (ok_law_bare T) (hr.mono (by decide)) (by rfl) T.g_law_bare T.kp_law_bare T.b_law_bare tk (pfs_c (pf_n 0) (pfs_c (pf_v (pv_call (ok_law_circuit T) (hr.mono (by decide)) (by rfl) T.g_law_circuit T.kp_law_circuit T.b_law_circuit tk (pfs_c (pf_n 0) (pfs_c pf_int pfs_n)))) pfs_n))))))
  (pss_c (ps_a 2 sc_law.nd rfl (by first | exact .inl rfl | exact .inr rfl) (pv_f (pf_v (pv_callB call_lenV cs_len (by rfl) T.m_len (by decide +kernel) (pzs_c (pz_f (pf_v (pv_ix ix_seq ops_at (pz_f (pf_n 1)) (pz_f pf_int) (fun _ _ => rfl)))) pzs_n)))))
  (pss_c (ps_a 3 sc_law.nd rfl (by first | exact .inl rfl | exact .inr rfl) (pv_f (pf_v (pv_call (ok_law_parts T) (hr.mono (by decide)) (by rfl) T.g_law_parts T.kp_law_parts T.b_law_parts tk (pfs_c (pf_v (pv_call (ok_law_cell T) (hr.mono (by decide)) (by rfl) T.g_law_cell T.kp_law_cell T.b_law_cell tk (pfs_c (pf_n 0) (pfs_c pf_int pfs_n)))) (pfs_c (pf_v (pv_lst (pfs_c pf_int (pfs_c pf_int (pfs_c pf_int pfs_n))))) pfs_n))))))
  (pss_c (ps_f (is := [4]) pw rfl (pi_r1 (by rfl) T.m_range (pfs_c pf_int pfs_n)) (pg_n 4 (by decide) sc_law.nd rfl (by first | exact .inl rfl | exact .inr rfl) (by first | exact .inl rfl | exact .inr rfl))
  (pss_c (ps_a 5 sc_law.nd rfl (by first | exact .inl rfl | exact .inr rfl) (pv_f (pf_v (pv_call (ok_law_bits T) (hr.mono (by decide)) (by rfl) T.g_law_bits T.kp_law_bits T.b_law_bits tk (pfs_c (pf_v (pv_bin op_addV ops_add (pz_f (pf_v (pv_ix ix_seq ops_at (pz_f (pf_n 3)) (pz_f pf_int) (fun _ _ => rfl)))) (pz_f (pf_n 4)))) (pfs_c pf_int pfs_n))))))
  (pss_c (ps_a 6 sc_law.nd rfl (by first | exact .inl rfl | exact .inr rfl) (pv_f (pf_v (pv_cut (pz_f (pf_n 5)) pp_n (pp_s (pf_v (pv_ix ix_seq ops_at (pz_f (pf_n 1)) (pz_f pf_int) (fun _ _ => rfl))))))))
  (pss_c (ps_a 7 sc_law.nd rfl (by first | exact .inl rfl | exact .inr rfl) (pv_f (pf_v (pv_cut (pz_f (pf_n 5)) (pp_s (pf_v (pv_ix ix_seq ops_at (pz_f (pf_n 1)) (pz_f pf_int) (fun _ _ => rfl)))) (pp_s (pf_v (pv_bin op_addV ops_add (pz_f (pf_v (pv_ix ix_seq ops_at (pz_f (pf_n 1)) (pz_f pf_int) (fun _ _ => rfl)))) (pz_f (pf_n 2)))))))))
  (pss_1 (ps_i (pb_not (pb_o (pz_f (pf_v (pv_call (ok_law_right_case T) (hr.mono (by decide)) (by rfl) T.g_law_right_case T.kp_law_right_case T.b_law_right_case tk (pfs_c (pf_n 1) (pfs_c (pf_n 6) (pfs_c (pf_n 7) pfs_n))))))))
  (pss_1 (ps_r (pv_f pf_bl)))
  pss_n))))))
  (pss_c (ps_i (pb_cmp (op_eqV (hU hr)) ops_eq (pz_f (pf_v (pv_ix ix_seq ops_at (pz_f (pf_n 3)) (pz_f pf_int) (fun _ _ => rfl)))) (pz_f pf_int) (nomark _))
  (pss_1 (ps_r (pv_call (ok_law_refuses T) (hr.mono (by decide)) (by rfl) T.g_law_refuses T.kp_law_refuses T.b_law_refuses tk (pfs_c (pf_n 1) (pfs_c (pf_v (pv_call (ok_law_wrong T) (hr.mono (by decide)) (by rfl) T.g_law_wrong T.kp_law_wrong T.b_law_wrong tk (pfs_c (pf_n 6) (pfs_c (pf_v (pv_ix ix_seq ops_at (pz_f (pf_n 3)) (pz_f pf_int) (fun _ _ => rfl))) pfs_n)))) (pfs_c (pf_n 7) pfs_n))))))
  pss_n)
  (pss_1 (ps_r (pv_call (ok_law_refuses T) (hr.mono (by decide)) (by rfl) T.g_law_refuses T.kp_law_refuses T.b_law_refuses tk (pfs_c (pf_n 1) (pfs_c (pf_n 6) (pfs_c (pf_v (pv_call (ok_law_wrong T) (hr.mono (by decide)) (by rfl) T.g_law_wrong T.kp_law_wrong T.b_law_wrong tk (pfs_c (pf_n 7) (pfs_c (pf_v (pv_ix ix_seq ops_at (pz_f (pf_n 3)) (pz_f pf_int) (fun _ _ => rfl))) pfs_n)))) pfs_n)))))))))))
end
end K31
namespace PV
open PySem
/-! ### evaluating -/
section
variable {α β : Type}
theorem bind_ok {a : α} {Γ : Ev} {k : α → Ev → Out β} : Out.bind (.ok a Γ) k = k a Γ := id rfl
theorem bind_ex {e : Exc} {Γ : Ev} {k : α → Ev → Out β} : Out.bind (.ex e Γ) k = .ex e Γ := id rfl
theorem of_some {a : α} {Γ : Ev} : Out.of (some a) Γ = .ok a Γ := id rfl
theorem sB_ok {a : α} {Γ : Ev} {k : α → Ev → SO} : sB (.ok a Γ) k = k a Γ := id rfl
theorem sB_ex {e : Exc} {Γ : Ev} {k : α → Ev → SO} : sB (.ex e Γ : Out α) k = .ex e Γ := id rfl
end
def SO.then (r : SO) (b : Ev → SO) : SO := match r with
  | .nx Γ => b Γ
  | r => r
theorem then_nx {Γ : Ev} {b : Ev → SO} : SO.then (.nx Γ) b = b Γ := id rfl
theorem then_rt {x : Va} {Γ : Ev} {b : Ev → SO} : SO.then (.rt x Γ) b = .rt x Γ := id rfl
theorem then_ex {e : Exc} {Γ : Ev} {b : Ev → SO} : SO.then (.ex e Γ) b = .ex e Γ := id rfl
theorem then_ct {Γ : Ev} {b : Ev → SO} : SO.then (.ct Γ) b = .ct Γ := id rfl
theorem then_bk {Γ : Ev} {b : Ev → SO} : SO.then (.bk Γ) b = .bk Γ := id rfl
theorem seq_eq (a b : Ev → SO) (Γ : Ev) : sSeq a b Γ = SO.then (a Γ) b := id rfl

/-! the combinators, at an environment -/
def gZ (o : Option (Option Va)) (Γ : Ev) : Out D := match o with | some (some (.z, d)) => .ok d Γ | _ => .st
def gB (o : Option (Option Va)) (Γ : Ev) : Out D := match o with | some (some _) => .ok .none Γ | _ => .st
def gBl (o : Option (Option Va)) : Option D := match o with | some (some (.l .z, .list ds)) => some (.list ds) | some (some (.z, d)) => some d | _ => none
def gF (o : Option (Option Va)) (i : Nat) (Γ : Ev) : Out D := match o with | some (some x) => .ok x.2 (Γ.set i (some (.z, x.2))) | _ => .st
def gM (o : Option (Option Va)) (i : Nat) (Γ : Ev) : Out Va := match o with | some (some x) => .ok x (Γ.set i none) | _ => .st
section
variable {Γ : Ev} {d d' : D} {i : Nat} {f g h : Ev → Out D} {u v : Ev → Out Va} {o p q : Opn} {os : Opns} {fs : Ev → Out (List D)} {c c' : Ev → Out Bool} {s : Sh}
theorem gZ_z : gZ (some (some (.z, d))) Γ = .ok d Γ := id rfl
theorem gB_s {x : Va} : gB (some (some x)) Γ = .ok .none Γ := id rfl
theorem gBl_l {ds : List D} : gBl (some (some (.l .z, .list ds))) = some (.list ds) := id rfl
theorem gBl_z : gBl (some (some (.z, d))) = some d := id rfl
theorem gF_s {x : Va} : gF (some (some x)) i Γ = .ok x.2 (Γ.set i (some (.z, x.2))) := id rfl
theorem gM_s {x : Va} : gM (some (some x)) i Γ = .ok x (Γ.set i none) := id rfl
theorem fC_ap : fC d Γ = .ok d Γ := id rfl
theorem fN_ap : fN i Γ = gZ (Γ[i]?) Γ := id rfl
theorem fZ_ap : fZ i Γ = gF (Γ[i]?) i Γ := id rfl
theorem vMv_ap : vMv i Γ = gM (Γ[i]?) i Γ := id rfl
theorem fV_ap : fV u Γ = (u Γ).bind fun x Γ1 => .ok x.2 Γ1 := id rfl
theorem vF_ap : vF f Γ = (f Γ).bind fun d Γ1 => .ok (.z, d) Γ1 := id rfl
theorem oF_f : (oF f).f Γ = f Γ := id rfl
theorem oF_l : (oF f).l Γ d = some d := id rfl
theorem oB_f : (oB i).f Γ = gB (Γ[i]?) Γ := id rfl
theorem oB_l : (oB i).l Γ d = gBl (Γ[i]?) := id rfl
theorem osN_f : osN.f Γ = .ok [] Γ := id rfl
theorem osN_l {ds : List D} : osN.l Γ ds = some ds := id rfl
theorem osC_f : (osC o os).f Γ = (o.f Γ).bind fun d Γ1 => (os.f Γ1).bind fun ds Γ2 => .ok (d :: ds) Γ2 := id rfl
theorem osC_l {ds : List D} : (osC o os).l Γ (d :: ds) = (o.l Γ d).bind fun d => (os.l Γ ds).bind fun ds => some (d :: ds) := id rfl
theorem o2_ap {op : D → D → Option Va} : o2 op o p Γ = (o.f Γ).bind fun x Γ1 => (p.f Γ1).bind fun y Γ2 => .of ((o.l Γ2 x).bind fun x => (p.l Γ2 y).bind fun y => op x y) Γ2 := id rfl
theorem fB_ap {op : List D → Option Va} : fB op os Γ = (os.f Γ).bind fun ds Γ1 => .of ((os.l Γ1 ds).bind op) Γ1 := id rfl
theorem fsN_ap : fsN Γ = .ok [] Γ := id rfl
theorem fsC_ap : fsC f fs Γ = (f Γ).bind fun d Γ1 => (fs Γ1).bind fun ds Γ2 => .ok (d :: ds) Γ2 := id rfl
theorem fLst_ap : fLst fs Γ = (fs Γ).bind fun ds Γ1 => .of (if ds.length ≤ 16777216 then some (.l .z, .list ds) else none) Γ1 := id rfl
theorem fTup_ap : fTup fs Γ = (fs Γ).bind fun ds Γ1 => .of (if ds.length ≤ 16777216 then some (.tuple ds) else none) Γ1 := id rfl
def mtE (o : Option (Option Va)) (i : Nat) (op : List D → List D → Option (D × List D)) (args : List D) (Γ : Ev) : Out D := match o with
  | some (some (.l .z, .list ds)) => (match op ds args with | some (d, ds') => .ok d (Γ.set i (some (.l .z, .list ds'))) | none => .st)
  | _ => .st
def mtS (o : Option (Option Va)) (r : Out D) : Out D := match o with | some (some (.l .z, .list _)) => r | _ => .st
theorem fMt_ap {op : List D → List D → Option (D × List D)} : fMt i op fs Γ = mtS (Γ[i]?) ((fs Γ).bind fun args Γ1 => mtE (Γ1[i]?) i op args Γ1) := id rfl
theorem mtS_l {ds : List D} {r : Out D} : mtS (some (some (.l .z, .list ds))) r = r := id rfl
theorem mtE_l {op : List D → List D → Option (D × List D)} {ds args : List D} : mtE (some (some (.l .z, .list ds))) i op args Γ = (match op ds args with | some (d, ds') => .ok d (Γ.set i (some (.l .z, .list ds'))) | none => .st) := id rfl
def bB (d : D) : Option Bool := match d with | .bool c => some c | _ => none
theorem bB_b {b : Bool} : bB (.bool b) = some b := id rfl
theorem bV_ap : bV u Γ = (u Γ).bind fun x Γ1 => .of (bB x.2) Γ1 := by
  unfold bV
  congr 1
def bBo (d : D) (Γ : Ev) : Out Bool := match d with | .bool b => .ok b Γ | _ => .st
theorem bBo_b {b : Bool} : bBo (.bool b) Γ = .ok b Γ := id rfl
theorem bF_ap : bF f Γ = (f Γ).bind bBo := id rfl
theorem bO_ap : bO o Γ = (o.f Γ).bind fun d Γ1 => .of ((o.l Γ1 d).bind dTru) Γ1 := id rfl
theorem bNot_ap : bNot c Γ = (c Γ).bind fun b Γ1 => .ok (!b) Γ1 := id rfl
theorem bAnd_ap : bAnd c c' Γ = (c Γ).bind fun b Γ1 => if b = true then c' Γ1 else .ok false Γ1 := id rfl
theorem bOr_ap : bOr c c' Γ = (c Γ).bind fun b Γ1 => if b = true then .ok true Γ1 else c' Γ1 := id rfl
theorem vIf_ap : vIf c u v Γ = (c Γ).bind fun k Γ1 => if k = true then u Γ1 else v Γ1 := id rfl
def vA (d : D) (r : Out Va) (Γ : Ev) : Out Va := match d with | .bool true => r | .bool false => .ok (.z, .bool false) Γ | _ => .st
def vO (d : D) (r : Out Va) (Γ : Ev) : Out Va := match d with | .bool true => .ok (.z, .bool true) Γ | .bool false => r | _ => .st
theorem vA_b {b : Bool} {r : Out Va} : vA (.bool b) r Γ = if b = true then r else .ok (.z, .bool false) Γ := by cases b <;> rfl
theorem vO_b {b : Bool} {r : Out Va} : vO (.bool b) r Γ = if b = true then .ok (.z, .bool true) Γ else r := by cases b <;> rfl
theorem vAnd_ap : vAnd f v Γ = (f Γ).bind fun d Γ1 => vA d (v Γ1) Γ1 := id rfl
theorem vOr_ap : vOr f v Γ = (f Γ).bind fun d Γ1 => vO d (v Γ1) Γ1 := id rfl
def dNot (d : D) (Γ : Ev) : Out D := match d with | .bool b => .ok (.bool !b) Γ | _ => .st
theorem dNot_b {b : Bool} : dNot (.bool b) Γ = .ok (.bool !b) Γ := id rfl
theorem fNot_ap : fNot f Γ = (f Γ).bind dNot := id rfl
def dNg (d : D) (Γ : Ev) : Out D := match d with | .int i => .ok (.int (-i)) Γ | _ => .st
theorem dNg_i {i : Int} : dNg (.int i) Γ = .ok (.int (-i)) Γ := id rfl
theorem fNeg_ap : fNeg f Γ = (f Γ).bind dNg := id rfl
theorem fPN_ap : fPN Γ = .ok none Γ := id rfl
def dPs (d : D) (Γ : Ev) : Out (Option Int) := match d with | .int i => .ok (some i) Γ | _ => .st
theorem dPs_i {i : Int} : dPs (.int i) Γ = .ok (some i) Γ := id rfl
theorem fPS_ap : fPS f Γ = (f Γ).bind dPs := id rfl
theorem vCut_ap {a b : Ev → Out (Option Int)} : vCut o a b Γ = (o.f Γ).bind fun d Γ1 => (a Γ1).bind fun lo Γ2 => (b Γ2).bind fun hi Γ3 => .of ((o.l Γ3 d).bind fun d => dCut d lo hi) Γ3 := id rfl
theorem fIsi_ap {T : String} : fIsi T o Γ = (o.f Γ).bind fun d Γ1 => .of ((o.l Γ1 d).bind (dIsi T)) Γ1 := id rfl
def rOut (r : Res) (Γ : Ev) : Out Va := match r with | .ok x => .ok x Γ | .ex e => .ex e Γ | .st => .st
theorem rOut_ok {x : Va} : rOut (.ok x) Γ = .ok x Γ := id rfl
theorem rOut_ex {e : Exc} : rOut (.ex e) Γ = .ex e Γ := id rfl
theorem fCall_ap {n : Nat} {F : List D → Res} : fCall n F fs Γ = (fs Γ).bind fun ds Γ1 => if ds.length = n then rOut (F ds) Γ1 else .st := id rfl
theorem fDct0_ap : fDct0 Γ = .ok (.dict []) Γ := id rfl
def dIterL (d : D) (Γ : Ev) : Out (List D) := match d with | .list ds => .ok ds Γ | .tuple ds => .ok ds Γ | _ => .st
theorem dIterL_l {ds : List D} : dIterL (.list ds) Γ = .ok ds Γ := id rfl
theorem dIterL_t {ds : List D} : dIterL (.tuple ds) Γ = .ok ds Γ := id rfl
theorem iLT_ap : iLT f Γ = (f Γ).bind dIterL := id rfl
theorem iR1_ap : iR1 fs Γ = (fs Γ).bind fun ds Γ1 => match ds with | [.int j] => if j < 2 ^ 62 ∧ -(2 ^ 62) ≤ j then .ok (rangeL 0 j.toNat) Γ1 else .st | _ => .st := id rfl
theorem iR2_ap : iR2 fs Γ = (fs Γ).bind fun ds Γ1 => match ds with | [.int i, .int j] => if (j < 2 ^ 62 ∧ -(2 ^ 62) ≤ j) ∧ i < 2 ^ 62 ∧ -(2 ^ 62) ≤ i then .ok (rangeL i (j - i).toNat) Γ1 else .st | _ => .st := id rfl
theorem iEn_ap : iEn fs Γ = (fs Γ).bind fun ds Γ1 => match ds with | [.list es] => .ok (enumL es) Γ1 | _ => .st := id rfl
theorem iZp_ap : iZp fs Γ = (fs Γ).bind fun ds Γ1 => match ds with | [.list xs, .list ys] => .ok (zipL xs ys) Γ1 | _ => .st := id rfl
theorem vLR1_ap : vLR1 f Γ = (f Γ).bind fun d Γ1 => match d with | .int j => if 0 ≤ j ∧ j ≤ 16777216 then .ok (.l .z, .list (rangeL 0 j.toNat)) Γ1 else .st | _ => .st := id rfl
theorem vComp_ap {is : List Nat} {ff : Ev → Out (List D)} {t : D → Ev → Option Ev} : vComp is ff t c f Γ = (ff Γ).bind fun ds Γ1 => if ds.length ≤ 16777216 then (match compL is t c f ds (wipeG Γ1 is) with | some (es, Γ2) => .ok (.l .z, .list es) (restG Γ1 Γ2 is) | none => .st) else .st := id rfl
/-! statements -/
variable {a b : Ev → SO} {t : D → Ev → Option Ev}
theorem sNx_ap : sNx Γ = .nx Γ := id rfl
theorem sAsg_ap : sAsg i u Γ = sB (u Γ) fun x Γ1 => .nx (Γ1.set i (some x)) := id rfl
theorem sRet_ap : sRet u Γ = sB (u Γ) fun x Γ1 => .rt x Γ1 := id rfl
theorem sExp_ap : sExp f Γ = sB (f Γ) fun _ Γ1 => .nx Γ1 := id rfl
theorem sIf_ap : sIf c a b Γ = sB (c Γ) fun k Γ1 => if k = true then a Γ1 else b Γ1 := id rfl
theorem sFor_ap {ff : Ev → Out (List D)} : sFor ff t a Γ = sB (ff Γ) fun ds Γ1 => sForL t a ds Γ1 := id rfl
def oNx (o : Option Ev) : SO := match o with | some Γ => .nx Γ | none => .st
theorem oNx_s : oNx (some Γ) = .nx Γ := id rfl
theorem sTgt_ap : sTgt t f Γ = sB (f Γ) fun d Γ1 => oNx (t d Γ1) := id rfl
def fzE (o : Option (Option Va)) (i : Nat) (Γ : Ev) : SO := match o with | some (some x) => .nx (Γ.set i (some (.z, x.2))) | _ => .nx Γ
theorem fzE_s {x : Va} : fzE (some (some x)) i Γ = .nx (Γ.set i (some (.z, x.2))) := id rfl
theorem sFz_ap : sFz i a Γ = (a Γ).then fun Γ1 => fzE (Γ1[i]?) i Γ1 := by
  unfold sFz SO.then fzE
  cases a Γ <;> rfl
theorem sRaise_ap {e : Exc} : sRaise e Γ = .ex e Γ := id rfl
def SO.res (r : SO) : Res := match r with | .nx _ => .ok (.z, .none) | .rt x _ => .ok x | .ex e _ => .ex e | _ => .st
theorem res_nx : SO.res (.nx Γ) = .ok (.z, .none) := id rfl
theorem res_rt {x : Va} : SO.res (.rt x Γ) = .ok x := id rfl
theorem res_ex {e : Exc} : SO.res (.ex e Γ) = .ex e := id rfl
theorem runD_ap {n k : Nat} {ds : List D} : runD n k a ds = if ds.length = k then (a (st0 n ds)).res else .st := id rfl
end
abbrev L (ns : List Int) : D := .list (ns.map .int)
abbrev T (ns : List Int) : D := .tuple (ns.map .int)
theorem at_int {ns : List Int} {k : Nat} {x : Int} (h : ns[k]? = some x) : dAt (L ns) (.int k) = some (.z, .int x) := by
  have : L2.atI (ns.map PyData.int) (k : Int) = some (.int x) := L2.atI_nat (by rw [List.getElem?_map, h]; rfl)
  simp only [dAt, this]
  rfl
theorem atT_int {ns : List Int} {k : Nat} {x : Int} (h : ns[k]? = some x) : dAt (T ns) (.int k) = some (.z, .int x) := by
  have : L2.atI (ns.map PyData.int) (k : Int) = some (.int x) := L2.atI_nat (by rw [List.getElem?_map, h]; rfl)
  simp only [dAt, this]
  rfl
theorem at_list {ds : List D} {k : Nat} {x : D} (h : ds[k]? = some x) : dAt (.list ds) (.int k) = some (.z, x) := by
  simp only [dAt, L2.atI_nat h]
  rfl
theorem at_tup {ds : List D} {k : Nat} {x : D} (h : ds[k]? = some x) : dAt (.tuple ds) (.int k) = some (.z, x) := by
  simp only [dAt, L2.atI_nat h]
  rfl
/-- a loop by an invariant, no way out -/
theorem forL_inv {t : D → Ev → Option Ev} {body : Ev → SO} (I : Nat → Ev → Prop) : ∀ (ds : List D) (j : Nat) (Γ : Ev), I j Γ →
    (∀ i d Γ, ds[i]? = some d → I (j + i) Γ → ∃ Γ1 Γ2, t d Γ = some Γ1 ∧ (body Γ1 = .nx Γ2 ∨ body Γ1 = .ct Γ2) ∧ I (j + i + 1) Γ2) → ∃ Γ', sForL t body ds Γ = .nx Γ' ∧ I (j + ds.length) Γ'
  | [], j, Γ, h, _ => ⟨Γ, rfl, h⟩
  | d :: ds, j, Γ, h, hs => by
    obtain ⟨Γ1, Γ2, h1, h2, h3⟩ := hs 0 d Γ rfl h
    obtain ⟨Γ', e, q⟩ := forL_inv I ds (j + 1) Γ2 h3 fun i d' Γ3 hd hi => by
      have := hs (i + 1) d' Γ3 (by simpa using hd) (by rw [show j + (i + 1) = j + 1 + i by omega]; exact hi)
      rw [show j + (i + 1) = j + 1 + i by omega] at this
      exact this
    refine ⟨Γ', ?_, by rw [List.length_cons, show j + (ds.length + 1) = j + 1 + ds.length by omega]; exact q⟩
    unfold sForL
    rw [h1]
    rcases h2 with h2 | h2 <;> (dsimp only; rw [h2]; exact e)
theorem range_get {lo : Int} {n i : Nat} {d : D} (h : (rangeL lo n)[i]? = some d) : i < n ∧ d = .int (lo + i) := by
  unfold rangeL at h
  rw [List.getElem?_map] at h
  by_cases c : i < n
  · rw [List.getElem?_range c] at h
    exact ⟨c, (Option.some.inj h).symm⟩
  · rw [List.getElem?_eq_none (by simpa using c)] at h
    cases h
theorem range_len {lo : Int} {n : Nat} : (rangeL lo n).length = n := by simp [rangeL]

/-! the list's values -/
theorem at_t0 {a : D} {r : List D} : dAt (.tuple (a :: r)) (.int 0) = some (.z, a) := at_tup (k := 0) rfl
theorem at_t1 {a b : D} {r : List D} : dAt (.tuple (a :: b :: r)) (.int 1) = some (.z, b) := at_tup (k := 1) rfl
theorem at_t2 {a b c : D} {r : List D} : dAt (.tuple (a :: b :: c :: r)) (.int 2) = some (.z, c) := at_tup (k := 2) rfl
theorem at_t3 {a b c d : D} {r : List D} : dAt (.tuple (a :: b :: c :: d :: r)) (.int 3) = some (.z, d) := at_tup (k := 3) rfl
theorem at_l0 {a : D} {r : List D} : dAt (.list (a :: r)) (.int 0) = some (.z, a) := at_list (k := 0) rfl
theorem at_l1 {a b : D} {r : List D} : dAt (.list (a :: b :: r)) (.int 1) = some (.z, b) := at_list (k := 1) rfl
theorem at_l2 {a b c : D} {r : List D} : dAt (.list (a :: b :: c :: r)) (.int 2) = some (.z, c) := at_list (k := 2) rfl
theorem at_l3 {a b c d : D} {r : List D} : dAt (.list (a :: b :: c :: d :: r)) (.int 3) = some (.z, d) := at_list (k := 3) rfl
/-- an item at a place that is known to be inside -/
theorem at_intI {ns : List Int} {i : Int} (h0 : 0 ≤ i) (h1 : i < ns.length) : dAt (L ns) (.int i) = some (.z, .int (ns[i.toNat]'(by omega))) := by
  have := at_int (ns := ns) (k := i.toNat) (x := ns[i.toNat]'(by omega)) (List.getElem?_eq_getElem _)
  rwa [Int.toNat_of_nonneg h0] at this
theorem at_listI {ds : List D} {i : Int} (h0 : 0 ≤ i) (h1 : i < ds.length) : dAt (.list ds) (.int i) = some (.z, ds[i.toNat]'(by omega)) := by
  have := at_list (ds := ds) (k := i.toNat) (x := ds[i.toNat]'(by omega)) (List.getElem?_eq_getElem _)
  rwa [Int.toNat_of_nonneg h0] at this
theorem app_int {ns : List Int} {x : Int} (h : ns.length < 16777216) : mAppend (ns.map .int) [.int x] = some (.none, (ns ++ [x]).map .int) := by
  unfold mAppend
  dsimp only
  rw [if_pos (by rw [List.length_map]; exact h), List.map_append]
  rfl
theorem app_d {ds : List D} {x : D} (h : ds.length < 16777216) : mAppend ds [x] = some (.none, ds ++ [x]) := if_pos h
theorem mul_ok {i j : Int} (h : i.natAbs < 2 ^ 64 ∨ j.natAbs < 2 ^ 64) : dMul (.int i) (.int j) = some (.z, .int (i * j)) := by
  unfold dMul
  exact if_pos (by unfold mulOk; rcases h with h | h <;> simp [h])
theorem div_ok {i j : Int} (h : 0 < j ∧ j < 2 ^ 64) : dDiv (.int i) (.int j) = some (.z, .int (i / j)) := if_pos h
theorem mod_ok {i j : Int} (h : 0 < j) : dMod (.int i) (.int j) = some (.z, .int (i % j)) := if_pos h
theorem eq_int {i j : Int} : dEq (.int i) (.int j) = some (.z, .bool (decide (i = j))) := id rfl
theorem ne_int {i j : Int} : dNe (.int i) (.int j) = some (.z, .bool !(decide (i = j))) := id rfl
theorem ne_str {i j : Str} : dNe (.str i) (.str j) = some (.z, .bool !(decide (i = j))) := id rfl
theorem lt_int {i j : Int} : dLt (.int i) (.int j) = some (.z, .bool (decide (i < j))) := id rfl
theorem gt_int {i j : Int} : dGt (.int i) (.int j) = some (.z, .bool (decide (j < i))) := id rfl
theorem le_int {i j : Int} : dLe (.int i) (.int j) = some (.z, .bool (decide (i ≤ j))) := id rfl
theorem ge_int {i j : Int} : dGe (.int i) (.int j) = some (.z, .bool (decide (j ≤ i))) := id rfl
theorem add_int {i j : Int} : dAdd (.int i) (.int j) = some (.z, .int (i + j)) := id rfl
theorem sub_int {i j : Int} : dSub (.int i) (.int j) = some (.z, .int (i - j)) := id rfl
theorem int_int {i : Int} : dIntV [.int i] = some (.z, .int i) := id rfl
theorem int_bool {b : Bool} : dIntV [.bool b] = some (.z, .int (if b = true then 1 else 0)) := id rfl
theorem len_l {ds : List D} : dLen [.list ds] = some (.z, .int ds.length) := id rfl
theorem len_t {ds : List D} : dLen [.tuple ds] = some (.z, .int ds.length) := id rfl
theorem len_scr {ns : List Int} : dLen [scr ns] = some (.z, .int ns.length) := by show some _ = _; rw [List.length_map]
theorem at_scr {ns : List Int} {k : Nat} {x : Int} (h : ns[k]? = some x) : dAt (scr ns) (.int k) = some (.z, .int x) := at_int h
/-- a comprehension whose item reads only -/
theorem comp_gen {is : List Nat} {t : D → Ev → Option Ev} {c : Ev → Out Bool} {fe : Ev → Out D} {Γ : Ev} (f : D → D) (b : D → Bool) : ∀ ds : List D,
    (∀ d ∈ ds, ∃ Γd, t d Γ = some Γd ∧ c Γd = .ok (b d) Γd ∧ (b d = true → fe Γd = .ok (f d) Γd) ∧ wipeG Γd is = Γ) → compL is t c fe ds Γ = some ((ds.filter b).map f, Γ)
  | [], _ => rfl
  | d :: ds, h => by
    obtain ⟨Γd, h1, h2, h3, h4⟩ := h d (List.mem_cons_self ..)
    have ih := comp_gen f b ds fun d hd => h d (List.mem_cons_of_mem _ hd)
    unfold compL
    rw [h1]
    dsimp only
    rw [h2]
    cases hb : b d with
    | true =>
      dsimp only
      rw [h3 hb]
      dsimp only
      rw [h4, ih, List.filter_cons, if_pos hb]
      rfl
    | false =>
      dsimp only
      rw [h4, ih, List.filter_cons, if_neg (by rw [hb]; exact Bool.false_ne_true)]
theorem comp_ok {is : List Nat} {ff : Ev → Out (List D)} {t : D → Ev → Option Ev} {c : Ev → Out Bool} {fe : Ev → Out D} {Γ Γ1 : Ev} {ds es : List D} (h1 : ff Γ = .ok ds Γ1) (hl : ds.length ≤ 16777216) (h2 : compL is t c fe ds (wipeG Γ1 is) = some (es, wipeG Γ1 is)) (h3 : restG Γ1 (wipeG Γ1 is) is = Γ1) :
    vComp is ff t c fe Γ = .ok (.l .z, .list es) Γ1 := by
  rw [vComp_ap, h1, bind_ok, if_pos hl, h2]
  dsimp only
  rw [h3]
theorem range0_get {n i : Nat} {d : D} (h : (rangeL 0 n)[i]? = some d) : i < n ∧ d = .int i := by
  obtain ⟨a, b⟩ := range_get h
  exact ⟨a, by rw [b, Int.zero_add]⟩
theorem r1_ok {c : Nat} {Γ : Ev} (h : c ≤ 16777216) : (if (c:Int) < 2^62 ∧ -(2^62) ≤ (c:Int) then Out.ok (rangeL 0 (c:Int).toNat) Γ else .st) = .ok (rangeL 0 c) Γ := by
  rw [if_pos (by omega), Int.toNat_natCast]
theorem erase_map {α β : Type} (f : α → β) : ∀ (l : List α) (k : Nat), (l.map f).eraseIdx k = (l.eraseIdx k).map f
  | [], _ => rfl
  | _ :: _, 0 => rfl
  | a :: l, k + 1 => congrArg (f a :: ·) (erase_map f l k)
theorem pop_int {ns : List Int} {k : Nat} {y : Int} (h : ns[k]? = some y) (hb : ns.length ≤ 16777216) : mPop (ns.map .int) [.int k] = some (.int y, (ns.eraseIdx k).map .int) := by
  have hk : k < ns.length := by
    by_cases c : k < ns.length
    · exact c
    · rw [List.getElem?_eq_none (by omega)] at h; cases h
  unfold mPop
  dsimp only
  have hs : seqIndex? (k : Int) (ns.map PyData.int).length = some k := by
    unfold seqIndex?
    rw [List.length_map]
    simp (disch := omega) [hk]
    try omega
  rw [if_pos (by omega), hs]
  have e : (ns.map PyData.int).eraseIdx k = (ns.eraseIdx k).map PyData.int := erase_map ..
  simp only [Option.bind_some, List.getElem?_map, h, Option.map_some, e]
theorem pop0 {x : D} {ds : List D} : mPop (x :: ds) [.int 0] = some (x, ds) := by
  unfold mPop
  dsimp only
  have hs : seqIndex? 0 (x :: ds).length = some 0 := by
    unfold seqIndex?
    simp only [List.length_cons]
    simp
    try omega
  rw [if_pos (by decide), hs]
  rfl
def dInT (neg : Bool) (tab : List (Str × Option D)) (d : D) : Option D := match d with
  | .str x => (tab.lookup x).map fun r => .bool (if neg then !r.isSome else r.isSome)
  | _ => none
def dGtT (tab : List (Str × Option D)) (d : D) : Option D := match d with
  | .str x => (tab.lookup x).bind fun r => r
  | _ => none
theorem inT_f {tab : List (Str × Option D)} {x : Str} : dInT false tab (.str x) = (tab.lookup x).map fun r => .bool r.isSome := id rfl
theorem inT_t {tab : List (Str × Option D)} {x : Str} : dInT true tab (.str x) = (tab.lookup x).map fun r => .bool !r.isSome := id rfl
theorem gtT_s {tab : List (Str × Option D)} {x : Str} : dGtT tab (.str x) = (tab.lookup x).bind fun r => r := id rfl
theorem fIn_ap {neg : Bool} {tab : List (Str × Option D)} {o : Opn} {Γ : Ev} : fIn neg tab o Γ = (o.f Γ).bind fun d Γ1 => .of ((o.l Γ1 d).bind (dInT neg tab)) Γ1 := by
  unfold fIn
  congr 1
theorem fGet_ap {tab : List (Str × Option D)} {o : Opn} {Γ : Ev} : fGet tab o Γ = (o.f Γ).bind fun d Γ1 => .of ((o.l Γ1 d).bind (dGtT tab)) Γ1 := by
  unfold fGet
  congr 1
theorem fGet2_nil {fd fk fx : Ev → Out D} {Γ Γ1 : Ev} (h : fd Γ = .ok (.dict []) Γ1) : fGet2 fd fk fx Γ = (fk Γ1).bind fun k Γ2 => (fx Γ2).bind fun x Γ3 => .of ((dKey k).map fun _ => x) Γ3 := by
  unfold fGet2
  rw [h]
  rfl
theorem key_i {i : Int} : dKey (.int i) = some (.inl i) := id rfl
theorem isS_s {α : Type} {a : α} : (some a).isSome = true := id rfl
theorem isS_n {α : Type} : (none : Option α).isSome = false := id rfl
theorem map_none {α β : Type} {f : α → β} : (none : Option α).map f = none := id rfl
theorem bind_none {α β : Type} {f : α → Option β} : (none : Option α).bind f = none := id rfl
theorem bools_mapP {α : Type} (p : α → Bool) : ∀ ns : List α, dBools (ns.map fun b => .bool (p b)) = some (ns.map p)
  | [] => rfl
  | n :: ns => by
    rw [List.map_cons, dBools, bools_mapP p ns]
    rfl
theorem sum_int {ns : List Int} : dSum [.list (ns.map .int)] = some (.z, .int ns.sum) := by
  unfold dSum
  dsimp only
  rw [ints_map]
  rfl
theorem all_b {α : Type} {p : α → Bool} {ns : List α} : dAll [.list (ns.map fun b => .bool (p b))] = some (.z, .bool ((ns.map p).all id)) := by
  unfold dAll
  dsimp only
  rw [bools_mapP]
  rfl
theorem any_b {α : Type} {p : α → Bool} {ns : List α} : dAny [.list (ns.map fun b => .bool (p b))] = some (.z, .bool ((ns.map p).any id)) := by
  unfold dAny
  dsimp only
  rw [bools_mapP]
  rfl
/-- a comprehension over integers, all of them taken -/
theorem comp_ints {i : Nat} {c : Ev → Out Bool} {fe : Ev → Out D} {Γ : Ev} (f : Int → D) (ns : List Int) (h0 : Γ.set i none = Γ) (hc : ∀ n ∈ ns, c (Γ.set i (some (.z, .int n))) = .ok true (Γ.set i (some (.z, .int n)))) (hf : ∀ n ∈ ns, fe (Γ.set i (some (.z, .int n))) = .ok (f n) (Γ.set i (some (.z, .int n)))) : compL [i] (gN i) c fe (ns.map .int) Γ = some (ns.map f, Γ) := by
  have := comp_gen (is := [i]) (t := gN i) (c := c) (fe := fe) (Γ := Γ) (fun d => match d with | .int n => f n | _ => .none) (fun _ => true) (ns.map .int) (fun d hd => by
    obtain ⟨n, hn, rfl⟩ := List.mem_map.mp hd
    refine ⟨_, rfl, hc n hn, fun _ => hf n hn, ?_⟩
    unfold wipeG
    show (wipeG _ []).set i none = Γ
    unfold wipeG
    rw [List.set_set, h0])
  rw [this, List.filter_eq_self.mpr fun _ _ => rfl, List.map_map]
  rfl
theorem lay_ints : ∀ ns : List Int, PyData.canLayAll0 (ns.map .int) = true
  | [] => by simp only [List.map_nil, PyData.canLayAll0]
  | n :: ns => by simp only [List.map_cons, PyData.canLayAll0, PyData.canLay0, lay_ints ns, Bool.and_self]
theorem depth_ints : ∀ ns : List Int, PyData.depthAll (ns.map .int) = 0
  | [] => by simp only [List.map_nil, PyData.depthAll]
  | n :: ns => by simp only [List.map_cons, PyData.depthAll, PyData.depth, depth_ints ns, Nat.max_self]
theorem eqv_ints : ∀ a b : List Int, PyData.eqvAll (a.map .int) (b.map .int) = decide (a = b)
  | [], [] => by simp [PyData.eqvAll]
  | [], b :: bs => by simp [PyData.eqvAll]
  | a :: as, [] => by simp [PyData.eqvAll]
  | a :: as, b :: bs => by
    simp only [List.map_cons, PyData.eqvAll, PyData.eqv, eqv_ints as bs, List.cons.injEq, Bool.decide_and]
    congr 1
theorem shaped_L (a : List Int) : SeqAt.shaped (L a) = true := by
  unfold SeqAt.shaped L
  simp only [PyData.canLay0, PyData.depth, lay_ints, depth_ints, Bool.true_and]
  decide
theorem eq_L {a b : List Int} : dEq (.list (a.map .int)) (.list (b.map .int)) = some (.z, .bool (decide (a = b))) := by
  show b2 (dEqv _ _) = _
  unfold dEqv
  rw [shaped_L, shaped_L]
  simp only [Bool.and_self, if_true, PyData.eqv, eqv_ints]
  rfl
theorem ne_LL {a b : List Int} : dNe (.list [.list (a.map .int), .list (b.map .int)]) (.list [.list (a.map .int), .list (b.map .int)]) = some (.z, .bool false) := by
  show b2 ((dEqv _ _).map not) = _
  unfold dEqv
  have : SeqAt.shaped (.list [.list (a.map .int), .list (b.map .int)]) = true := by
    unfold SeqAt.shaped
    simp only [PyData.canLay0, PyData.canLayAll0, PyData.depth, PyData.depthAll, lay_ints, depth_ints, Bool.true_and, Bool.and_true]
    decide
  rw [this]
  simp only [Bool.and_self, if_true, PyData.eqv, PyData.eqvAll, eqv_ints, decide_true]
  rfl
theorem isi_int {i : Int} : dIsi "int" (.int i) = some (.bool true) := by
  show some (PyData.bool (isB "int" "int")) = _
  rw [show isB "int" "int" = true by decide]
theorem isi_intb {i : Int} : dIsi "bool" (.int i) = some (.bool false) := by
  show some (PyData.bool (isB "int" "bool")) = _
  rw [show isB "int" "bool" = false by decide]
theorem isi_list {ds : List D} : dIsi "list" (.list ds) = some (.bool true) := by
  show some (PyData.bool (isB "list" "list")) = _
  rw [show isB "list" "list" = true by decide]
def tryC (o : Option Bool) (e : Exc) (Γ : Ev) (r : SO) : SO := match o with
  | some true => (match r with | .ex _ _ => .st | r => r)
  | some false => .ex e Γ
  | none => .st
def tryE (m : Str → Option Bool) (fs : Ev → SO) (r : SO) : SO := match r with
  | .ex e Γ1 => tryC (m e.c) e Γ1 (fs Γ1)
  | r => r
theorem sTry_ap {m : Str → Option Bool} {fb fs : Ev → SO} {Γ : Ev} : sTry m fb fs Γ = tryE m fs (fb Γ) := id rfl
theorem tryE_ex {m : Str → Option Bool} {fs : Ev → SO} {e : Exc} {Γ : Ev} : tryE m fs (.ex e Γ) = tryC (m e.c) e Γ (fs Γ) := id rfl
theorem tryE_nx {m : Str → Option Bool} {fs : Ev → SO} {Γ : Ev} : tryE m fs (.nx Γ) = .nx Γ := id rfl
theorem tryE_rt {m : Str → Option Bool} {fs : Ev → SO} {x : Va} {Γ : Ev} : tryE m fs (.rt x Γ) = .rt x Γ := id rfl
theorem tryC_nx {e : Exc} {Γ Γ1 : Ev} : tryC (some true) e Γ (.nx Γ1) = .nx Γ1 := id rfl
theorem tryC_rt {e : Exc} {Γ Γ1 : Ev} {x : Va} : tryC (some true) e Γ (.rt x Γ1) = .rt x Γ1 := id rfl
theorem tryC_f {e : Exc} {Γ : Ev} {r : SO} : tryC (some false) e Γ r = .ex e Γ := id rfl
theorem eq_str {i j : Str} : dEq (.str i) (.str j) = some (.z, .bool (decide (i = j))) := id rfl
theorem cut_to {α : Type} (ds : List α) (k : Nat) : cut ds none (some (k : Int)) = ds.take k := by
  unfold cut
  rw [HT.sIx_nat, HT.sIx_none, List.drop_zero, Nat.sub_zero]
  by_cases c : k ≤ ds.length
  · rw [Nat.min_eq_left c]
  · rw [Nat.min_eq_right (by omega), List.take_of_length_le (Nat.le_refl _), List.take_of_length_le (by omega)]
theorem cut_from {α : Type} (ds : List α) (k : Nat) : cut ds (some (k : Int)) none = ds.drop k := by
  unfold cut
  rw [HT.sIx_nat, HT.sIx_none, List.take_of_length_le (by rw [List.length_drop]; omega)]
  by_cases c : k ≤ ds.length
  · rw [Nat.min_eq_left c]
  · rw [Nat.min_eq_right (by omega), List.drop_of_length_le (Nat.le_refl _), List.drop_of_length_le (by omega)]
theorem cut_from1 {α : Type} (ds : List α) (k : Nat) : cut ds (some ((k : Int) + 1)) none = ds.drop (k + 1) := cut_from ds (k + 1)
theorem cut_mid {α : Type} (ds : List α) (a b : Nat) (h1 : a ≤ ds.length) (h2 : a + b ≤ ds.length) : cut ds (some (a : Int)) (some ((a : Int) + (b : Int))) = (ds.drop a).take b := by
  unfold cut
  rw [show (a : Int) + (b : Int) = ((a + b : Nat) : Int) by omega, HT.sIx_nat, HT.sIx_nat, Nat.min_eq_left h1, Nat.min_eq_left h2, Nat.add_sub_cancel_left]
theorem cut_l {ds : List D} {lo hi : Option Int} : dCut (.list ds) lo hi = some (.l .z, .list (cut ds lo hi)) := id rfl
theorem cut_t {ds : List D} {lo hi : Option Int} : dCut (.tuple ds) lo hi = some (.z, .tuple (cut ds lo hi)) := id rfl
theorem cat_l {a b : List D} (h : a.length + b.length ≤ 16777216) : dAdd (.list a) (.list b) = some (.l .z, .list (a ++ b)) := if_pos h
end PV
namespace K31
open PySem PV
theorem parts_turn (cell rest s : Int) (sizes ps : List Int) (k : Nat) (mv : Option Va) (h : sizes[k]? = some s) (hs : 0 < s) (hs2 : s < 2 ^ 62) (hp : ps.length < 100) :
    ∃ x rest' mv', lb_law_parts_1 [some (.z, .int cell), some (.z, L sizes), some (.l .z, L ps), some (.z, .int rest), some (.z, .int k), mv] = .nx [some (.z, .int cell), some (.z, L sizes), some (.l .z, L (ps ++ [x % s])), some (.z, .int rest'), some (.z, .int k), mv'] := by
  unfold lb_law_parts_1
  by_cases c : 0 ≤ rest
  · refine ⟨rest, rest / s, mv, ?_⟩
    simp (disch := omega) only [runD_ap, seq_eq, then_nx, then_rt, then_ex, then_ct, then_bk, sB_ok, sB_ex, bind_ok, bind_ex, of_some, gZ_z, gB_s, gBl_l, gBl_z, gF_s, gM_s, fC_ap, fN_ap, fZ_ap, vMv_ap, fV_ap, vF_ap, oF_f, oF_l, oB_f, oB_l, osN_f, osN_l, osC_f, osC_l, o2_ap, fB_ap, fsN_ap, fsC_ap, fLst_ap, fTup_ap, fMt_ap, mtS_l, mtE_l, bB_b, bV_ap, bBo_b, bF_ap, bO_ap, bNot_ap, bAnd_ap, bOr_ap, vIf_ap, vA_b, vO_b, vAnd_ap, vOr_ap, dNot_b, fNot_ap, dNg_i, fNeg_ap, fPN_ap, dPs_i, fPS_ap, vCut_ap, fIsi_ap, rOut_ok, rOut_ex, fCall_ap, fDct0_ap, dIterL_l, dIterL_t, iLT_ap, iR1_ap, iR2_ap, iEn_ap, iZp_ap, vLR1_ap, sNx_ap, sAsg_ap, sRet_ap, sExp_ap, sIf_ap, sFor_ap, oNx_s, sTgt_ap, fzE_s, sFz_ap, sRaise_ap, res_nx, res_rt, res_ex, st0, List.map_cons, List.map_nil, List.length_cons, List.length_nil, List.replicate_succ, List.replicate_zero, List.cons_append, List.nil_append, List.append_nil, List.getElem?_cons_zero, List.getElem?_cons_succ, List.set_cons_zero, List.set_cons_succ, Option.bind_some, Option.map_some, dTru, at_t0, at_t1, at_t2, at_t3, at_l0, at_l1, at_l2, at_l3, eq_int, ne_int, eq_str, ne_str, lt_int, gt_int, le_int, ge_int, add_int, sub_int, int_int, int_bool, len_l, len_t, len_scr, dListOf, dTupOf, decide_eq_true_eq, List.length_map, Nat.reduceAdd, Nat.reduceSub, Nat.reduceLeDiff, Nat.zero_add, if_true, if_false, ↓reduceIte, Bool.false_eq_true, Bool.not_true, Bool.not_false, at_int h, app_int, mod_ok, div_ok, decide_eq_true c]
  · refine ⟨?_, rest, ?_, ?_⟩
    rotate_right 1
    · have m1 : ∀ x : Int, dMul (.int x) (.int 48271) = some (.z, .int (x * 48271)) := fun x => mul_ok (.inr (by decide))
      have m2 : ∀ x : Int, dMul (.int x) (.int 69621) = some (.z, .int (x * 69621)) := fun x => mul_ok (.inr (by decide))
      have m3 : ∀ x : Int, dMul (.int 16807) (.int x) = some (.z, .int (16807 * x)) := fun x => mul_ok (.inl (by decide))
      have m4 : ∀ x : Int, dMul (.int (x % 2147483647)) (.int (x % 2147483647)) = some (.z, .int (x % 2147483647 * (x % 2147483647))) := fun x => mul_ok (.inl (by omega))
      simp (disch := omega) only [runD_ap, seq_eq, then_nx, then_rt, then_ex, then_ct, then_bk, sB_ok, sB_ex, bind_ok, bind_ex, of_some, gZ_z, gB_s, gBl_l, gBl_z, gF_s, gM_s, fC_ap, fN_ap, fZ_ap, vMv_ap, fV_ap, vF_ap, oF_f, oF_l, oB_f, oB_l, osN_f, osN_l, osC_f, osC_l, o2_ap, fB_ap, fsN_ap, fsC_ap, fLst_ap, fTup_ap, fMt_ap, mtS_l, mtE_l, bB_b, bV_ap, bBo_b, bF_ap, bO_ap, bNot_ap, bAnd_ap, bOr_ap, vIf_ap, vA_b, vO_b, vAnd_ap, vOr_ap, dNot_b, fNot_ap, dNg_i, fNeg_ap, fPN_ap, dPs_i, fPS_ap, vCut_ap, fIsi_ap, rOut_ok, rOut_ex, fCall_ap, fDct0_ap, dIterL_l, dIterL_t, iLT_ap, iR1_ap, iR2_ap, iEn_ap, iZp_ap, vLR1_ap, sNx_ap, sAsg_ap, sRet_ap, sExp_ap, sIf_ap, sFor_ap, oNx_s, sTgt_ap, fzE_s, sFz_ap, sRaise_ap, res_nx, res_rt, res_ex, st0, List.map_cons, List.map_nil, List.length_cons, List.length_nil, List.replicate_succ, List.replicate_zero, List.cons_append, List.nil_append, List.append_nil, List.getElem?_cons_zero, List.getElem?_cons_succ, List.set_cons_zero, List.set_cons_succ, Option.bind_some, Option.map_some, dTru, at_t0, at_t1, at_t2, at_t3, at_l0, at_l1, at_l2, at_l3, eq_int, ne_int, eq_str, ne_str, lt_int, gt_int, le_int, ge_int, add_int, sub_int, int_int, int_bool, len_l, len_t, len_scr, dListOf, dTupOf, decide_eq_true_eq, List.length_map, Nat.reduceAdd, Nat.reduceSub, Nat.reduceLeDiff, Nat.zero_add, if_true, if_false, ↓reduceIte, Bool.false_eq_true, Bool.not_true, Bool.not_false, at_int h, app_int, mod_ok, div_ok, decide_eq_false c, m1, m2, m3, m4]
      rfl
theorem parts_ok (cell : Int) (sizes : List Int) (hl : sizes.length ≤ 4) (hs : ∀ s ∈ sizes, 0 < s ∧ s < 2 ^ 62) : ∃ ps : List Int, F_law_parts [.int cell, L sizes] = .ok (.l .z, L ps) ∧ ps.length = sizes.length ∧ ∀ (i : Nat) (p s : Int), ps[i]? = some p → sizes[i]? = some s → 0 ≤ p ∧ p < s := by
  have hh : ∃ Γ', sForL (gN 4) lb_law_parts_1 (rangeL 0 sizes.length) [some (.z, .int cell), some (.z, L sizes), some (.l .z, .list []), some (.z, .int (cell - 10 ^ (18 : Int).toNat)), none, none] = .nx Γ' ∧ ∃ (ps : List Int) (rest : Int) (kv mv : Option Va), Γ' = [some (.z, .int cell), some (.z, L sizes), some (.l .z, L ps), some (.z, .int rest), kv, mv] ∧ ps.length = 0 + (rangeL 0 sizes.length).length ∧ ∀ (i : Nat) (p s : Int), ps[i]? = some p → sizes[i]? = some s → 0 ≤ p ∧ p < s :=
    forL_inv (fun j Γ => ∃ (ps : List Int) (rest : Int) (kv mv : Option Va), Γ = [some (.z, .int cell), some (.z, L sizes), some (.l .z, L ps), some (.z, .int rest), kv, mv] ∧ ps.length = j ∧ ∀ (i : Nat) (p s : Int), ps[i]? = some p → sizes[i]? = some s → 0 ≤ p ∧ p < s) (rangeL 0 sizes.length) 0 _ ⟨[], _, none, none, rfl, rfl, fun i p s h => by cases i <;> cases h⟩ (by
      rintro i d Γ hd ⟨ps, rest, kv, mv, rfl, h1, h2⟩
      obtain ⟨hi, rfl⟩ := range0_get hd
      have hg : sizes[i]? = some sizes[i] := List.getElem?_eq_getElem hi
      have hx := hs _ (List.getElem_mem hi)
      obtain ⟨x, rest', mv', e⟩ := parts_turn cell rest sizes[i] sizes ps i mv hg hx.1 hx.2 (by omega)
      refine ⟨_, _, rfl, .inl e, _, _, _, _, rfl, by simp only [List.length_append, List.length_cons, List.length_nil]; omega, fun j p s hp hz => ?_⟩
      by_cases c : j < ps.length
      · rw [List.getElem?_append_left c] at hp
        exact h2 j p s hp hz
      · rw [List.getElem?_append_right (by omega)] at hp
        have : j = ps.length := by
          by_cases q : j = ps.length
          · exact q
          · rw [List.getElem?_eq_none (by simp only [List.length_cons, List.length_nil]; omega)] at hp; cases hp
        subst this
        rw [Nat.sub_self] at hp
        have := Option.some.inj hp
        subst this
        have : s = sizes[i] := by
          have e : ps.length = i := by omega
          rw [e, hg] at hz
          exact (Option.some.inj hz).symm
        subst this
        exact ⟨Int.emod_nonneg _ (by omega), Int.emod_lt_of_pos _ (by omega)⟩)
  obtain ⟨Γ', e, ps, rest, kv, mv, rfl, h1, h2⟩ := hh
  refine ⟨ps, ?_, by rw [h1, range_len]; omega, h2⟩
  unfold F_law_parts fb_law_parts
  have p10 : dPow (.int 10) (.int 18) = some (.z, .int (10 ^ (18 : Int).toNat)) := by unfold dPow; exact if_pos (by decide)
  simp (disch := omega) only [runD_ap, seq_eq, then_nx, then_rt, then_ex, then_ct, then_bk, sB_ok, sB_ex, bind_ok, bind_ex, of_some, gZ_z, gB_s, gBl_l, gBl_z, gF_s, gM_s, fC_ap, fN_ap, fZ_ap, vMv_ap, fV_ap, vF_ap, oF_f, oF_l, oB_f, oB_l, osN_f, osN_l, osC_f, osC_l, o2_ap, fB_ap, fsN_ap, fsC_ap, fLst_ap, fTup_ap, fMt_ap, mtS_l, mtE_l, bB_b, bV_ap, bBo_b, bF_ap, bO_ap, bNot_ap, bAnd_ap, bOr_ap, vIf_ap, vA_b, vO_b, vAnd_ap, vOr_ap, dNot_b, fNot_ap, dNg_i, fNeg_ap, fPN_ap, dPs_i, fPS_ap, vCut_ap, fIsi_ap, rOut_ok, rOut_ex, fCall_ap, fDct0_ap, dIterL_l, dIterL_t, iLT_ap, iR1_ap, iR2_ap, iEn_ap, iZp_ap, vLR1_ap, sNx_ap, sAsg_ap, sRet_ap, sExp_ap, sIf_ap, sFor_ap, oNx_s, sTgt_ap, fzE_s, sFz_ap, sRaise_ap, res_nx, res_rt, res_ex, st0, List.map_cons, List.map_nil, List.length_cons, List.length_nil, List.replicate_succ, List.replicate_zero, List.cons_append, List.nil_append, List.append_nil, List.getElem?_cons_zero, List.getElem?_cons_succ, List.set_cons_zero, List.set_cons_succ, Option.bind_some, Option.map_some, dTru, at_t0, at_t1, at_t2, at_t3, at_l0, at_l1, at_l2, at_l3, eq_int, ne_int, eq_str, ne_str, lt_int, gt_int, le_int, ge_int, add_int, sub_int, int_int, int_bool, len_l, len_t, len_scr, dListOf, dTupOf, decide_eq_true_eq, List.length_map, Nat.reduceAdd, Nat.reduceSub, Nat.reduceLeDiff, Nat.zero_add, if_true, if_false, ↓reduceIte, Bool.false_eq_true, Bool.not_true, Bool.not_false, if_pos, Int.toNat_natCast, p10, e]
theorem cell_ok (ns : List Int) (k : Int) (h : 0 ≤ k) : ∃ x : Int, F_law_cell [scr ns, .int k] = .ok (.z, .int x) := by
  unfold F_law_cell fb_law_cell
  by_cases c : k < ns.length
  · obtain ⟨n, rfl⟩ := Int.eq_ofNat_of_zero_le h
    have hg : ns[n]? = some (ns[n]'(by omega)) := List.getElem?_eq_getElem _
    refine ⟨ns[n]'(by omega), ?_⟩
    simp (disch := omega) only [runD_ap, seq_eq, then_nx, then_rt, then_ex, then_ct, then_bk, sB_ok, sB_ex, bind_ok, bind_ex, of_some, gZ_z, gB_s, gBl_l, gBl_z, gF_s, gM_s, fC_ap, fN_ap, fZ_ap, vMv_ap, fV_ap, vF_ap, oF_f, oF_l, oB_f, oB_l, osN_f, osN_l, osC_f, osC_l, o2_ap, fB_ap, fsN_ap, fsC_ap, fLst_ap, fTup_ap, fMt_ap, mtS_l, mtE_l, bB_b, bV_ap, bBo_b, bF_ap, bO_ap, bNot_ap, bAnd_ap, bOr_ap, vIf_ap, vA_b, vO_b, vAnd_ap, vOr_ap, dNot_b, fNot_ap, dNg_i, fNeg_ap, fPN_ap, dPs_i, fPS_ap, vCut_ap, fIsi_ap, rOut_ok, rOut_ex, fCall_ap, fDct0_ap, dIterL_l, dIterL_t, iLT_ap, iR1_ap, iR2_ap, iEn_ap, iZp_ap, vLR1_ap, sNx_ap, sAsg_ap, sRet_ap, sExp_ap, sIf_ap, sFor_ap, oNx_s, sTgt_ap, fzE_s, sFz_ap, sRaise_ap, res_nx, res_rt, res_ex, st0, List.map_cons, List.map_nil, List.length_cons, List.length_nil, List.replicate_succ, List.replicate_zero, List.cons_append, List.nil_append, List.append_nil, List.getElem?_cons_zero, List.getElem?_cons_succ, List.set_cons_zero, List.set_cons_succ, Option.bind_some, Option.map_some, dTru, at_t0, at_t1, at_t2, at_t3, at_l0, at_l1, at_l2, at_l3, eq_int, ne_int, eq_str, ne_str, lt_int, gt_int, le_int, ge_int, add_int, sub_int, int_int, int_bool, len_l, len_t, len_scr, dListOf, dTupOf, decide_eq_true_eq, List.length_map, Nat.reduceAdd, Nat.reduceSub, Nat.reduceLeDiff, Nat.zero_add, if_true, if_false, ↓reduceIte, Bool.false_eq_true, Bool.not_true, Bool.not_false, decide_eq_true c, at_scr hg]
  · refine ⟨0, ?_⟩
    simp (disch := omega) only [runD_ap, seq_eq, then_nx, then_rt, then_ex, then_ct, then_bk, sB_ok, sB_ex, bind_ok, bind_ex, of_some, gZ_z, gB_s, gBl_l, gBl_z, gF_s, gM_s, fC_ap, fN_ap, fZ_ap, vMv_ap, fV_ap, vF_ap, oF_f, oF_l, oB_f, oB_l, osN_f, osN_l, osC_f, osC_l, o2_ap, fB_ap, fsN_ap, fsC_ap, fLst_ap, fTup_ap, fMt_ap, mtS_l, mtE_l, bB_b, bV_ap, bBo_b, bF_ap, bO_ap, bNot_ap, bAnd_ap, bOr_ap, vIf_ap, vA_b, vO_b, vAnd_ap, vOr_ap, dNot_b, fNot_ap, dNg_i, fNeg_ap, fPN_ap, dPs_i, fPS_ap, vCut_ap, fIsi_ap, rOut_ok, rOut_ex, fCall_ap, fDct0_ap, dIterL_l, dIterL_t, iLT_ap, iR1_ap, iR2_ap, iEn_ap, iZp_ap, vLR1_ap, sNx_ap, sAsg_ap, sRet_ap, sExp_ap, sIf_ap, sFor_ap, oNx_s, sTgt_ap, fzE_s, sFz_ap, sRaise_ap, res_nx, res_rt, res_ex, st0, List.map_cons, List.map_nil, List.length_cons, List.length_nil, List.replicate_succ, List.replicate_zero, List.cons_append, List.nil_append, List.append_nil, List.getElem?_cons_zero, List.getElem?_cons_succ, List.set_cons_zero, List.set_cons_succ, Option.bind_some, Option.map_some, dTru, at_t0, at_t1, at_t2, at_t3, at_l0, at_l1, at_l2, at_l3, eq_int, ne_int, eq_str, ne_str, lt_int, gt_int, le_int, ge_int, add_int, sub_int, int_int, int_bool, len_l, len_t, len_scr, dListOf, dTupOf, decide_eq_true_eq, List.length_map, Nat.reduceAdd, Nat.reduceSub, Nat.reduceLeDiff, Nat.zero_add, if_true, if_false, ↓reduceIte, Bool.false_eq_true, Bool.not_true, Bool.not_false, decide_eq_false c]
end K31
namespace K31
open PySem PV
theorem q_latch_latch : dEq (.str (S "latch")) (.str (S "latch")) = some (.z, .bool true) := id rfl
theorem qn_latch_latch : dNe (.str (S "latch")) (.str (S "latch")) = some (.z, .bool false) := id rfl
theorem q_latch_not : dEq (.str (S "latch")) (.str (S "not")) = some (.z, .bool false) := id rfl
theorem qn_latch_not : dNe (.str (S "latch")) (.str (S "not")) = some (.z, .bool true) := id rfl
theorem iw_latch : dIn (.str (S "latch")) (.list [.str (S "nand2"), .str (S "nor2"), .str (S "nand3"), .str (S "nor3")]) = some (.z, .bool false) := id rfl
theorem it_latch : dIn (.str (S "latch")) (.list [.str (S "tie0"), .str (S "tie1")]) = some (.z, .bool false) := id rfl
theorem in_latch : dIn (.str (S "latch")) kd_NANDS = some (.z, .bool false) := id rfl
theorem q_tie0_latch : dEq (.str (S "tie0")) (.str (S "latch")) = some (.z, .bool false) := id rfl
theorem qn_tie0_latch : dNe (.str (S "tie0")) (.str (S "latch")) = some (.z, .bool true) := id rfl
theorem q_tie0_not : dEq (.str (S "tie0")) (.str (S "not")) = some (.z, .bool false) := id rfl
theorem qn_tie0_not : dNe (.str (S "tie0")) (.str (S "not")) = some (.z, .bool true) := id rfl
theorem iw_tie0 : dIn (.str (S "tie0")) (.list [.str (S "nand2"), .str (S "nor2"), .str (S "nand3"), .str (S "nor3")]) = some (.z, .bool false) := id rfl
theorem it_tie0 : dIn (.str (S "tie0")) (.list [.str (S "tie0"), .str (S "tie1")]) = some (.z, .bool true) := id rfl
theorem in_tie0 : dIn (.str (S "tie0")) kd_NANDS = some (.z, .bool false) := id rfl
theorem lk_tie0 : tab_CONSTANTS.lookup (S "tie0") = some (some (.int 0)) := id rfl
theorem ct_tie0 : dCut (.str (S "tie0")) none (some 3) = some (.z, .str (S "tie")) := id rfl
theorem la_tie0 : dAt (.str (S "tie0")) (.int (-1)) = some (.z, .str (S "0")) := id rfl
theorem l3_tie0 : dAt (.str (S "tie0")) (.int 3) = some (.z, .str (S "0")) := id rfl
theorem q_tie1_latch : dEq (.str (S "tie1")) (.str (S "latch")) = some (.z, .bool false) := id rfl
theorem qn_tie1_latch : dNe (.str (S "tie1")) (.str (S "latch")) = some (.z, .bool true) := id rfl
theorem q_tie1_not : dEq (.str (S "tie1")) (.str (S "not")) = some (.z, .bool false) := id rfl
theorem qn_tie1_not : dNe (.str (S "tie1")) (.str (S "not")) = some (.z, .bool true) := id rfl
theorem iw_tie1 : dIn (.str (S "tie1")) (.list [.str (S "nand2"), .str (S "nor2"), .str (S "nand3"), .str (S "nor3")]) = some (.z, .bool false) := id rfl
theorem it_tie1 : dIn (.str (S "tie1")) (.list [.str (S "tie0"), .str (S "tie1")]) = some (.z, .bool true) := id rfl
theorem in_tie1 : dIn (.str (S "tie1")) kd_NANDS = some (.z, .bool false) := id rfl
theorem lk_tie1 : tab_CONSTANTS.lookup (S "tie1") = some (some (.int 1)) := id rfl
theorem ct_tie1 : dCut (.str (S "tie1")) none (some 3) = some (.z, .str (S "tie")) := id rfl
theorem la_tie1 : dAt (.str (S "tie1")) (.int (-1)) = some (.z, .str (S "1")) := id rfl
theorem l3_tie1 : dAt (.str (S "tie1")) (.int 3) = some (.z, .str (S "1")) := id rfl
theorem q_not_latch : dEq (.str (S "not")) (.str (S "latch")) = some (.z, .bool false) := id rfl
theorem qn_not_latch : dNe (.str (S "not")) (.str (S "latch")) = some (.z, .bool true) := id rfl
theorem q_not_not : dEq (.str (S "not")) (.str (S "not")) = some (.z, .bool true) := id rfl
theorem qn_not_not : dNe (.str (S "not")) (.str (S "not")) = some (.z, .bool false) := id rfl
theorem iw_not : dIn (.str (S "not")) (.list [.str (S "nand2"), .str (S "nor2"), .str (S "nand3"), .str (S "nor3")]) = some (.z, .bool false) := id rfl
theorem it_not : dIn (.str (S "not")) (.list [.str (S "tie0"), .str (S "tie1")]) = some (.z, .bool false) := id rfl
theorem in_not : dIn (.str (S "not")) kd_NANDS = some (.z, .bool true) := id rfl
theorem lk_not : tab_CONSTANTS.lookup (S "not") = some (none) := id rfl
theorem ct_not : dCut (.str (S "not")) none (some 3) = some (.z, .str (S "not")) := id rfl
theorem q_nand2_latch : dEq (.str (S "nand2")) (.str (S "latch")) = some (.z, .bool false) := id rfl
theorem qn_nand2_latch : dNe (.str (S "nand2")) (.str (S "latch")) = some (.z, .bool true) := id rfl
theorem q_nand2_not : dEq (.str (S "nand2")) (.str (S "not")) = some (.z, .bool false) := id rfl
theorem qn_nand2_not : dNe (.str (S "nand2")) (.str (S "not")) = some (.z, .bool true) := id rfl
theorem iw_nand2 : dIn (.str (S "nand2")) (.list [.str (S "nand2"), .str (S "nor2"), .str (S "nand3"), .str (S "nor3")]) = some (.z, .bool true) := id rfl
theorem it_nand2 : dIn (.str (S "nand2")) (.list [.str (S "tie0"), .str (S "tie1")]) = some (.z, .bool false) := id rfl
theorem in_nand2 : dIn (.str (S "nand2")) kd_NANDS = some (.z, .bool true) := id rfl
theorem lk_nand2 : tab_CONSTANTS.lookup (S "nand2") = some (none) := id rfl
theorem ct_nand2 : dCut (.str (S "nand2")) none (some 3) = some (.z, .str (S "nan")) := id rfl
theorem la_nand2 : dAt (.str (S "nand2")) (.int (-1)) = some (.z, .str (S "2")) := id rfl
theorem q_nand3_latch : dEq (.str (S "nand3")) (.str (S "latch")) = some (.z, .bool false) := id rfl
theorem qn_nand3_latch : dNe (.str (S "nand3")) (.str (S "latch")) = some (.z, .bool true) := id rfl
theorem q_nand3_not : dEq (.str (S "nand3")) (.str (S "not")) = some (.z, .bool false) := id rfl
theorem qn_nand3_not : dNe (.str (S "nand3")) (.str (S "not")) = some (.z, .bool true) := id rfl
theorem iw_nand3 : dIn (.str (S "nand3")) (.list [.str (S "nand2"), .str (S "nor2"), .str (S "nand3"), .str (S "nor3")]) = some (.z, .bool true) := id rfl
theorem it_nand3 : dIn (.str (S "nand3")) (.list [.str (S "tie0"), .str (S "tie1")]) = some (.z, .bool false) := id rfl
theorem in_nand3 : dIn (.str (S "nand3")) kd_NANDS = some (.z, .bool true) := id rfl
theorem lk_nand3 : tab_CONSTANTS.lookup (S "nand3") = some (none) := id rfl
theorem ct_nand3 : dCut (.str (S "nand3")) none (some 3) = some (.z, .str (S "nan")) := id rfl
theorem la_nand3 : dAt (.str (S "nand3")) (.int (-1)) = some (.z, .str (S "3")) := id rfl
theorem q_nor2_latch : dEq (.str (S "nor2")) (.str (S "latch")) = some (.z, .bool false) := id rfl
theorem qn_nor2_latch : dNe (.str (S "nor2")) (.str (S "latch")) = some (.z, .bool true) := id rfl
theorem q_nor2_not : dEq (.str (S "nor2")) (.str (S "not")) = some (.z, .bool false) := id rfl
theorem qn_nor2_not : dNe (.str (S "nor2")) (.str (S "not")) = some (.z, .bool true) := id rfl
theorem iw_nor2 : dIn (.str (S "nor2")) (.list [.str (S "nand2"), .str (S "nor2"), .str (S "nand3"), .str (S "nor3")]) = some (.z, .bool true) := id rfl
theorem it_nor2 : dIn (.str (S "nor2")) (.list [.str (S "tie0"), .str (S "tie1")]) = some (.z, .bool false) := id rfl
theorem in_nor2 : dIn (.str (S "nor2")) kd_NANDS = some (.z, .bool false) := id rfl
theorem lk_nor2 : tab_CONSTANTS.lookup (S "nor2") = some (none) := id rfl
theorem ct_nor2 : dCut (.str (S "nor2")) none (some 3) = some (.z, .str (S "nor")) := id rfl
theorem la_nor2 : dAt (.str (S "nor2")) (.int (-1)) = some (.z, .str (S "2")) := id rfl
theorem q_nor3_latch : dEq (.str (S "nor3")) (.str (S "latch")) = some (.z, .bool false) := id rfl
theorem qn_nor3_latch : dNe (.str (S "nor3")) (.str (S "latch")) = some (.z, .bool true) := id rfl
theorem q_nor3_not : dEq (.str (S "nor3")) (.str (S "not")) = some (.z, .bool false) := id rfl
theorem qn_nor3_not : dNe (.str (S "nor3")) (.str (S "not")) = some (.z, .bool true) := id rfl
theorem iw_nor3 : dIn (.str (S "nor3")) (.list [.str (S "nand2"), .str (S "nor2"), .str (S "nand3"), .str (S "nor3")]) = some (.z, .bool true) := id rfl
theorem it_nor3 : dIn (.str (S "nor3")) (.list [.str (S "tie0"), .str (S "tie1")]) = some (.z, .bool false) := id rfl
theorem in_nor3 : dIn (.str (S "nor3")) kd_NANDS = some (.z, .bool false) := id rfl
theorem lk_nor3 : tab_CONSTANTS.lookup (S "nor3") = some (none) := id rfl
theorem ct_nor3 : dCut (.str (S "nor3")) none (some 3) = some (.z, .str (S "nor")) := id rfl
theorem la_nor3 : dAt (.str (S "nor3")) (.int (-1)) = some (.z, .str (S "3")) := id rfl
theorem p_tie_tie : dEq (.str (S "tie")) (.str (S "tie")) = some (.z, .bool true) := id rfl
theorem p_tie_nor : dEq (.str (S "tie")) (.str (S "nor")) = some (.z, .bool false) := id rfl
theorem p_nan_tie : dEq (.str (S "nan")) (.str (S "tie")) = some (.z, .bool false) := id rfl
theorem p_nan_nor : dEq (.str (S "nan")) (.str (S "nor")) = some (.z, .bool false) := id rfl
theorem p_nor_tie : dEq (.str (S "nor")) (.str (S "tie")) = some (.z, .bool false) := id rfl
theorem p_nor_nor : dEq (.str (S "nor")) (.str (S "nor")) = some (.z, .bool true) := id rfl
theorem p_not_tie : dEq (.str (S "not")) (.str (S "tie")) = some (.z, .bool false) := id rfl
theorem p_not_nor : dEq (.str (S "not")) (.str (S "nor")) = some (.z, .bool false) := id rfl
theorem n_0 : dIntV [(.str (S "0"))] = some (.z, .int 0) := by unfold dIntV; dsimp only; rw [if_pos (by decide +kernel), show PySem.intText? (S "0") = some 0 by decide +kernel]; rfl
theorem n_1 : dIntV [(.str (S "1"))] = some (.z, .int 1) := by unfold dIntV; dsimp only; rw [if_pos (by decide +kernel), show PySem.intText? (S "1") = some 1 by decide +kernel]; rfl
theorem n_2 : dIntV [(.str (S "2"))] = some (.z, .int 2) := by unfold dIntV; dsimp only; rw [if_pos (by decide +kernel), show PySem.intText? (S "2") = some 2 by decide +kernel]; rfl
theorem n_3 : dIntV [(.str (S "3"))] = some (.z, .int 3) := by unfold dIntV; dsimp only; rw [if_pos (by decide +kernel), show PySem.intText? (S "3") = some 3 by decide +kernel]; rfl

theorem range_L (n : Nat) : rangeL 0 n = (((List.range n).map fun k => ((k : Nat) : Int)).map PyData.int) := by
  unfold rangeL
  rw [List.map_map]
  exact List.map_congr_left fun k _ => by simp
theorem drawn_ev (ps ls ls' ds : List Int) (c t : D) (j y x : Int) (k : Int) (hd : ds.length < 100) (e1 : dAt (L ps) (.int (1 + k)) = some (.z, .int x)) (e2 : mPop (ls.map .int) [.int j] = some (.int y, ls'.map .int)) (e3 : dMod (.int x) (.int (ls.length : Int)) = some (.z, .int j)) :
   lb_law_drawn_1 [some (.z, L ps), some (.z, c), some (.z, t), some (.l .z, L ls), some (.l .z, L ds), some (.z, .int k)] = .nx [some (.z, L ps), some (.z, c), some (.z, t), some (.l .z, L ls'), some (.l .z, L (ds ++ [y])), some (.z, .int k)] := by
  unfold lb_law_drawn_1
  simp (disch := omega) only [runD_ap, seq_eq, then_nx, then_rt, then_ex, then_ct, then_bk, sB_ok, sB_ex, bind_ok, bind_ex, of_some, gZ_z, gB_s, gBl_l, gBl_z, gF_s, gM_s, fC_ap, fN_ap, fZ_ap, vMv_ap, fV_ap, vF_ap, oF_f, oF_l, oB_f, oB_l, osN_f, osN_l, osC_f, osC_l, o2_ap, fB_ap, fsN_ap, fsC_ap, fLst_ap, fTup_ap, fMt_ap, mtS_l, mtE_l, bB_b, bV_ap, bBo_b, bF_ap, bO_ap, bNot_ap, bAnd_ap, bOr_ap, vIf_ap, vA_b, vO_b, vAnd_ap, vOr_ap, dNot_b, fNot_ap, dNg_i, fNeg_ap, fPN_ap, dPs_i, fPS_ap, vCut_ap, fIsi_ap, rOut_ok, rOut_ex, fCall_ap, fDct0_ap, dIterL_l, dIterL_t, iLT_ap, iR1_ap, iR2_ap, iEn_ap, iZp_ap, vLR1_ap, sNx_ap, sAsg_ap, sRet_ap, sExp_ap, sIf_ap, sFor_ap, oNx_s, sTgt_ap, fzE_s, sFz_ap, sRaise_ap, res_nx, res_rt, res_ex, st0, List.map_cons, List.map_nil, List.length_cons, List.length_nil, List.replicate_succ, List.replicate_zero, List.cons_append, List.nil_append, List.append_nil, List.getElem?_cons_zero, List.getElem?_cons_succ, List.set_cons_zero, List.set_cons_succ, Option.bind_some, Option.map_some, dTru, at_t0, at_t1, at_t2, at_t3, at_l0, at_l1, at_l2, at_l3, eq_int, ne_int, lt_int, gt_int, le_int, ge_int, add_int, sub_int, int_int, int_bool, len_l, len_t, len_scr, dListOf, dTupOf, decide_eq_true_eq, List.length_map, Nat.reduceAdd, Nat.reduceSub, Nat.reduceLeDiff, Nat.zero_add, if_true, if_false, ↓reduceIte, Bool.false_eq_true, Bool.not_true, Bool.not_false, e1, e2, e3, app_int]
theorem drawn_turn (ps ls ds : List Int) (c t : D) (k : Nat) (x : Int) (hx : ps[1 + k]? = some x) (hl : 0 < ls.length) (hl2 : ls.length ≤ 1000) (hd : ds.length < 100) :
    ∃ y, y ∈ ls ∧ ∃ j, lb_law_drawn_1 [some (.z, L ps), some (.z, c), some (.z, t), some (.l .z, L ls), some (.l .z, L ds), some (.z, .int k)] = .nx [some (.z, L ps), some (.z, c), some (.z, t), some (.l .z, L (ls.eraseIdx j)), some (.l .z, L (ds ++ [y])), some (.z, .int k)] ∧ j < ls.length := by
  have h0 : 0 ≤ x % (ls.length : Int) := Int.emod_nonneg _ (by omega)
  have h1 : x % (ls.length : Int) < ls.length := Int.emod_lt_of_pos _ (by omega)
  obtain ⟨j, hj⟩ := Int.eq_ofNat_of_zero_le h0
  have hjl : j < ls.length := by omega
  have hg : ls[j]? = some ls[j] := List.getElem?_eq_getElem hjl
  refine ⟨ls[j], List.getElem_mem hjl, j, ?_, hjl⟩
  have e1 : dAt (L ps) (.int (1 + (k : Int))) = some (.z, .int x) := by
    have := at_int hx
    rwa [show ((1 + k : Nat) : Int) = 1 + (k : Int) by omega] at this
  have e2 := pop_int hg (by omega)
  have e3 : dMod (.int x) (.int (ls.length : Int)) = some (.z, .int (j : Int)) := by rw [mod_ok (by omega), hj]
  exact drawn_ev _ _ _ _ _ _ _ _ _ _ hd e1 e2 e3
theorem drawn_ok (ps : List Int) (c n : Nat) (h : c ≤ n) (hn : n ≤ 1000) (hp : c < ps.length) (hc : c ≤ 3) : ∃ ds : List Int, F_law_drawn [L ps, .int c, .int n] = .ok (.z, T ds) ∧ ds.length = c ∧ ∀ d ∈ ds, 0 ≤ d ∧ d < n := by
  have hh : ∃ Γ', sForL (gN 5) lb_law_drawn_1 (rangeL 0 c) [some (.z, L ps), some (.z, .int c), some (.z, .int n), some (.l .z, .list (rangeL 0 n)), some (.l .z, .list []), none] = .nx Γ' ∧ ∃ (ls ds : List Int) (kv : Option Va), Γ' = [some (.z, L ps), some (.z, .int c), some (.z, .int n), some (.l .z, L ls), some (.l .z, L ds), kv] ∧ ls.length + (0 + (rangeL 0 c).length) = n ∧ ds.length = 0 + (rangeL 0 c).length ∧ (∀ d ∈ ls, 0 ≤ d ∧ d < n) ∧ ∀ d ∈ ds, 0 ≤ d ∧ d < n :=
    forL_inv (fun j Γ => ∃ (ls ds : List Int) (kv : Option Va), Γ = [some (.z, L ps), some (.z, .int c), some (.z, .int n), some (.l .z, L ls), some (.l .z, L ds), kv] ∧ ls.length + j = n ∧ ds.length = j ∧ (∀ d ∈ ls, 0 ≤ d ∧ d < (n : Int)) ∧ ∀ d ∈ ds, 0 ≤ d ∧ d < (n : Int)) (rangeL 0 c) 0 _ ⟨(List.range n).map fun k => ((k : Nat) : Int), [], none, by rw [range_L]; rfl, by simp, rfl, by
      intro d hd
      obtain ⟨k, hk, rfl⟩ := List.mem_map.mp hd
      have := List.mem_range.mp hk
      omega, fun d hd => nomatch hd⟩ (by
      rintro i d Γ hd ⟨ls, ds, kv, rfl, h1, h2, h3, h4⟩
      obtain ⟨hi, rfl⟩ := range0_get hd
      have hg : ps[1 + i]? = some (ps[1 + i]'(by omega)) := List.getElem?_eq_getElem _
      obtain ⟨y, hy, j, e, hj⟩ := drawn_turn ps ls ds (.int c) (.int n) i _ hg (by omega) (by omega) (by omega)
      refine ⟨_, _, rfl, .inl e, _, _, _, rfl, by rw [List.length_eraseIdx]; simp only [if_pos hj]; omega, by simp only [List.length_append, List.length_cons, List.length_nil]; omega, fun d hd => h3 d (List.mem_of_mem_eraseIdx hd), fun d hd => ?_⟩
      rcases List.mem_append.mp hd with hd | hd
      · exact h4 d hd
      · rw [List.mem_singleton.mp hd]; exact h3 y hy)
  obtain ⟨Γ', e, ls, ds, kv, rfl, h1, h2, h3, h4⟩ := hh
  refine ⟨ds, ?_, by rw [h2, range_len]; omega, h4⟩
  unfold F_law_drawn fb_law_drawn
  simp (disch := omega) only [runD_ap, seq_eq, then_nx, then_rt, then_ex, then_ct, then_bk, sB_ok, sB_ex, bind_ok, bind_ex, of_some, gZ_z, gB_s, gBl_l, gBl_z, gF_s, gM_s, fC_ap, fN_ap, fZ_ap, vMv_ap, fV_ap, vF_ap, oF_f, oF_l, oB_f, oB_l, osN_f, osN_l, osC_f, osC_l, o2_ap, fB_ap, fsN_ap, fsC_ap, fLst_ap, fTup_ap, fMt_ap, mtS_l, mtE_l, bB_b, bV_ap, bBo_b, bF_ap, bO_ap, bNot_ap, bAnd_ap, bOr_ap, vIf_ap, vA_b, vO_b, vAnd_ap, vOr_ap, dNot_b, fNot_ap, dNg_i, fNeg_ap, fPN_ap, dPs_i, fPS_ap, vCut_ap, fIsi_ap, rOut_ok, rOut_ex, fCall_ap, fDct0_ap, dIterL_l, dIterL_t, iLT_ap, iR1_ap, iR2_ap, iEn_ap, iZp_ap, vLR1_ap, sNx_ap, sAsg_ap, sRet_ap, sExp_ap, sIf_ap, sFor_ap, oNx_s, sTgt_ap, fzE_s, sFz_ap, sRaise_ap, res_nx, res_rt, res_ex, st0, List.map_cons, List.map_nil, List.length_cons, List.length_nil, List.replicate_succ, List.replicate_zero, List.cons_append, List.nil_append, List.append_nil, List.getElem?_cons_zero, List.getElem?_cons_succ, List.set_cons_zero, List.set_cons_succ, Option.bind_some, Option.map_some, dTru, at_t0, at_t1, at_t2, at_t3, at_l0, at_l1, at_l2, at_l3, eq_int, ne_int, lt_int, gt_int, le_int, ge_int, add_int, sub_int, int_int, int_bool, len_l, len_t, len_scr, dListOf, dTupOf, decide_eq_true_eq, List.length_map, Nat.reduceAdd, Nat.reduceSub, Nat.reduceLeDiff, Nat.zero_add, if_true, if_false, ↓reduceIte, Bool.false_eq_true, Bool.not_true, Bool.not_false, if_pos, Int.toNat_natCast, e]
abbrev K8 : List Str := [S "latch", S "tie0", S "tie1", S "not", S "nand2", S "nand3", S "nor2", S "nor3"]
def need (k : Str) : Int := if k = S "not" then 1 else if k = S "nand2" ∨ k = S "nor2" then 2 else if k = S "nand3" ∨ k = S "nor3" then 3 else 0
def kinds16 : List D := ([S "not", S "not", S "nand2", S "nand2", S "nand2", S "nand3", S "nand3", S "nor2", S "nor2", S "nor2", S "nor3", S "nor3", S "latch", S "latch", S "tie0", S "tie1"] : List Str).map .str
theorem pick (p : Int) (h0 : 0 ≤ p) (h1 : p < 16) : ∃ kd ∈ K8, dAt (.list kinds16) (.int p) = some (.z, .str kd) := by
  obtain ⟨n, rfl⟩ := Int.eq_ofNat_of_zero_le h0
  have : n = 0 ∨ n = 1 ∨ n = 2 ∨ n = 3 ∨ n = 4 ∨ n = 5 ∨ n = 6 ∨ n = 7 ∨ n = 8 ∨ n = 9 ∨ n = 10 ∨ n = 11 ∨ n = 12 ∨ n = 13 ∨ n = 14 ∨ n = 15 := by omega
  rcases this with rfl | rfl | rfl | rfl | rfl | rfl | rfl | rfl | rfl | rfl | rfl | rfl | rfl | rfl | rfl | rfl <;> exact ⟨_, by decide +kernel, at_list rfl⟩
def kA : List D := ([S "not", S "not", S "nand2", S "nand2", S "nand2", S "nand3", S "nand3", S "nor2", S "nor2", S "nor2", S "nor3", S "nor3"] : List Str).map .str
def kB : List D := ([S "latch", S "latch", S "tie0", S "tie1"] : List Str).map .str
theorem kAB : dAdd (.list [.str (S "not"), .str (S "not"), .str (S "nand2"), .str (S "nand2"), .str (S "nand2"), .str (S "nand3"), .str (S "nand3"), .str (S "nor2"), .str (S "nor2"), .str (S "nor2"), .str (S "nor3"), .str (S "nor3")]) (.list [.str (S "latch"), .str (S "latch"), .str (S "tie0"), .str (S "tie1")]) = some (.l .z, .list kinds16) := rfl
theorem kind_ev (ps : List Int) (kd : Str) (p0 p1 : Int) (nets lat : Int) (e0 : dAt (.list kinds16) (.int p0) = some (.z, .str kd)) (a0 : dAt (L ps) (.int 0) = some (.z, .int p0)) (a1 : dAt (L ps) (.int 1) = some (.z, .int p1)) (hk : kd ∈ K8) (hl : 0 ≤ lat ∧ lat ≤ 4) (hn : 0 ≤ nets) :
    ∃ kd ∈ K8, F_law_kind [L ps, .int nets, .int lat] = .ok (.z, .str kd) ∧ (kd = S "latch" → lat < 4) ∧ need kd ≤ nets := by
  have m01 : p1 % 2 = 0 ∨ p1 % 2 = 1 := by omega
  have hlat : lat = 4 ∨ ¬ lat = 4 := by omega
  have hnets : (nets = 0 ∨ nets = 1) ∨ nets = 2 ∨ 3 ≤ nets := by omega
  have n0 : need (S "latch") = 0 := by decide +kernel
  have n1 : need (S "tie0") = 0 := by decide +kernel
  have n2 : need (S "tie1") = 0 := by decide +kernel
  have n3 : need (S "not") = 1 := by decide +kernel
  have n4 : need (S "nand2") = 2 := by decide +kernel
  have n5 : need (S "nand3") = 3 := by decide +kernel
  have n6 : need (S "nor2") = 2 := by decide +kernel
  have n7 : need (S "nor3") = 3 := by decide +kernel
  simp only [K8, List.mem_cons, List.not_mem_nil, or_false] at hk
  unfold F_law_kind fb_law_kind
  rcases hk with rfl | rfl | rfl | rfl | rfl | rfl | rfl | rfl
  · rcases hlat with c | c <;> rcases hnets with (q | q) | q | q <;> rcases m01 with m | m <;>
      simp (disch := omega) only [runD_ap, seq_eq, then_nx, then_rt, then_ex, then_ct, then_bk, sB_ok, sB_ex, bind_ok, bind_ex, of_some, gZ_z, gB_s, gBl_l, gBl_z, gF_s, gM_s, fC_ap, fN_ap, fZ_ap, vMv_ap, fV_ap, vF_ap, oF_f, oF_l, oB_f, oB_l, osN_f, osN_l, osC_f, osC_l, o2_ap, fB_ap, fsN_ap, fsC_ap, fLst_ap, fTup_ap, fMt_ap, mtS_l, mtE_l, bB_b, bV_ap, bBo_b, bF_ap, bO_ap, bNot_ap, bAnd_ap, bOr_ap, vIf_ap, vA_b, vO_b, vAnd_ap, vOr_ap, dNot_b, fNot_ap, dNg_i, fNeg_ap, fPN_ap, dPs_i, fPS_ap, vCut_ap, fIsi_ap, rOut_ok, rOut_ex, fCall_ap, fDct0_ap, dIterL_l, dIterL_t, iLT_ap, iR1_ap, iR2_ap, iEn_ap, iZp_ap, vLR1_ap, sNx_ap, sAsg_ap, sRet_ap, sExp_ap, sIf_ap, sFor_ap, oNx_s, sTgt_ap, fzE_s, sFz_ap, sRaise_ap, res_nx, res_rt, res_ex, st0, List.map_cons, List.map_nil, List.length_cons, List.length_nil, List.replicate_succ, List.replicate_zero, List.cons_append, List.nil_append, List.append_nil, List.getElem?_cons_zero, List.getElem?_cons_succ, List.set_cons_zero, List.set_cons_succ, Option.bind_some, Option.map_some, dTru, at_t0, at_t1, at_t2, at_t3, at_l0, at_l1, at_l2, at_l3, eq_int, ne_int, lt_int, gt_int, le_int, ge_int, add_int, sub_int, int_int, int_bool, len_l, len_t, len_scr, dListOf, dTupOf, decide_eq_true_eq, List.length_map, Nat.reduceAdd, Nat.reduceSub, Nat.reduceLeDiff, Nat.zero_add, if_true, if_false, ↓reduceIte, Bool.false_eq_true, Bool.not_true, Bool.not_false, if_pos, kAB, e0, a0, a1, q_latch_latch, qn_latch_latch, q_latch_not, qn_latch_not, iw_latch, it_latch, in_latch, q_tie0_latch, qn_tie0_latch, q_tie0_not, qn_tie0_not, iw_tie0, it_tie0, in_tie0, lk_tie0, ct_tie0, la_tie0, l3_tie0, q_tie1_latch, qn_tie1_latch, q_tie1_not, qn_tie1_not, iw_tie1, it_tie1, in_tie1, lk_tie1, ct_tie1, la_tie1, l3_tie1, q_not_latch, qn_not_latch, q_not_not, qn_not_not, iw_not, it_not, in_not, lk_not, ct_not, q_nand2_latch, qn_nand2_latch, q_nand2_not, qn_nand2_not, iw_nand2, it_nand2, in_nand2, lk_nand2, ct_nand2, la_nand2, q_nand3_latch, qn_nand3_latch, q_nand3_not, qn_nand3_not, iw_nand3, it_nand3, in_nand3, lk_nand3, ct_nand3, la_nand3, q_nor2_latch, qn_nor2_latch, q_nor2_not, qn_nor2_not, iw_nor2, it_nor2, in_nor2, lk_nor2, ct_nor2, la_nor2, q_nor3_latch, qn_nor3_latch, q_nor3_not, qn_nor3_not, iw_nor3, it_nor3, in_nor3, lk_nor3, ct_nor3, la_nor3, p_tie_tie, p_tie_nor, p_nan_tie, p_nan_nor, p_nor_tie, p_nor_nor, p_not_tie, p_not_nor, n_0, n_1, n_2, n_3, mod_ok, m, c, q, decide_true, decide_false, decide_eq_true, decide_eq_false, Int.reduceLT, Int.reduceSub, reduceCtorEq, Int.reduceEq] <;>
      exact ⟨_, by decide +kernel, rfl, by first | (intro _; omega) | exact fun h => absurd h (by decide +kernel), by first | (simp only [n0, n1, n2, n3, n4, n5, n6, n7]; done) | (simp only [n0, n1, n2, n3, n4, n5, n6, n7]; omega)⟩
  all_goals
    rcases hnets with (q | q) | q | q <;> rcases m01 with m | m <;>
      simp (disch := omega) only [runD_ap, seq_eq, then_nx, then_rt, then_ex, then_ct, then_bk, sB_ok, sB_ex, bind_ok, bind_ex, of_some, gZ_z, gB_s, gBl_l, gBl_z, gF_s, gM_s, fC_ap, fN_ap, fZ_ap, vMv_ap, fV_ap, vF_ap, oF_f, oF_l, oB_f, oB_l, osN_f, osN_l, osC_f, osC_l, o2_ap, fB_ap, fsN_ap, fsC_ap, fLst_ap, fTup_ap, fMt_ap, mtS_l, mtE_l, bB_b, bV_ap, bBo_b, bF_ap, bO_ap, bNot_ap, bAnd_ap, bOr_ap, vIf_ap, vA_b, vO_b, vAnd_ap, vOr_ap, dNot_b, fNot_ap, dNg_i, fNeg_ap, fPN_ap, dPs_i, fPS_ap, vCut_ap, fIsi_ap, rOut_ok, rOut_ex, fCall_ap, fDct0_ap, dIterL_l, dIterL_t, iLT_ap, iR1_ap, iR2_ap, iEn_ap, iZp_ap, vLR1_ap, sNx_ap, sAsg_ap, sRet_ap, sExp_ap, sIf_ap, sFor_ap, oNx_s, sTgt_ap, fzE_s, sFz_ap, sRaise_ap, res_nx, res_rt, res_ex, st0, List.map_cons, List.map_nil, List.length_cons, List.length_nil, List.replicate_succ, List.replicate_zero, List.cons_append, List.nil_append, List.append_nil, List.getElem?_cons_zero, List.getElem?_cons_succ, List.set_cons_zero, List.set_cons_succ, Option.bind_some, Option.map_some, dTru, at_t0, at_t1, at_t2, at_t3, at_l0, at_l1, at_l2, at_l3, eq_int, ne_int, lt_int, gt_int, le_int, ge_int, add_int, sub_int, int_int, int_bool, len_l, len_t, len_scr, dListOf, dTupOf, decide_eq_true_eq, List.length_map, Nat.reduceAdd, Nat.reduceSub, Nat.reduceLeDiff, Nat.zero_add, if_true, if_false, ↓reduceIte, Bool.false_eq_true, Bool.not_true, Bool.not_false, if_pos, kAB, e0, a0, a1, q_latch_latch, qn_latch_latch, q_latch_not, qn_latch_not, iw_latch, it_latch, in_latch, q_tie0_latch, qn_tie0_latch, q_tie0_not, qn_tie0_not, iw_tie0, it_tie0, in_tie0, lk_tie0, ct_tie0, la_tie0, l3_tie0, q_tie1_latch, qn_tie1_latch, q_tie1_not, qn_tie1_not, iw_tie1, it_tie1, in_tie1, lk_tie1, ct_tie1, la_tie1, l3_tie1, q_not_latch, qn_not_latch, q_not_not, qn_not_not, iw_not, it_not, in_not, lk_not, ct_not, q_nand2_latch, qn_nand2_latch, q_nand2_not, qn_nand2_not, iw_nand2, it_nand2, in_nand2, lk_nand2, ct_nand2, la_nand2, q_nand3_latch, qn_nand3_latch, q_nand3_not, qn_nand3_not, iw_nand3, it_nand3, in_nand3, lk_nand3, ct_nand3, la_nand3, q_nor2_latch, qn_nor2_latch, q_nor2_not, qn_nor2_not, iw_nor2, it_nor2, in_nor2, lk_nor2, ct_nor2, la_nor2, q_nor3_latch, qn_nor3_latch, q_nor3_not, qn_nor3_not, iw_nor3, it_nor3, in_nor3, lk_nor3, ct_nor3, la_nor3, p_tie_tie, p_tie_nor, p_nan_tie, p_nan_nor, p_nor_tie, p_nor_nor, p_not_tie, p_not_nor, n_0, n_1, n_2, n_3, mod_ok, m, q, decide_true, decide_false, decide_eq_true, decide_eq_false, Int.reduceLT, Int.reduceSub, reduceCtorEq, Int.reduceEq] <;>
      exact ⟨_, by decide +kernel, rfl, by first | (intro _; omega) | exact fun h => absurd h (by decide +kernel), by first | (simp only [n0, n1, n2, n3, n4, n5, n6, n7]; done) | (simp only [n0, n1, n2, n3, n4, n5, n6, n7]; omega)⟩
end K31
namespace K31
open PySem PV
theorem bYes_ok {Γ : Ev} : bYes Γ = .ok true Γ := id rfl
def gate (k : Str) (bs : List Int) : Int := if k = S "tie0" then 0 else if k = S "tie1" then 1 else if k = S "not" ∨ k = S "nand2" ∨ k = S "nand3" then (if (!((bs.map fun b => decide (b = 1)).all id)) = true then 1 else 0) else (if (!((bs.map fun b => decide (b = 1)).any id)) = true then 1 else 0)
theorem cv_comp (k : D) (bs : List Int) (h : bs.length ≤ 1000) (e : Ev → Out D) (he : ∀ n : Int, e [some (.z, k), some (.z, L bs), some (.z, .int n)] = .ok (.bool (decide (n = 1))) [some (.z, k), some (.z, L bs), some (.z, .int n)]) : vComp [2] (iLT (fN 1)) (gN 2) bYes e [some (.z, k), some (.z, L bs), none] = .ok (.l .z, .list (bs.map fun b => .bool (decide (b = 1)))) [some (.z, k), some (.z, L bs), none] := by
  refine comp_ok (ds := bs.map .int) ?_ (by rw [List.length_map]; omega) ?_ rfl
  · simp only [runD_ap, seq_eq, then_nx, then_rt, then_ex, then_ct, then_bk, sB_ok, sB_ex, bind_ok, bind_ex, of_some, gZ_z, gB_s, gBl_l, gBl_z, gF_s, gM_s, fC_ap, fN_ap, fZ_ap, vMv_ap, fV_ap, vF_ap, oF_f, oF_l, oB_f, oB_l, osN_f, osN_l, osC_f, osC_l, o2_ap, fB_ap, fsN_ap, fsC_ap, fLst_ap, fTup_ap, fMt_ap, mtS_l, mtE_l, bB_b, bV_ap, bBo_b, bF_ap, bO_ap, bNot_ap, bAnd_ap, bOr_ap, vIf_ap, vA_b, vO_b, vAnd_ap, vOr_ap, dNot_b, fNot_ap, dNg_i, fNeg_ap, fPN_ap, dPs_i, fPS_ap, vCut_ap, fIsi_ap, rOut_ok, rOut_ex, fCall_ap, fDct0_ap, dIterL_l, dIterL_t, iLT_ap, iR1_ap, iR2_ap, iEn_ap, iZp_ap, vLR1_ap, sNx_ap, sAsg_ap, sRet_ap, sExp_ap, sIf_ap, sFor_ap, oNx_s, sTgt_ap, fzE_s, sFz_ap, sRaise_ap, res_nx, res_rt, res_ex, st0, List.map_cons, List.map_nil, List.length_cons, List.length_nil, List.replicate_succ, List.replicate_zero, List.cons_append, List.nil_append, List.append_nil, List.getElem?_cons_zero, List.getElem?_cons_succ, List.set_cons_zero, List.set_cons_succ, Option.bind_some, Option.map_some, dTru, at_t0, at_t1, at_t2, at_t3, at_l0, at_l1, at_l2, at_l3, eq_int, ne_int, lt_int, gt_int, le_int, ge_int, add_int, sub_int, int_int, int_bool, len_l, len_t, len_scr, dListOf, dTupOf, decide_eq_true_eq, List.length_map, Nat.reduceAdd, Nat.reduceSub, Nat.reduceLeDiff, Nat.zero_add, if_true, if_false, ↓reduceIte, Bool.false_eq_true, Bool.not_true, Bool.not_false, fIn_ap, fGet_ap, inT_f, inT_t, gtT_s, key_i, isS_s, isS_n, map_none, sum_int, all_b, any_b]
  · exact comp_ints _ bs rfl (fun _ _ => rfl) fun n _ => he n
theorem cv1 (k : D) (bs : List Int) (n : Int) : ce_cell_value_1 [some (.z, k), some (.z, L bs), some (.z, .int n)] = .ok (.bool (decide (n = 1))) [some (.z, k), some (.z, L bs), some (.z, .int n)] := by
  unfold ce_cell_value_1
  simp only [runD_ap, seq_eq, then_nx, then_rt, then_ex, then_ct, then_bk, sB_ok, sB_ex, bind_ok, bind_ex, of_some, gZ_z, gB_s, gBl_l, gBl_z, gF_s, gM_s, fC_ap, fN_ap, fZ_ap, vMv_ap, fV_ap, vF_ap, oF_f, oF_l, oB_f, oB_l, osN_f, osN_l, osC_f, osC_l, o2_ap, fB_ap, fsN_ap, fsC_ap, fLst_ap, fTup_ap, fMt_ap, mtS_l, mtE_l, bB_b, bV_ap, bBo_b, bF_ap, bO_ap, bNot_ap, bAnd_ap, bOr_ap, vIf_ap, vA_b, vO_b, vAnd_ap, vOr_ap, dNot_b, fNot_ap, dNg_i, fNeg_ap, fPN_ap, dPs_i, fPS_ap, vCut_ap, fIsi_ap, rOut_ok, rOut_ex, fCall_ap, fDct0_ap, dIterL_l, dIterL_t, iLT_ap, iR1_ap, iR2_ap, iEn_ap, iZp_ap, vLR1_ap, sNx_ap, sAsg_ap, sRet_ap, sExp_ap, sIf_ap, sFor_ap, oNx_s, sTgt_ap, fzE_s, sFz_ap, sRaise_ap, res_nx, res_rt, res_ex, st0, List.map_cons, List.map_nil, List.length_cons, List.length_nil, List.replicate_succ, List.replicate_zero, List.cons_append, List.nil_append, List.append_nil, List.getElem?_cons_zero, List.getElem?_cons_succ, List.set_cons_zero, List.set_cons_succ, Option.bind_some, Option.map_some, dTru, at_t0, at_t1, at_t2, at_t3, at_l0, at_l1, at_l2, at_l3, eq_int, ne_int, lt_int, gt_int, le_int, ge_int, add_int, sub_int, int_int, int_bool, len_l, len_t, len_scr, dListOf, dTupOf, decide_eq_true_eq, List.length_map, Nat.reduceAdd, Nat.reduceSub, Nat.reduceLeDiff, Nat.zero_add, if_true, if_false, ↓reduceIte, Bool.false_eq_true, Bool.not_true, Bool.not_false, fIn_ap, fGet_ap, inT_f, inT_t, gtT_s, key_i, isS_s, isS_n, map_none, sum_int, all_b, any_b]
theorem cv2 (k : D) (bs : List Int) (n : Int) : ce_cell_value_2 [some (.z, k), some (.z, L bs), some (.z, .int n)] = .ok (.bool (decide (n = 1))) [some (.z, k), some (.z, L bs), some (.z, .int n)] := by
  unfold ce_cell_value_2
  simp only [runD_ap, seq_eq, then_nx, then_rt, then_ex, then_ct, then_bk, sB_ok, sB_ex, bind_ok, bind_ex, of_some, gZ_z, gB_s, gBl_l, gBl_z, gF_s, gM_s, fC_ap, fN_ap, fZ_ap, vMv_ap, fV_ap, vF_ap, oF_f, oF_l, oB_f, oB_l, osN_f, osN_l, osC_f, osC_l, o2_ap, fB_ap, fsN_ap, fsC_ap, fLst_ap, fTup_ap, fMt_ap, mtS_l, mtE_l, bB_b, bV_ap, bBo_b, bF_ap, bO_ap, bNot_ap, bAnd_ap, bOr_ap, vIf_ap, vA_b, vO_b, vAnd_ap, vOr_ap, dNot_b, fNot_ap, dNg_i, fNeg_ap, fPN_ap, dPs_i, fPS_ap, vCut_ap, fIsi_ap, rOut_ok, rOut_ex, fCall_ap, fDct0_ap, dIterL_l, dIterL_t, iLT_ap, iR1_ap, iR2_ap, iEn_ap, iZp_ap, vLR1_ap, sNx_ap, sAsg_ap, sRet_ap, sExp_ap, sIf_ap, sFor_ap, oNx_s, sTgt_ap, fzE_s, sFz_ap, sRaise_ap, res_nx, res_rt, res_ex, st0, List.map_cons, List.map_nil, List.length_cons, List.length_nil, List.replicate_succ, List.replicate_zero, List.cons_append, List.nil_append, List.append_nil, List.getElem?_cons_zero, List.getElem?_cons_succ, List.set_cons_zero, List.set_cons_succ, Option.bind_some, Option.map_some, dTru, at_t0, at_t1, at_t2, at_t3, at_l0, at_l1, at_l2, at_l3, eq_int, ne_int, lt_int, gt_int, le_int, ge_int, add_int, sub_int, int_int, int_bool, len_l, len_t, len_scr, dListOf, dTupOf, decide_eq_true_eq, List.length_map, Nat.reduceAdd, Nat.reduceSub, Nat.reduceLeDiff, Nat.zero_add, if_true, if_false, ↓reduceIte, Bool.false_eq_true, Bool.not_true, Bool.not_false, fIn_ap, fGet_ap, inT_f, inT_t, gtT_s, key_i, isS_s, isS_n, map_none, sum_int, all_b, any_b]
theorem cell_value_ok (k : Str) (hk : k ∈ K8) (hn : k ≠ S "latch") (bs : List Int) (h : bs.length ≤ 1000) : F_cell_value [.str k, L bs] = .ok (.z, .int (gate k bs)) := by
  have c1 := fun k => cv_comp k bs h _ fun n => cv1 k bs n
  have c2 := fun k => cv_comp k bs h _ fun n => cv2 k bs n
  simp only [K8, List.mem_cons, List.not_mem_nil, or_false] at hk
  unfold F_cell_value fb_cell_value
  rcases hk with rfl | rfl | rfl | rfl | rfl | rfl | rfl | rfl
  · exact absurd rfl hn
  all_goals
    simp only [runD_ap, seq_eq, then_nx, then_rt, then_ex, then_ct, then_bk, sB_ok, sB_ex, bind_ok, bind_ex, of_some, gZ_z, gB_s, gBl_l, gBl_z, gF_s, gM_s, fC_ap, fN_ap, fZ_ap, vMv_ap, fV_ap, vF_ap, oF_f, oF_l, oB_f, oB_l, osN_f, osN_l, osC_f, osC_l, o2_ap, fB_ap, fsN_ap, fsC_ap, fLst_ap, fTup_ap, fMt_ap, mtS_l, mtE_l, bB_b, bV_ap, bBo_b, bF_ap, bO_ap, bNot_ap, bAnd_ap, bOr_ap, vIf_ap, vA_b, vO_b, vAnd_ap, vOr_ap, dNot_b, fNot_ap, dNg_i, fNeg_ap, fPN_ap, dPs_i, fPS_ap, vCut_ap, fIsi_ap, rOut_ok, rOut_ex, fCall_ap, fDct0_ap, dIterL_l, dIterL_t, iLT_ap, iR1_ap, iR2_ap, iEn_ap, iZp_ap, vLR1_ap, sNx_ap, sAsg_ap, sRet_ap, sExp_ap, sIf_ap, sFor_ap, oNx_s, sTgt_ap, fzE_s, sFz_ap, sRaise_ap, res_nx, res_rt, res_ex, st0, List.map_cons, List.map_nil, List.length_cons, List.length_nil, List.replicate_succ, List.replicate_zero, List.cons_append, List.nil_append, List.append_nil, List.getElem?_cons_zero, List.getElem?_cons_succ, List.set_cons_zero, List.set_cons_succ, Option.bind_some, Option.map_some, dTru, at_t0, at_t1, at_t2, at_t3, at_l0, at_l1, at_l2, at_l3, eq_int, ne_int, lt_int, gt_int, le_int, ge_int, add_int, sub_int, int_int, int_bool, len_l, len_t, len_scr, dListOf, dTupOf, decide_eq_true_eq, List.length_map, Nat.reduceAdd, Nat.reduceSub, Nat.reduceLeDiff, Nat.zero_add, if_true, if_false, ↓reduceIte, Bool.false_eq_true, Bool.not_true, Bool.not_false, fIn_ap, fGet_ap, inT_f, inT_t, gtT_s, key_i, isS_s, isS_n, map_none, sum_int, all_b, any_b, c1, c2, q_latch_latch, qn_latch_latch, q_latch_not, qn_latch_not, iw_latch, it_latch, in_latch, q_tie0_latch, qn_tie0_latch, q_tie0_not, qn_tie0_not, iw_tie0, it_tie0, in_tie0, lk_tie0, ct_tie0, la_tie0, l3_tie0, q_tie1_latch, qn_tie1_latch, q_tie1_not, qn_tie1_not, iw_tie1, it_tie1, in_tie1, lk_tie1, ct_tie1, la_tie1, l3_tie1, q_not_latch, qn_not_latch, q_not_not, qn_not_not, iw_not, it_not, in_not, lk_not, ct_not, q_nand2_latch, qn_nand2_latch, q_nand2_not, qn_nand2_not, iw_nand2, it_nand2, in_nand2, lk_nand2, ct_nand2, la_nand2, q_nand3_latch, qn_nand3_latch, q_nand3_not, qn_nand3_not, iw_nand3, it_nand3, in_nand3, lk_nand3, ct_nand3, la_nand3, q_nor2_latch, qn_nor2_latch, q_nor2_not, qn_nor2_not, iw_nor2, it_nor2, in_nor2, lk_nor2, ct_nor2, la_nor2, q_nor3_latch, qn_nor3_latch, q_nor3_not, qn_nor3_not, iw_nor3, it_nor3, in_nor3, lk_nor3, ct_nor3, la_nor3, p_tie_tie, p_tie_nor, p_nan_tie, p_nan_nor, p_nor_tie, p_nor_nor, p_not_tie, p_not_nor, n_0, n_1, n_2, n_3]
    rfl
theorem sum_lt (bs : List Int) (h : ∀ b ∈ bs, b = 0 ∨ b = 1) : (bs.sum < bs.length ↔ ((bs.map fun b => decide (b = 1)).all id) = false) ∧ (bs.sum = 0 ↔ ((bs.map fun b => decide (b = 1)).any id) = false) ∧ 0 ≤ bs.sum ∧ bs.sum ≤ bs.length := by
  induction bs with
  | nil => exact ⟨by decide, by decide, by decide, by decide⟩
  | cons b bs ih =>
    obtain ⟨i1, i2, i3, i4⟩ := ih fun c hc => h c (List.mem_cons_of_mem _ hc)
    rw [List.sum_cons, List.map_cons, List.all_cons, List.any_cons, List.length_cons]
    rcases h b (List.mem_cons_self ..) with rfl | rfl
    · simp only [show decide ((0 : Int) = 1) = false from rfl, id, Bool.false_and, Bool.false_or, iff_true]
      refine ⟨by omega, ?_, by omega, by omega⟩
      rw [show (0 : Int) + bs.sum = bs.sum by omega]; exact i2
    · simp only [decide_true, id, Bool.true_and, Bool.true_or]
      refine ⟨?_, ⟨fun q => by omega, fun q => nomatch q⟩, by omega, by omega⟩
      rw [← i1]; omega
theorem law_value_ok (k : Str) (hk : k ∈ K8) (hn : k ≠ S "latch") (bs : List Int) (h : ∀ b ∈ bs, b = 0 ∨ b = 1) : F_law_value [.str k, L bs] = .ok (.z, .int (gate k bs)) := by
  obtain ⟨s1, s2, -, -⟩ := sum_lt bs h
  have t1 : decide (bs.sum < (bs.length : Int)) = !((bs.map fun b => decide (b = 1)).all id) := by
    cases q : (bs.map fun b => decide (b = 1)).all id
    · exact decide_eq_true (s1.mpr q)
    · exact decide_eq_false fun z => by rw [s1.mp z] at q; cases q
  have t2 : decide (bs.sum = 0) = !((bs.map fun b => decide (b = 1)).any id) := by
    cases q : (bs.map fun b => decide (b = 1)).any id
    · exact decide_eq_true (s2.mpr q)
    · exact decide_eq_false fun z => by rw [s2.mp z] at q; cases q
  simp only [K8, List.mem_cons, List.not_mem_nil, or_false] at hk
  unfold F_law_value fb_law_value
  rcases hk with rfl | rfl | rfl | rfl | rfl | rfl | rfl | rfl
  · exact absurd rfl hn
  all_goals
    simp only [runD_ap, seq_eq, then_nx, then_rt, then_ex, then_ct, then_bk, sB_ok, sB_ex, bind_ok, bind_ex, of_some, gZ_z, gB_s, gBl_l, gBl_z, gF_s, gM_s, fC_ap, fN_ap, fZ_ap, vMv_ap, fV_ap, vF_ap, oF_f, oF_l, oB_f, oB_l, osN_f, osN_l, osC_f, osC_l, o2_ap, fB_ap, fsN_ap, fsC_ap, fLst_ap, fTup_ap, fMt_ap, mtS_l, mtE_l, bB_b, bV_ap, bBo_b, bF_ap, bO_ap, bNot_ap, bAnd_ap, bOr_ap, vIf_ap, vA_b, vO_b, vAnd_ap, vOr_ap, dNot_b, fNot_ap, dNg_i, fNeg_ap, fPN_ap, dPs_i, fPS_ap, vCut_ap, fIsi_ap, rOut_ok, rOut_ex, fCall_ap, fDct0_ap, dIterL_l, dIterL_t, iLT_ap, iR1_ap, iR2_ap, iEn_ap, iZp_ap, vLR1_ap, sNx_ap, sAsg_ap, sRet_ap, sExp_ap, sIf_ap, sFor_ap, oNx_s, sTgt_ap, fzE_s, sFz_ap, sRaise_ap, res_nx, res_rt, res_ex, st0, List.map_cons, List.map_nil, List.length_cons, List.length_nil, List.replicate_succ, List.replicate_zero, List.cons_append, List.nil_append, List.append_nil, List.getElem?_cons_zero, List.getElem?_cons_succ, List.set_cons_zero, List.set_cons_succ, Option.bind_some, Option.map_some, dTru, at_t0, at_t1, at_t2, at_t3, at_l0, at_l1, at_l2, at_l3, eq_int, ne_int, lt_int, gt_int, le_int, ge_int, add_int, sub_int, int_int, int_bool, len_l, len_t, len_scr, dListOf, dTupOf, decide_eq_true_eq, List.length_map, Nat.reduceAdd, Nat.reduceSub, Nat.reduceLeDiff, Nat.zero_add, if_true, if_false, ↓reduceIte, Bool.false_eq_true, Bool.not_true, Bool.not_false, fIn_ap, fGet_ap, inT_f, inT_t, gtT_s, key_i, isS_s, isS_n, map_none, sum_int, all_b, any_b, q_latch_latch, qn_latch_latch, q_latch_not, qn_latch_not, iw_latch, it_latch, in_latch, q_tie0_latch, qn_tie0_latch, q_tie0_not, qn_tie0_not, iw_tie0, it_tie0, in_tie0, lk_tie0, ct_tie0, la_tie0, l3_tie0, q_tie1_latch, qn_tie1_latch, q_tie1_not, qn_tie1_not, iw_tie1, it_tie1, in_tie1, lk_tie1, ct_tie1, la_tie1, l3_tie1, q_not_latch, qn_not_latch, q_not_not, qn_not_not, iw_not, it_not, in_not, lk_not, ct_not, q_nand2_latch, qn_nand2_latch, q_nand2_not, qn_nand2_not, iw_nand2, it_nand2, in_nand2, lk_nand2, ct_nand2, la_nand2, q_nand3_latch, qn_nand3_latch, q_nand3_not, qn_nand3_not, iw_nand3, it_nand3, in_nand3, lk_nand3, ct_nand3, la_nand3, q_nor2_latch, qn_nor2_latch, q_nor2_not, qn_nor2_not, iw_nor2, it_nor2, in_nor2, lk_nor2, ct_nor2, la_nor2, q_nor3_latch, qn_nor3_latch, q_nor3_not, qn_nor3_not, iw_nor3, it_nor3, in_nor3, lk_nor3, ct_nor3, la_nor3, p_tie_tie, p_tie_nor, p_nan_tie, p_nan_nor, p_nor_tie, p_nor_nor, p_not_tie, p_not_nor, n_0, n_1, n_2, n_3, t1, t2]
    rfl
end K31
namespace K31
open PySem PV
abbrev Cell := Str × List Int × Int
def cellD (c : Cell) : D := .tuple [.str c.1, T c.2.1, .int c.2.2]
def look (vs ss : List Int) : List Int := ss.map fun s => vs.getD s.toNat 0
def vals : List Int → List Cell → List Int → List Int
  | vs, [], _ => vs
  | vs, c :: cs, st => if c.1 = S "latch" then vals (vs ++ [st.headD 0]) cs st.tail else vals (vs ++ [gate c.1 (look vs c.2.1)]) cs st
def CellOk (i tot : Nat) (c : Cell) : Prop := c.1 ∈ K8 ∧ (c.1 = S "latch" → ∃ s, c.2.1 = [s] ∧ 0 ≤ s ∧ s < tot) ∧ (c.1 ≠ S "latch" → ∀ s ∈ c.2.1, 0 ≤ s ∧ s < i) ∧ c.2.1.length ≤ 3
def CellsOk (i tot : Nat) : List Cell → Prop
  | [] => True
  | c :: cs => CellOk i tot c ∧ CellsOk (i + 1) tot cs
def nlat (cs : List Cell) : Nat := (cs.filter fun c => c.1 = S "latch").length
def B01 (bs : List Int) : Prop := ∀ b ∈ bs, b = 0 ∨ b = 1
theorem look_len (vs ss : List Int) : (look vs ss).length = ss.length := List.length_map _
theorem getD_at {vs : List Int} {s : Int} (h : 0 ≤ s ∧ s < vs.length) : dAt (L vs) (.int s) = some (.z, .int (vs.getD s.toNat 0)) := by
  rw [at_intI h.1 h.2]
  rw [List.getD_eq_getElem?_getD, List.getElem?_eq_getElem (by omega)]
  rfl
theorem look01 {vs ss : List Int} (h : B01 vs) : B01 (look vs ss) := fun b hb => by
  obtain ⟨s, _, rfl⟩ := List.mem_map.mp hb
  rw [List.getD_eq_getElem?_getD]
  cases q : vs[s.toNat]? with
  | none => exact .inl rfl
  | some x => exact h x (List.mem_of_getElem? q)
theorem gate01 (k : Str) (bs : List Int) : gate k bs = 0 ∨ gate k bs = 1 := by
  unfold gate
  (repeat' split) <;> first | exact .inl rfl | exact .inr rfl
theorem app01 {vs : List Int} {x : Int} (h : B01 vs) (hx : x = 0 ∨ x = 1) : B01 (vs ++ [x]) := fun b hb => by
  rcases List.mem_append.mp hb with hb | hb
  · exact h b hb
  · rw [List.mem_singleton.mp hb]; exact hx
theorem vals_len : ∀ (cs : List Cell) (vs st : List Int), (vals vs cs st).length = vs.length + cs.length
  | [], vs, st => rfl
  | c :: cs, vs, st => by
    unfold vals
    split <;> rw [vals_len, List.length_append, List.length_cons, List.length_cons, List.length_nil] <;> omega
theorem vals01 : ∀ (cs : List Cell) (vs st : List Int), B01 vs → B01 st → B01 (vals vs cs st)
  | [], vs, st, h, _ => h
  | c :: cs, vs, st, h, h2 => by
    unfold vals
    split
    · refine vals01 cs _ _ (app01 h ?_) fun b hb => h2 b (List.mem_of_mem_tail hb)
      cases st with
      | nil => exact .inl rfl
      | cons x r => exact h2 x (List.mem_cons_self ..)
    · exact vals01 cs _ _ (app01 h (gate01 ..)) h2
theorem sv_comp (c i s st k o v : Option Va) (vs ss : List Int) (d : D) (h : ∀ x ∈ ss, 0 ≤ x ∧ x < vs.length) (hl : ss.length ≤ 3) :
    vComp [10] (iLT (fN 7)) (gN 10) bYes ce_settled_values_2 [c, i, s, some (.z, d), some (.l .z, L vs), st, k, some (.z, T ss), o, v, none, none] = .ok (.l .z, L (look vs ss)) [c, i, s, some (.z, d), some (.l .z, L vs), st, k, some (.z, T ss), o, v, none, none] := by
  have e : L (look vs ss) = .list (ss.map fun x => .int (vs.getD x.toNat 0)) := by
    unfold L look
    rw [List.map_map]
    rfl
  rw [e]
  refine comp_ok (ds := ss.map .int) ?_ (by rw [List.length_map]; omega) ?_ rfl
  · simp only [runD_ap, seq_eq, then_nx, then_rt, then_ex, then_ct, then_bk, sB_ok, sB_ex, bind_ok, bind_ex, of_some, gZ_z, gB_s, gBl_l, gBl_z, gF_s, gM_s, fC_ap, fN_ap, fZ_ap, vMv_ap, fV_ap, vF_ap, oF_f, oF_l, oB_f, oB_l, osN_f, osN_l, osC_f, osC_l, o2_ap, fB_ap, fsN_ap, fsC_ap, fLst_ap, fTup_ap, fMt_ap, mtS_l, mtE_l, bB_b, bV_ap, bBo_b, bF_ap, bO_ap, bNot_ap, bAnd_ap, bOr_ap, vIf_ap, vA_b, vO_b, vAnd_ap, vOr_ap, dNot_b, fNot_ap, dNg_i, fNeg_ap, fPN_ap, dPs_i, fPS_ap, vCut_ap, fIsi_ap, rOut_ok, rOut_ex, fCall_ap, fDct0_ap, dIterL_l, dIterL_t, iLT_ap, iR1_ap, iR2_ap, iEn_ap, iZp_ap, vLR1_ap, sNx_ap, sAsg_ap, sRet_ap, sExp_ap, sIf_ap, sFor_ap, oNx_s, sTgt_ap, fzE_s, sFz_ap, sRaise_ap, res_nx, res_rt, res_ex, st0, List.map_cons, List.map_nil, List.length_cons, List.length_nil, List.replicate_succ, List.replicate_zero, List.cons_append, List.nil_append, List.append_nil, List.getElem?_cons_zero, List.getElem?_cons_succ, List.set_cons_zero, List.set_cons_succ, Option.bind_some, Option.map_some, dTru, at_t0, at_t1, at_t2, at_t3, at_l0, at_l1, at_l2, at_l3, eq_int, ne_int, lt_int, gt_int, le_int, ge_int, add_int, sub_int, int_int, int_bool, len_l, len_t, len_scr, dListOf, dTupOf, decide_eq_true_eq, List.length_map, Nat.reduceAdd, Nat.reduceSub, Nat.reduceLeDiff, Nat.zero_add, if_true, if_false, ↓reduceIte, Bool.false_eq_true, Bool.not_true, Bool.not_false, fIn_ap, fGet_ap, inT_f, inT_t, gtT_s, key_i, isS_s, isS_n, map_none, sum_int, all_b, any_b]
  · refine comp_ints (fun x => .int (vs.getD x.toNat 0)) ss rfl (fun _ _ => rfl) fun x hx => ?_
    have := getD_at (h x hx)
    unfold ce_settled_values_2
    simp only [runD_ap, seq_eq, then_nx, then_rt, then_ex, then_ct, then_bk, sB_ok, sB_ex, bind_ok, bind_ex, of_some, gZ_z, gB_s, gBl_l, gBl_z, gF_s, gM_s, fC_ap, fN_ap, fZ_ap, vMv_ap, fV_ap, vF_ap, oF_f, oF_l, oB_f, oB_l, osN_f, osN_l, osC_f, osC_l, o2_ap, fB_ap, fsN_ap, fsC_ap, fLst_ap, fTup_ap, fMt_ap, mtS_l, mtE_l, bB_b, bV_ap, bBo_b, bF_ap, bO_ap, bNot_ap, bAnd_ap, bOr_ap, vIf_ap, vA_b, vO_b, vAnd_ap, vOr_ap, dNot_b, fNot_ap, dNg_i, fNeg_ap, fPN_ap, dPs_i, fPS_ap, vCut_ap, fIsi_ap, rOut_ok, rOut_ex, fCall_ap, fDct0_ap, dIterL_l, dIterL_t, iLT_ap, iR1_ap, iR2_ap, iEn_ap, iZp_ap, vLR1_ap, sNx_ap, sAsg_ap, sRet_ap, sExp_ap, sIf_ap, sFor_ap, oNx_s, sTgt_ap, fzE_s, sFz_ap, sRaise_ap, res_nx, res_rt, res_ex, st0, List.map_cons, List.map_nil, List.length_cons, List.length_nil, List.replicate_succ, List.replicate_zero, List.cons_append, List.nil_append, List.append_nil, List.getElem?_cons_zero, List.getElem?_cons_succ, List.set_cons_zero, List.set_cons_succ, Option.bind_some, Option.map_some, dTru, at_t0, at_t1, at_t2, at_t3, at_l0, at_l1, at_l2, at_l3, eq_int, ne_int, lt_int, gt_int, le_int, ge_int, add_int, sub_int, int_int, int_bool, len_l, len_t, len_scr, dListOf, dTupOf, decide_eq_true_eq, List.length_map, Nat.reduceAdd, Nat.reduceSub, Nat.reduceLeDiff, Nat.zero_add, if_true, if_false, ↓reduceIte, Bool.false_eq_true, Bool.not_true, Bool.not_false, fIn_ap, fGet_ap, inT_f, inT_t, gtT_s, key_i, isS_s, isS_n, map_none, sum_int, all_b, any_b, wipeG, this]
theorem sv_get (c i s v4 v5 v6 v7 : Option Va) (n y : Int) : fGet2 (fN 3) (fN 8) (fN 9) [c, i, s, some (.z, .dict []), v4, v5, v6, v7, some (.z, .int n), some (.z, .int y), none, none] = .ok (.int y) [c, i, s, some (.z, .dict []), v4, v5, v6, v7, some (.z, .int n), some (.z, .int y), none, none] := by
  rw [fGet2_nil (fd := fN 3) (Γ1 := [c, i, s, some (.z, .dict []), v4, v5, v6, v7, some (.z, .int n), some (.z, .int y), none, none]) rfl]
  simp only [runD_ap, seq_eq, then_nx, then_rt, then_ex, then_ct, then_bk, sB_ok, sB_ex, bind_ok, bind_ex, of_some, gZ_z, gB_s, gBl_l, gBl_z, gF_s, gM_s, fC_ap, fN_ap, fZ_ap, vMv_ap, fV_ap, vF_ap, oF_f, oF_l, oB_f, oB_l, osN_f, osN_l, osC_f, osC_l, o2_ap, fB_ap, fsN_ap, fsC_ap, fLst_ap, fTup_ap, fMt_ap, mtS_l, mtE_l, bB_b, bV_ap, bBo_b, bF_ap, bO_ap, bNot_ap, bAnd_ap, bOr_ap, vIf_ap, vA_b, vO_b, vAnd_ap, vOr_ap, dNot_b, fNot_ap, dNg_i, fNeg_ap, fPN_ap, dPs_i, fPS_ap, vCut_ap, fIsi_ap, rOut_ok, rOut_ex, fCall_ap, fDct0_ap, dIterL_l, dIterL_t, iLT_ap, iR1_ap, iR2_ap, iEn_ap, iZp_ap, vLR1_ap, sNx_ap, sAsg_ap, sRet_ap, sExp_ap, sIf_ap, sFor_ap, oNx_s, sTgt_ap, fzE_s, sFz_ap, sRaise_ap, res_nx, res_rt, res_ex, st0, List.map_cons, List.map_nil, List.length_cons, List.length_nil, List.replicate_succ, List.replicate_zero, List.cons_append, List.nil_append, List.append_nil, List.getElem?_cons_zero, List.getElem?_cons_succ, List.set_cons_zero, List.set_cons_succ, Option.bind_some, Option.map_some, dTru, at_t0, at_t1, at_t2, at_t3, at_l0, at_l1, at_l2, at_l3, eq_int, ne_int, lt_int, gt_int, le_int, ge_int, add_int, sub_int, int_int, int_bool, len_l, len_t, len_scr, dListOf, dTupOf, decide_eq_true_eq, List.length_map, Nat.reduceAdd, Nat.reduceSub, Nat.reduceLeDiff, Nat.zero_add, if_true, if_false, ↓reduceIte, Bool.false_eq_true, Bool.not_true, Bool.not_false, fIn_ap, fGet_ap, inT_f, inT_t, gtT_s, key_i, isS_s, isS_n, map_none, sum_int, all_b, any_b]
theorem sv_gate (c i s st v : Option Va) (k : Str) (n y : Int) (vs ss : List Int) (hq : dEq (.str k) (.str (S "latch")) = some (.z, .bool false)) (h : ∀ x ∈ ss, 0 ≤ x ∧ x < vs.length) (hl : ss.length ≤ 3) (hv : vs.length ≤ 1000) (e2 : F_cell_value [.str k, L (look vs ss)] = .ok (.z, .int y)) :
    lb_settled_values_1 [c, i, s, some (.z, .dict []), some (.l .z, L vs), st, some (.z, .str k), some (.z, T ss), some (.z, .int n), v, none, none] = .nx [c, i, s, some (.z, .dict []), some (.l .z, L (vs ++ [y])), st, some (.z, .str k), some (.z, T ss), some (.z, .int n), some (.z, .int y), none, none] := by
  have e1 := sv_comp c i s st (some (.z, .str k)) (some (.z, .int n)) v vs ss (.dict []) h hl
  unfold lb_settled_values_1
  simp (disch := omega) only [runD_ap, seq_eq, then_nx, then_rt, then_ex, then_ct, then_bk, sB_ok, sB_ex, bind_ok, bind_ex, of_some, gZ_z, gB_s, gBl_l, gBl_z, gF_s, gM_s, fC_ap, fN_ap, fZ_ap, vMv_ap, fV_ap, vF_ap, oF_f, oF_l, oB_f, oB_l, osN_f, osN_l, osC_f, osC_l, o2_ap, fB_ap, fsN_ap, fsC_ap, fLst_ap, fTup_ap, fMt_ap, mtS_l, mtE_l, bB_b, bV_ap, bBo_b, bF_ap, bO_ap, bNot_ap, bAnd_ap, bOr_ap, vIf_ap, vA_b, vO_b, vAnd_ap, vOr_ap, dNot_b, fNot_ap, dNg_i, fNeg_ap, fPN_ap, dPs_i, fPS_ap, vCut_ap, fIsi_ap, rOut_ok, rOut_ex, fCall_ap, fDct0_ap, dIterL_l, dIterL_t, iLT_ap, iR1_ap, iR2_ap, iEn_ap, iZp_ap, vLR1_ap, sNx_ap, sAsg_ap, sRet_ap, sExp_ap, sIf_ap, sFor_ap, oNx_s, sTgt_ap, fzE_s, sFz_ap, sRaise_ap, res_nx, res_rt, res_ex, st0, List.map_cons, List.map_nil, List.length_cons, List.length_nil, List.replicate_succ, List.replicate_zero, List.cons_append, List.nil_append, List.append_nil, List.getElem?_cons_zero, List.getElem?_cons_succ, List.set_cons_zero, List.set_cons_succ, Option.bind_some, Option.map_some, dTru, at_t0, at_t1, at_t2, at_t3, at_l0, at_l1, at_l2, at_l3, eq_int, ne_int, lt_int, gt_int, le_int, ge_int, add_int, sub_int, int_int, int_bool, len_l, len_t, len_scr, dListOf, dTupOf, decide_eq_true_eq, List.length_map, Nat.reduceAdd, Nat.reduceSub, Nat.reduceLeDiff, Nat.zero_add, if_true, if_false, ↓reduceIte, Bool.false_eq_true, Bool.not_true, Bool.not_false, fIn_ap, fGet_ap, inT_f, inT_t, gtT_s, key_i, isS_s, isS_n, map_none, sum_int, all_b, any_b, hq, e1, e2, sv_get, app_int]
theorem sv_latch (c i s v o : Option Va) (n x : Int) (vs st ss : List Int) (hv : vs.length ≤ 1000) :
    lb_settled_values_1 [c, i, s, some (.z, .dict []), some (.l .z, L vs), some (.l .z, L (x :: st)), some (.z, .str (S "latch")), some (.z, T ss), some (.z, .int n), v, none, none] = .nx [c, i, s, some (.z, .dict []), some (.l .z, L (vs ++ [x])), some (.l .z, L st), some (.z, .str (S "latch")), some (.z, T ss), some (.z, .int n), some (.z, .int x), none, none] := by
  unfold lb_settled_values_1
  simp (disch := omega) only [runD_ap, seq_eq, then_nx, then_rt, then_ex, then_ct, then_bk, sB_ok, sB_ex, bind_ok, bind_ex, of_some, gZ_z, gB_s, gBl_l, gBl_z, gF_s, gM_s, fC_ap, fN_ap, fZ_ap, vMv_ap, fV_ap, vF_ap, oF_f, oF_l, oB_f, oB_l, osN_f, osN_l, osC_f, osC_l, o2_ap, fB_ap, fsN_ap, fsC_ap, fLst_ap, fTup_ap, fMt_ap, mtS_l, mtE_l, bB_b, bV_ap, bBo_b, bF_ap, bO_ap, bNot_ap, bAnd_ap, bOr_ap, vIf_ap, vA_b, vO_b, vAnd_ap, vOr_ap, dNot_b, fNot_ap, dNg_i, fNeg_ap, fPN_ap, dPs_i, fPS_ap, vCut_ap, fIsi_ap, rOut_ok, rOut_ex, fCall_ap, fDct0_ap, dIterL_l, dIterL_t, iLT_ap, iR1_ap, iR2_ap, iEn_ap, iZp_ap, vLR1_ap, sNx_ap, sAsg_ap, sRet_ap, sExp_ap, sIf_ap, sFor_ap, oNx_s, sTgt_ap, fzE_s, sFz_ap, sRaise_ap, res_nx, res_rt, res_ex, st0, List.map_cons, List.map_nil, List.length_cons, List.length_nil, List.replicate_succ, List.replicate_zero, List.cons_append, List.nil_append, List.append_nil, List.getElem?_cons_zero, List.getElem?_cons_succ, List.set_cons_zero, List.set_cons_succ, Option.bind_some, Option.map_some, dTru, at_t0, at_t1, at_t2, at_t3, at_l0, at_l1, at_l2, at_l3, eq_int, ne_int, lt_int, gt_int, le_int, ge_int, add_int, sub_int, int_int, int_bool, len_l, len_t, len_scr, dListOf, dTupOf, decide_eq_true_eq, List.length_map, Nat.reduceAdd, Nat.reduceSub, Nat.reduceLeDiff, Nat.zero_add, if_true, if_false, ↓reduceIte, Bool.false_eq_true, Bool.not_true, Bool.not_false, fIn_ap, fGet_ap, inT_f, inT_t, gtT_s, key_i, isS_s, isS_n, map_none, sum_int, all_b, any_b, q_latch_latch, qn_latch_latch, q_latch_not, qn_latch_not, iw_latch, it_latch, in_latch, q_tie0_latch, qn_tie0_latch, q_tie0_not, qn_tie0_not, iw_tie0, it_tie0, in_tie0, lk_tie0, ct_tie0, la_tie0, l3_tie0, q_tie1_latch, qn_tie1_latch, q_tie1_not, qn_tie1_not, iw_tie1, it_tie1, in_tie1, lk_tie1, ct_tie1, la_tie1, l3_tie1, q_not_latch, qn_not_latch, q_not_not, qn_not_not, iw_not, it_not, in_not, lk_not, ct_not, q_nand2_latch, qn_nand2_latch, q_nand2_not, qn_nand2_not, iw_nand2, it_nand2, in_nand2, lk_nand2, ct_nand2, la_nand2, q_nand3_latch, qn_nand3_latch, q_nand3_not, qn_nand3_not, iw_nand3, it_nand3, in_nand3, lk_nand3, ct_nand3, la_nand3, q_nor2_latch, qn_nor2_latch, q_nor2_not, qn_nor2_not, iw_nor2, it_nor2, in_nor2, lk_nor2, ct_nor2, la_nor2, q_nor3_latch, qn_nor3_latch, q_nor3_not, qn_nor3_not, iw_nor3, it_nor3, in_nor3, lk_nor3, ct_nor3, la_nor3, p_tie_tie, p_tie_nor, p_nan_tie, p_nan_nor, p_nor_tie, p_nor_nor, p_not_tie, p_not_nor, n_0, n_1, n_2, n_3, pop0, sv_get, app_int]
abbrev sv_t : D → Ev → Option Ev := gT (gsC (gN 6) (gsC (gN 7) (gsC (gN 8) gsN)))
theorem not_latch {k : Str} (h : k ∈ K8) (hn : k ≠ S "latch") : dEq (.str k) (.str (S "latch")) = some (.z, .bool false) := by
  show some (_ : Va) = _
  rw [decide_eq_false hn]
theorem sv_loop (tot : Nat) (c i s : Option Va) : ∀ (cs : List Cell) (vs st : List Int) (k ss o v : Option Va), CellsOk vs.length tot cs → nlat cs ≤ st.length → vs.length + cs.length ≤ 100 →
    ∃ st' k' ss' o' v', sForL sv_t lb_settled_values_1 (cs.map cellD) [c, i, s, some (.z, .dict []), some (.l .z, L vs), some (.l .z, L st), k, ss, o, v, none, none] = .nx [c, i, s, some (.z, .dict []), some (.l .z, L (vals vs cs st)), some (.l .z, L st'), k', ss', o', v', none, none]
  | [], vs, st, k, ss, o, v, _, _, _ => ⟨st, k, ss, o, v, rfl⟩
  | (kd, sr, nt) :: cs, vs, st, k, ss, o, v, h1, h2, h3 => by
    obtain ⟨⟨hk, hla, hga, hsl⟩, hr⟩ := h1
    dsimp only at hk hla hga hsl
    rw [List.length_cons] at h3
    have ht : sv_t (cellD (kd, sr, nt)) [c, i, s, some (.z, .dict []), some (.l .z, L vs), some (.l .z, L st), k, ss, o, v, none, none] = some [c, i, s, some (.z, .dict []), some (.l .z, L vs), some (.l .z, L st), some (.z, .str kd), some (.z, T sr), some (.z, .int nt), v, none, none] := rfl
    rw [List.map_cons]
    unfold sForL
    rw [ht]
    dsimp only
    by_cases q : kd = S "latch"
    · subst q
      have hn : nlat ((S "latch", sr, nt) :: cs) = nlat cs + 1 := by
        unfold nlat
        rw [List.filter_cons, if_pos (decide_eq_true rfl), List.length_cons]
      cases st with
      | nil => rw [hn] at h2; exact absurd h2 (by simp)
      | cons x st =>
        rw [sv_latch _ _ _ _ o _ _ _ _ _ (by omega)]
        dsimp only
        have e : vals vs ((S "latch", sr, nt) :: cs) (x :: st) = vals (vs ++ [x]) cs st := by
          rw [vals, if_pos rfl]
          rfl
        rw [e]
        exact sv_loop tot c i s cs _ _ _ _ _ _ (by rw [List.length_append]; exact hr) (by rw [hn, List.length_cons] at h2; omega) (by rw [List.length_append, List.length_cons, List.length_nil]; omega)
    · have hn : nlat ((kd, sr, nt) :: cs) = nlat cs := by
        unfold nlat
        rw [List.filter_cons, if_neg (by simpa using q)]
      rw [sv_gate _ _ _ _ _ kd _ (gate kd (look vs sr)) _ _ (not_latch hk q) (hga q) hsl (by omega) (cell_value_ok kd hk q _ (by rw [look_len]; omega))]
      dsimp only
      have e : vals vs ((kd, sr, nt) :: cs) st = vals (vs ++ [gate kd (look vs sr)]) cs st := by
        rw [vals, if_neg q]
      rw [e]
      exact sv_loop tot c i s cs _ _ _ _ _ _ (by rw [List.length_append]; exact hr) (by omega) (by rw [List.length_append, List.length_cons, List.length_nil]; omega)
theorem sv_init (c s : Option Va) (bs : List Int) (h : bs.length ≤ 1000) (a b c' d e f g h' : Option Va) :
    vComp [10, 11] (iEn (fsC (fN 1) fsN)) (gT (gsC (gN 10) (gsC (gN 11) gsN))) bYes ce_settled_values_1 [c, some (.z, L bs), s, some (.z, .dict []), none, none, none, none, none, none, none, none] = .ok (.l .z, L bs) [c, some (.z, L bs), s, some (.z, .dict []), none, none, none, none, none, none, none, none] := by
  refine comp_ok (ds := enumL (bs.map .int)) ?_ (by unfold enumL; rw [List.length_map, List.length_zipIdx, List.length_map]; omega) ?_ rfl
  · simp only [runD_ap, seq_eq, then_nx, then_rt, then_ex, then_ct, then_bk, sB_ok, sB_ex, bind_ok, bind_ex, of_some, gZ_z, gB_s, gBl_l, gBl_z, gF_s, gM_s, fC_ap, fN_ap, fZ_ap, vMv_ap, fV_ap, vF_ap, oF_f, oF_l, oB_f, oB_l, osN_f, osN_l, osC_f, osC_l, o2_ap, fB_ap, fsN_ap, fsC_ap, fLst_ap, fTup_ap, fMt_ap, mtS_l, mtE_l, bB_b, bV_ap, bBo_b, bF_ap, bO_ap, bNot_ap, bAnd_ap, bOr_ap, vIf_ap, vA_b, vO_b, vAnd_ap, vOr_ap, dNot_b, fNot_ap, dNg_i, fNeg_ap, fPN_ap, dPs_i, fPS_ap, vCut_ap, fIsi_ap, rOut_ok, rOut_ex, fCall_ap, fDct0_ap, dIterL_l, dIterL_t, iLT_ap, iR1_ap, iR2_ap, iEn_ap, iZp_ap, vLR1_ap, sNx_ap, sAsg_ap, sRet_ap, sExp_ap, sIf_ap, sFor_ap, oNx_s, sTgt_ap, fzE_s, sFz_ap, sRaise_ap, res_nx, res_rt, res_ex, st0, List.map_cons, List.map_nil, List.length_cons, List.length_nil, List.replicate_succ, List.replicate_zero, List.cons_append, List.nil_append, List.append_nil, List.getElem?_cons_zero, List.getElem?_cons_succ, List.set_cons_zero, List.set_cons_succ, Option.bind_some, Option.map_some, dTru, at_t0, at_t1, at_t2, at_t3, at_l0, at_l1, at_l2, at_l3, eq_int, ne_int, lt_int, gt_int, le_int, ge_int, add_int, sub_int, int_int, int_bool, len_l, len_t, len_scr, dListOf, dTupOf, decide_eq_true_eq, List.length_map, Nat.reduceAdd, Nat.reduceSub, Nat.reduceLeDiff, Nat.zero_add, if_true, if_false, ↓reduceIte, Bool.false_eq_true, Bool.not_true, Bool.not_false, fIn_ap, fGet_ap, inT_f, inT_t, gtT_s, key_i, isS_s, isS_n, map_none, sum_int, all_b, any_b]
  · have := comp_gen (is := [10, 11]) (t := gT (gsC (gN 10) (gsC (gN 11) gsN))) (c := bYes) (fe := ce_settled_values_1) (Γ := [c, some (.z, L bs), s, some (.z, .dict []), none, none, none, none, none, none, none, none]) (fun d => match d with | .tuple [_, x] => x | _ => .none) (fun _ => true) (enumL (bs.map .int)) (fun d hd => by
      unfold enumL at hd
      obtain ⟨⟨x, n⟩, hp, rfl⟩ := List.mem_map.mp hd
      have hx : x ∈ bs.map PyData.int := (List.mem_zipIdx hp).2.2 ▸ List.getElem_mem _
      obtain ⟨m, _, rfl⟩ := List.mem_map.mp hx
      refine ⟨[c, some (.z, L bs), s, some (.z, .dict []), none, none, none, none, none, none, some (.z, .int n), some (.z, .int m)], rfl, rfl, fun _ => ?_, rfl⟩
      unfold ce_settled_values_1
      rw [fGet2_nil (fd := fN 3) (Γ1 := [c, some (.z, L bs), s, some (.z, .dict []), none, none, none, none, none, none, some (.z, .int n), some (.z, .int m)]) rfl]
      simp only [runD_ap, seq_eq, then_nx, then_rt, then_ex, then_ct, then_bk, sB_ok, sB_ex, bind_ok, bind_ex, of_some, gZ_z, gB_s, gBl_l, gBl_z, gF_s, gM_s, fC_ap, fN_ap, fZ_ap, vMv_ap, fV_ap, vF_ap, oF_f, oF_l, oB_f, oB_l, osN_f, osN_l, osC_f, osC_l, o2_ap, fB_ap, fsN_ap, fsC_ap, fLst_ap, fTup_ap, fMt_ap, mtS_l, mtE_l, bB_b, bV_ap, bBo_b, bF_ap, bO_ap, bNot_ap, bAnd_ap, bOr_ap, vIf_ap, vA_b, vO_b, vAnd_ap, vOr_ap, dNot_b, fNot_ap, dNg_i, fNeg_ap, fPN_ap, dPs_i, fPS_ap, vCut_ap, fIsi_ap, rOut_ok, rOut_ex, fCall_ap, fDct0_ap, dIterL_l, dIterL_t, iLT_ap, iR1_ap, iR2_ap, iEn_ap, iZp_ap, vLR1_ap, sNx_ap, sAsg_ap, sRet_ap, sExp_ap, sIf_ap, sFor_ap, oNx_s, sTgt_ap, fzE_s, sFz_ap, sRaise_ap, res_nx, res_rt, res_ex, st0, List.map_cons, List.map_nil, List.length_cons, List.length_nil, List.replicate_succ, List.replicate_zero, List.cons_append, List.nil_append, List.append_nil, List.getElem?_cons_zero, List.getElem?_cons_succ, List.set_cons_zero, List.set_cons_succ, Option.bind_some, Option.map_some, dTru, at_t0, at_t1, at_t2, at_t3, at_l0, at_l1, at_l2, at_l3, eq_int, ne_int, lt_int, gt_int, le_int, ge_int, add_int, sub_int, int_int, int_bool, len_l, len_t, len_scr, dListOf, dTupOf, decide_eq_true_eq, List.length_map, Nat.reduceAdd, Nat.reduceSub, Nat.reduceLeDiff, Nat.zero_add, if_true, if_false, ↓reduceIte, Bool.false_eq_true, Bool.not_true, Bool.not_false, fIn_ap, fGet_ap, inT_f, inT_t, gtT_s, key_i, isS_s, isS_n, map_none, sum_int, all_b, any_b])
    show compL _ _ _ _ _ [c, some (.z, L bs), s, some (.z, .dict []), none, none, none, none, none, none, none, none] = _
    rw [this, List.filter_eq_self.mpr fun _ _ => rfl]
    have e : (enumL (bs.map .int)).map (fun d => match d with | .tuple [_, x] => x | _ => .none) = bs.map .int := by
      unfold enumL
      rw [List.map_map]
      have : ((fun d : D => match d with | .tuple [_, x] => x | _ => .none) ∘ fun p : D × Nat => PyData.tuple [.int (p.2 : Nat), p.1]) = Prod.fst := rfl
      rw [this, List.zipIdx_map_fst]
    rw [e]
    rfl
theorem settled_ok (cd h4 : D) (outs : D) (tot : Nat) (cs : List Cell) (ins st : List Int) (h1 : CellsOk ins.length tot cs) (h2 : nlat cs ≤ st.length) (h3 : ins.length + cs.length ≤ 100) :
    F_settled_values [.tuple [cd, .tuple (cs.map cellD), outs, h4], L ins, L st, .dict []] = .ok (.l .z, L (vals ins cs st)) := by
  obtain ⟨st', k', ss', o', v', e⟩ := sv_loop tot (some (.z, .tuple [cd, .tuple (cs.map cellD), outs, h4])) (some (.z, L ins)) (some (.z, L st)) cs ins st none none none none h1 h2 h3
  have e1 := sv_init (some (.z, .tuple [cd, .tuple (cs.map cellD), outs, h4])) (some (.z, L st)) ins (by omega) none none none none none none none none
  generalize vals ins cs st = z at *
  generalize cs.map cellD = w at *
  unfold F_settled_values fb_settled_values
  simp only [runD_ap, seq_eq, then_nx, then_rt, then_ex, then_ct, then_bk, sB_ok, sB_ex, bind_ok, bind_ex, of_some, gZ_z, gB_s, gBl_l, gBl_z, gF_s, gM_s, fC_ap, fN_ap, fZ_ap, vMv_ap, fV_ap, vF_ap, oF_f, oF_l, oB_f, oB_l, osN_f, osN_l, osC_f, osC_l, o2_ap, fB_ap, fsN_ap, fsC_ap, fLst_ap, fTup_ap, fMt_ap, mtS_l, mtE_l, bB_b, bV_ap, bBo_b, bF_ap, bO_ap, bNot_ap, bAnd_ap, bOr_ap, vIf_ap, vA_b, vO_b, vAnd_ap, vOr_ap, dNot_b, fNot_ap, dNg_i, fNeg_ap, fPN_ap, dPs_i, fPS_ap, vCut_ap, fIsi_ap, rOut_ok, rOut_ex, fCall_ap, fDct0_ap, dIterL_l, dIterL_t, iLT_ap, iR1_ap, iR2_ap, iEn_ap, iZp_ap, vLR1_ap, sNx_ap, sAsg_ap, sRet_ap, sExp_ap, sIf_ap, sFor_ap, oNx_s, sTgt_ap, fzE_s, sFz_ap, sRaise_ap, res_nx, res_rt, res_ex, st0, List.map_cons, List.map_nil, List.length_cons, List.length_nil, List.replicate_succ, List.replicate_zero, List.cons_append, List.nil_append, List.append_nil, List.getElem?_cons_zero, List.getElem?_cons_succ, List.set_cons_zero, List.set_cons_succ, Option.bind_some, Option.map_some, dTru, at_t0, at_t1, at_t2, at_t3, at_l0, at_l1, at_l2, at_l3, eq_int, ne_int, lt_int, gt_int, le_int, ge_int, add_int, sub_int, int_int, int_bool, len_l, len_t, len_scr, dListOf, dTupOf, decide_eq_true_eq, List.length_map, Nat.reduceAdd, Nat.reduceSub, Nat.reduceLeDiff, Nat.zero_add, if_true, if_false, ↓reduceIte, Bool.false_eq_true, Bool.not_true, Bool.not_false, fIn_ap, fGet_ap, inT_f, inT_t, gtT_s, key_i, isS_s, isS_n, map_none, sum_int, all_b, any_b, e1, e]
end K31
namespace K31
open PySem PV
abbrev circ (n : Int) (cs : List Cell) (outs : List Int) (h4 : D) : D := .tuple [.int n, .tuple (cs.map cellD), T outs, h4]
abbrev bad : Exc := ⟨S "InvalidValues", []⟩
theorem lv_comp (c i s la : Option Va) (vs ss : List Int) (k : D) (n : D) (h : ∀ x ∈ ss, 0 ≤ x ∧ x < vs.length) (hl : ss.length ≤ 3) :
    vComp [6] (iLT (fV (o2 dAt (oF (fN 5)) (oF (fC (.int 1)))))) (gN 6) bYes ce_law_values_1 [c, i, s, some (.l .z, L vs), la, some (.z, .tuple [k, T ss, n]), none] = .ok (.l .z, L (look vs ss)) [c, i, s, some (.l .z, L vs), la, some (.z, .tuple [k, T ss, n]), none] := by
  have e : L (look vs ss) = .list (ss.map fun x => .int (vs.getD x.toNat 0)) := by
    unfold L look
    rw [List.map_map]
    rfl
  rw [e]
  refine comp_ok (ds := ss.map .int) ?_ (by rw [List.length_map]; omega) ?_ rfl
  · simp only [runD_ap, seq_eq, then_nx, then_rt, then_ex, then_ct, then_bk, sB_ok, sB_ex, bind_ok, bind_ex, of_some, gZ_z, gB_s, gBl_l, gBl_z, gF_s, gM_s, fC_ap, fN_ap, fZ_ap, vMv_ap, fV_ap, vF_ap, oF_f, oF_l, oB_f, oB_l, osN_f, osN_l, osC_f, osC_l, o2_ap, fB_ap, fsN_ap, fsC_ap, fLst_ap, fTup_ap, fMt_ap, mtS_l, mtE_l, bB_b, bV_ap, bBo_b, bF_ap, bO_ap, bNot_ap, bAnd_ap, bOr_ap, vIf_ap, vA_b, vO_b, vAnd_ap, vOr_ap, dNot_b, fNot_ap, dNg_i, fNeg_ap, fPN_ap, dPs_i, fPS_ap, vCut_ap, fIsi_ap, rOut_ok, rOut_ex, fCall_ap, fDct0_ap, dIterL_l, dIterL_t, iLT_ap, iR1_ap, iR2_ap, iEn_ap, iZp_ap, vLR1_ap, sNx_ap, sAsg_ap, sRet_ap, sExp_ap, sIf_ap, sFor_ap, oNx_s, sTgt_ap, fzE_s, sFz_ap, sRaise_ap, res_nx, res_rt, res_ex, st0, List.map_cons, List.map_nil, List.length_cons, List.length_nil, List.replicate_succ, List.replicate_zero, List.cons_append, List.nil_append, List.append_nil, List.getElem?_cons_zero, List.getElem?_cons_succ, List.set_cons_zero, List.set_cons_succ, Option.bind_some, Option.map_some, dTru, at_t0, at_t1, at_t2, at_t3, at_l0, at_l1, at_l2, at_l3, eq_int, ne_int, lt_int, gt_int, le_int, ge_int, add_int, sub_int, int_int, int_bool, len_l, len_t, len_scr, dListOf, dTupOf, decide_eq_true_eq, List.length_map, Nat.reduceAdd, Nat.reduceSub, Nat.reduceLeDiff, Nat.zero_add, if_true, if_false, ↓reduceIte, Bool.false_eq_true, Bool.not_true, Bool.not_false, fIn_ap, fGet_ap, inT_f, inT_t, gtT_s, key_i, isS_s, isS_n, map_none, sum_int, all_b, any_b, isi_int, isi_intb, isi_list]
  · refine comp_ints (fun x => .int (vs.getD x.toNat 0)) ss rfl (fun _ _ => rfl) fun x hx => ?_
    have := getD_at (h x hx)
    unfold ce_law_values_1
    simp only [runD_ap, seq_eq, then_nx, then_rt, then_ex, then_ct, then_bk, sB_ok, sB_ex, bind_ok, bind_ex, of_some, gZ_z, gB_s, gBl_l, gBl_z, gF_s, gM_s, fC_ap, fN_ap, fZ_ap, vMv_ap, fV_ap, vF_ap, oF_f, oF_l, oB_f, oB_l, osN_f, osN_l, osC_f, osC_l, o2_ap, fB_ap, fsN_ap, fsC_ap, fLst_ap, fTup_ap, fMt_ap, mtS_l, mtE_l, bB_b, bV_ap, bBo_b, bF_ap, bO_ap, bNot_ap, bAnd_ap, bOr_ap, vIf_ap, vA_b, vO_b, vAnd_ap, vOr_ap, dNot_b, fNot_ap, dNg_i, fNeg_ap, fPN_ap, dPs_i, fPS_ap, vCut_ap, fIsi_ap, rOut_ok, rOut_ex, fCall_ap, fDct0_ap, dIterL_l, dIterL_t, iLT_ap, iR1_ap, iR2_ap, iEn_ap, iZp_ap, vLR1_ap, sNx_ap, sAsg_ap, sRet_ap, sExp_ap, sIf_ap, sFor_ap, oNx_s, sTgt_ap, fzE_s, sFz_ap, sRaise_ap, res_nx, res_rt, res_ex, st0, List.map_cons, List.map_nil, List.length_cons, List.length_nil, List.replicate_succ, List.replicate_zero, List.cons_append, List.nil_append, List.append_nil, List.getElem?_cons_zero, List.getElem?_cons_succ, List.set_cons_zero, List.set_cons_succ, Option.bind_some, Option.map_some, dTru, at_t0, at_t1, at_t2, at_t3, at_l0, at_l1, at_l2, at_l3, eq_int, ne_int, lt_int, gt_int, le_int, ge_int, add_int, sub_int, int_int, int_bool, len_l, len_t, len_scr, dListOf, dTupOf, decide_eq_true_eq, List.length_map, Nat.reduceAdd, Nat.reduceSub, Nat.reduceLeDiff, Nat.zero_add, if_true, if_false, ↓reduceIte, Bool.false_eq_true, Bool.not_true, Bool.not_false, fIn_ap, fGet_ap, inT_f, inT_t, gtT_s, key_i, isS_s, isS_n, map_none, sum_int, all_b, any_b, isi_int, isi_intb, isi_list, wipeG, this]
theorem lv_gate (c i s la : Option Va) (k : Str) (n : D) (y : Int) (vs ss : List Int) (hq : dEq (.str k) (.str (S "latch")) = some (.z, .bool false)) (h : ∀ x ∈ ss, 0 ≤ x ∧ x < vs.length) (hl : ss.length ≤ 3) (hv : vs.length ≤ 1000) (e2 : F_law_value [.str k, L (look vs ss)] = .ok (.z, .int y)) :
    lb_law_values_1 [c, i, s, some (.l .z, L vs), la, some (.z, .tuple [.str k, T ss, n]), none] = .nx [c, i, s, some (.l .z, L (vs ++ [y])), la, some (.z, .tuple [.str k, T ss, n]), none] := by
  have e1 := lv_comp c i s la vs ss (.str k) n h hl
  unfold lb_law_values_1
  simp (disch := omega) only [runD_ap, seq_eq, then_nx, then_rt, then_ex, then_ct, then_bk, sB_ok, sB_ex, bind_ok, bind_ex, of_some, gZ_z, gB_s, gBl_l, gBl_z, gF_s, gM_s, fC_ap, fN_ap, fZ_ap, vMv_ap, fV_ap, vF_ap, oF_f, oF_l, oB_f, oB_l, osN_f, osN_l, osC_f, osC_l, o2_ap, fB_ap, fsN_ap, fsC_ap, fLst_ap, fTup_ap, fMt_ap, mtS_l, mtE_l, bB_b, bV_ap, bBo_b, bF_ap, bO_ap, bNot_ap, bAnd_ap, bOr_ap, vIf_ap, vA_b, vO_b, vAnd_ap, vOr_ap, dNot_b, fNot_ap, dNg_i, fNeg_ap, fPN_ap, dPs_i, fPS_ap, vCut_ap, fIsi_ap, rOut_ok, rOut_ex, fCall_ap, fDct0_ap, dIterL_l, dIterL_t, iLT_ap, iR1_ap, iR2_ap, iEn_ap, iZp_ap, vLR1_ap, sNx_ap, sAsg_ap, sRet_ap, sExp_ap, sIf_ap, sFor_ap, oNx_s, sTgt_ap, fzE_s, sFz_ap, sRaise_ap, res_nx, res_rt, res_ex, st0, List.map_cons, List.map_nil, List.length_cons, List.length_nil, List.replicate_succ, List.replicate_zero, List.cons_append, List.nil_append, List.append_nil, List.getElem?_cons_zero, List.getElem?_cons_succ, List.set_cons_zero, List.set_cons_succ, Option.bind_some, Option.map_some, dTru, at_t0, at_t1, at_t2, at_t3, at_l0, at_l1, at_l2, at_l3, eq_int, ne_int, lt_int, gt_int, le_int, ge_int, add_int, sub_int, int_int, int_bool, len_l, len_t, len_scr, dListOf, dTupOf, decide_eq_true_eq, List.length_map, Nat.reduceAdd, Nat.reduceSub, Nat.reduceLeDiff, Nat.zero_add, if_true, if_false, ↓reduceIte, Bool.false_eq_true, Bool.not_true, Bool.not_false, fIn_ap, fGet_ap, inT_f, inT_t, gtT_s, key_i, isS_s, isS_n, map_none, sum_int, all_b, any_b, isi_int, isi_intb, isi_list, hq, e1, e2, app_int]
theorem lv_latch (c i : Option Va) (la : Int) (n t : D) (x : Int) (vs sts : List Int) (e : dAt (L sts) (.int la) = some (.z, .int x)) (hv : vs.length ≤ 1000) :
    lb_law_values_1 [c, i, some (.z, L sts), some (.l .z, L vs), some (.z, .int la), some (.z, .tuple [.str (S "latch"), t, n]), none] = .nx [c, i, some (.z, L sts), some (.l .z, L (vs ++ [x])), some (.z, .int (la + 1)), some (.z, .tuple [.str (S "latch"), t, n]), none] := by
  unfold lb_law_values_1
  simp (disch := omega) only [runD_ap, seq_eq, then_nx, then_rt, then_ex, then_ct, then_bk, sB_ok, sB_ex, bind_ok, bind_ex, of_some, gZ_z, gB_s, gBl_l, gBl_z, gF_s, gM_s, fC_ap, fN_ap, fZ_ap, vMv_ap, fV_ap, vF_ap, oF_f, oF_l, oB_f, oB_l, osN_f, osN_l, osC_f, osC_l, o2_ap, fB_ap, fsN_ap, fsC_ap, fLst_ap, fTup_ap, fMt_ap, mtS_l, mtE_l, bB_b, bV_ap, bBo_b, bF_ap, bO_ap, bNot_ap, bAnd_ap, bOr_ap, vIf_ap, vA_b, vO_b, vAnd_ap, vOr_ap, dNot_b, fNot_ap, dNg_i, fNeg_ap, fPN_ap, dPs_i, fPS_ap, vCut_ap, fIsi_ap, rOut_ok, rOut_ex, fCall_ap, fDct0_ap, dIterL_l, dIterL_t, iLT_ap, iR1_ap, iR2_ap, iEn_ap, iZp_ap, vLR1_ap, sNx_ap, sAsg_ap, sRet_ap, sExp_ap, sIf_ap, sFor_ap, oNx_s, sTgt_ap, fzE_s, sFz_ap, sRaise_ap, res_nx, res_rt, res_ex, st0, List.map_cons, List.map_nil, List.length_cons, List.length_nil, List.replicate_succ, List.replicate_zero, List.cons_append, List.nil_append, List.append_nil, List.getElem?_cons_zero, List.getElem?_cons_succ, List.set_cons_zero, List.set_cons_succ, Option.bind_some, Option.map_some, dTru, at_t0, at_t1, at_t2, at_t3, at_l0, at_l1, at_l2, at_l3, eq_int, ne_int, lt_int, gt_int, le_int, ge_int, add_int, sub_int, int_int, int_bool, len_l, len_t, len_scr, dListOf, dTupOf, decide_eq_true_eq, List.length_map, Nat.reduceAdd, Nat.reduceSub, Nat.reduceLeDiff, Nat.zero_add, if_true, if_false, ↓reduceIte, Bool.false_eq_true, Bool.not_true, Bool.not_false, fIn_ap, fGet_ap, inT_f, inT_t, gtT_s, key_i, isS_s, isS_n, map_none, sum_int, all_b, any_b, isi_int, isi_intb, isi_list, q_latch_latch, qn_latch_latch, q_latch_not, qn_latch_not, iw_latch, it_latch, in_latch, q_tie0_latch, qn_tie0_latch, q_tie0_not, qn_tie0_not, iw_tie0, it_tie0, in_tie0, lk_tie0, ct_tie0, la_tie0, l3_tie0, q_tie1_latch, qn_tie1_latch, q_tie1_not, qn_tie1_not, iw_tie1, it_tie1, in_tie1, lk_tie1, ct_tie1, la_tie1, l3_tie1, q_not_latch, qn_not_latch, q_not_not, qn_not_not, iw_not, it_not, in_not, lk_not, ct_not, q_nand2_latch, qn_nand2_latch, q_nand2_not, qn_nand2_not, iw_nand2, it_nand2, in_nand2, lk_nand2, ct_nand2, la_nand2, q_nand3_latch, qn_nand3_latch, q_nand3_not, qn_nand3_not, iw_nand3, it_nand3, in_nand3, lk_nand3, ct_nand3, la_nand3, q_nor2_latch, qn_nor2_latch, q_nor2_not, qn_nor2_not, iw_nor2, it_nor2, in_nor2, lk_nor2, ct_nor2, la_nor2, q_nor3_latch, qn_nor3_latch, q_nor3_not, qn_nor3_not, iw_nor3, it_nor3, in_nor3, lk_nor3, ct_nor3, la_nor3, p_tie_tie, p_tie_nor, p_nan_tie, p_nan_nor, p_nor_tie, p_nor_nor, p_not_tie, p_not_nor, n_0, n_1, n_2, n_3, e, app_int]
theorem lv_loop (tot : Nat) (c i : Option Va) (sts : List Int) : ∀ (cs : List Cell) (vs st : List Int) (la : Nat) (c5 : Option Va), CellsOk vs.length tot cs → nlat cs ≤ st.length → vs.length + cs.length ≤ 100 → B01 vs → B01 st → st = sts.drop la →
    ∃ la' c', sForL (gN 5) lb_law_values_1 (cs.map cellD) [c, i, some (.z, L sts), some (.l .z, L vs), some (.z, .int la), c5, none] = .nx [c, i, some (.z, L sts), some (.l .z, L (vals vs cs st)), la', c', none]
  | [], vs, st, la, c5, _, _, _, _, _, _ => ⟨_, c5, rfl⟩
  | (kd, sr, nt) :: cs, vs, st, la, c5, h1, h2, h3, h4, h5, h6 => by
    obtain ⟨⟨hk, hla, hga, hsl⟩, hr⟩ := h1
    dsimp only at hk hla hga hsl
    rw [List.length_cons] at h3
    have ht : gN 5 (cellD (kd, sr, nt)) [c, i, some (.z, L sts), some (.l .z, L vs), some (.z, .int la), c5, none] = some [c, i, some (.z, L sts), some (.l .z, L vs), some (.z, .int la), some (.z, .tuple [.str kd, T sr, .int nt]), none] := rfl
    rw [List.map_cons]
    unfold sForL
    rw [ht]
    dsimp only
    by_cases q : kd = S "latch"
    · subst q
      have hn : nlat ((S "latch", sr, nt) :: cs) = nlat cs + 1 := by
        unfold nlat
        rw [List.filter_cons, if_pos (decide_eq_true rfl), List.length_cons]
      cases st with
      | nil => rw [hn] at h2; exact absurd h2 (by simp)
      | cons x st =>
        have hx : sts[la]? = some x := by
          have := congrArg (·[0]?) h6
          rw [List.getElem?_drop] at this
          exact this.symm
        rw [lv_latch _ _ _ _ _ _ _ _ (at_int hx) (by omega)]
        dsimp only
        have e : vals vs ((S "latch", sr, nt) :: cs) (x :: st) = vals (vs ++ [x]) cs st := by
          rw [vals, if_pos rfl]
          rfl
        rw [e]
        exact lv_loop tot c i sts cs _ _ (la + 1) _ (by rw [List.length_append]; exact hr) (by rw [hn, List.length_cons] at h2; omega) (by rw [List.length_append, List.length_cons, List.length_nil]; omega) (app01 h4 (h5 x (List.mem_cons_self ..))) (fun b hb => h5 b (List.mem_cons_of_mem _ hb)) (by
          have := congrArg List.tail h6
          rw [List.tail_drop] at this
          exact this)
    · have hn : nlat ((kd, sr, nt) :: cs) = nlat cs := by
        unfold nlat
        rw [List.filter_cons, if_neg (by simpa using q)]
      rw [lv_gate _ _ _ _ kd _ (gate kd (look vs sr)) _ _ (not_latch hk q) (hga q) hsl (by omega) (law_value_ok kd hk q _ (look01 h4))]
      dsimp only
      have e : vals vs ((kd, sr, nt) :: cs) st = vals (vs ++ [gate kd (look vs sr)]) cs st := by
        rw [vals, if_neg q]
      rw [e]
      exact lv_loop tot c i sts cs _ _ la _ (by rw [List.length_append]; exact hr) (by omega) (by rw [List.length_append, List.length_cons, List.length_nil]; omega) (app01 h4 (gate01 ..)) h5 h6
theorem law_values_ok (cd h4 : D) (outs : D) (tot : Nat) (cs : List Cell) (ins st : List Int) (h1 : CellsOk ins.length tot cs) (h2 : nlat cs ≤ st.length) (h3 : ins.length + cs.length ≤ 100) (h5 : B01 ins) (h6 : B01 st) :
    F_law_values [.tuple [cd, .tuple (cs.map cellD), outs, h4], L ins, L st] = .ok (.l .z, L (vals ins cs st)) := by
  obtain ⟨la', c', e⟩ := lv_loop tot (some (.z, .tuple [cd, .tuple (cs.map cellD), outs, h4])) (some (.z, L ins)) st cs ins st 0 none h1 h2 h3 h5 h6 rfl
  generalize vals ins cs st = z at *
  generalize cs.map cellD = w at *
  unfold F_law_values fb_law_values
  rw [show ((0 : Nat) : Int) = 0 from rfl] at e
  simp only [runD_ap, seq_eq, then_nx, then_rt, then_ex, then_ct, then_bk, sB_ok, sB_ex, bind_ok, bind_ex, of_some, gZ_z, gB_s, gBl_l, gBl_z, gF_s, gM_s, fC_ap, fN_ap, fZ_ap, vMv_ap, fV_ap, vF_ap, oF_f, oF_l, oB_f, oB_l, osN_f, osN_l, osC_f, osC_l, o2_ap, fB_ap, fsN_ap, fsC_ap, fLst_ap, fTup_ap, fMt_ap, mtS_l, mtE_l, bB_b, bV_ap, bBo_b, bF_ap, bO_ap, bNot_ap, bAnd_ap, bOr_ap, vIf_ap, vA_b, vO_b, vAnd_ap, vOr_ap, dNot_b, fNot_ap, dNg_i, fNeg_ap, fPN_ap, dPs_i, fPS_ap, vCut_ap, fIsi_ap, rOut_ok, rOut_ex, fCall_ap, fDct0_ap, dIterL_l, dIterL_t, iLT_ap, iR1_ap, iR2_ap, iEn_ap, iZp_ap, vLR1_ap, sNx_ap, sAsg_ap, sRet_ap, sExp_ap, sIf_ap, sFor_ap, oNx_s, sTgt_ap, fzE_s, sFz_ap, sRaise_ap, res_nx, res_rt, res_ex, st0, List.map_cons, List.map_nil, List.length_cons, List.length_nil, List.replicate_succ, List.replicate_zero, List.cons_append, List.nil_append, List.append_nil, List.getElem?_cons_zero, List.getElem?_cons_succ, List.set_cons_zero, List.set_cons_succ, Option.bind_some, Option.map_some, dTru, at_t0, at_t1, at_t2, at_t3, at_l0, at_l1, at_l2, at_l3, eq_int, ne_int, lt_int, gt_int, le_int, ge_int, add_int, sub_int, int_int, int_bool, len_l, len_t, len_scr, dListOf, dTupOf, decide_eq_true_eq, List.length_map, Nat.reduceAdd, Nat.reduceSub, Nat.reduceLeDiff, Nat.zero_add, if_true, if_false, ↓reduceIte, Bool.false_eq_true, Bool.not_true, Bool.not_false, fIn_ap, fGet_ap, inT_f, inT_t, gtT_s, key_i, isS_s, isS_n, map_none, sum_int, all_b, any_b, isi_int, isi_intb, isi_list, e]
theorem ck_turn (a b : Option Va) (x : Int) : lb_check_bits_1 [a, b, some (.z, .int x)] = if x = 0 ∨ x = 1 then .nx [a, b, some (.z, .int x)] else .ex bad [a, b, some (.z, .int x)] := by
  unfold lb_check_bits_1
  by_cases c : x = 0
  · simp only [runD_ap, seq_eq, then_nx, then_rt, then_ex, then_ct, then_bk, sB_ok, sB_ex, bind_ok, bind_ex, of_some, gZ_z, gB_s, gBl_l, gBl_z, gF_s, gM_s, fC_ap, fN_ap, fZ_ap, vMv_ap, fV_ap, vF_ap, oF_f, oF_l, oB_f, oB_l, osN_f, osN_l, osC_f, osC_l, o2_ap, fB_ap, fsN_ap, fsC_ap, fLst_ap, fTup_ap, fMt_ap, mtS_l, mtE_l, bB_b, bV_ap, bBo_b, bF_ap, bO_ap, bNot_ap, bAnd_ap, bOr_ap, vIf_ap, vA_b, vO_b, vAnd_ap, vOr_ap, dNot_b, fNot_ap, dNg_i, fNeg_ap, fPN_ap, dPs_i, fPS_ap, vCut_ap, fIsi_ap, rOut_ok, rOut_ex, fCall_ap, fDct0_ap, dIterL_l, dIterL_t, iLT_ap, iR1_ap, iR2_ap, iEn_ap, iZp_ap, vLR1_ap, sNx_ap, sAsg_ap, sRet_ap, sExp_ap, sIf_ap, sFor_ap, oNx_s, sTgt_ap, fzE_s, sFz_ap, sRaise_ap, res_nx, res_rt, res_ex, st0, List.map_cons, List.map_nil, List.length_cons, List.length_nil, List.replicate_succ, List.replicate_zero, List.cons_append, List.nil_append, List.append_nil, List.getElem?_cons_zero, List.getElem?_cons_succ, List.set_cons_zero, List.set_cons_succ, Option.bind_some, Option.map_some, dTru, at_t0, at_t1, at_t2, at_t3, at_l0, at_l1, at_l2, at_l3, eq_int, ne_int, lt_int, gt_int, le_int, ge_int, add_int, sub_int, int_int, int_bool, len_l, len_t, len_scr, dListOf, dTupOf, decide_eq_true_eq, List.length_map, Nat.reduceAdd, Nat.reduceSub, Nat.reduceLeDiff, Nat.zero_add, if_true, if_false, ↓reduceIte, Bool.false_eq_true, Bool.not_true, Bool.not_false, fIn_ap, fGet_ap, inT_f, inT_t, gtT_s, key_i, isS_s, isS_n, map_none, sum_int, all_b, any_b, isi_int, isi_intb, isi_list, c, decide_true, true_or]
  · by_cases c1 : x = 1
    · simp only [runD_ap, seq_eq, then_nx, then_rt, then_ex, then_ct, then_bk, sB_ok, sB_ex, bind_ok, bind_ex, of_some, gZ_z, gB_s, gBl_l, gBl_z, gF_s, gM_s, fC_ap, fN_ap, fZ_ap, vMv_ap, fV_ap, vF_ap, oF_f, oF_l, oB_f, oB_l, osN_f, osN_l, osC_f, osC_l, o2_ap, fB_ap, fsN_ap, fsC_ap, fLst_ap, fTup_ap, fMt_ap, mtS_l, mtE_l, bB_b, bV_ap, bBo_b, bF_ap, bO_ap, bNot_ap, bAnd_ap, bOr_ap, vIf_ap, vA_b, vO_b, vAnd_ap, vOr_ap, dNot_b, fNot_ap, dNg_i, fNeg_ap, fPN_ap, dPs_i, fPS_ap, vCut_ap, fIsi_ap, rOut_ok, rOut_ex, fCall_ap, fDct0_ap, dIterL_l, dIterL_t, iLT_ap, iR1_ap, iR2_ap, iEn_ap, iZp_ap, vLR1_ap, sNx_ap, sAsg_ap, sRet_ap, sExp_ap, sIf_ap, sFor_ap, oNx_s, sTgt_ap, fzE_s, sFz_ap, sRaise_ap, res_nx, res_rt, res_ex, st0, List.map_cons, List.map_nil, List.length_cons, List.length_nil, List.replicate_succ, List.replicate_zero, List.cons_append, List.nil_append, List.append_nil, List.getElem?_cons_zero, List.getElem?_cons_succ, List.set_cons_zero, List.set_cons_succ, Option.bind_some, Option.map_some, dTru, at_t0, at_t1, at_t2, at_t3, at_l0, at_l1, at_l2, at_l3, eq_int, ne_int, lt_int, gt_int, le_int, ge_int, add_int, sub_int, int_int, int_bool, len_l, len_t, len_scr, dListOf, dTupOf, decide_eq_true_eq, List.length_map, Nat.reduceAdd, Nat.reduceSub, Nat.reduceLeDiff, Nat.zero_add, if_true, if_false, ↓reduceIte, Bool.false_eq_true, Bool.not_true, Bool.not_false, fIn_ap, fGet_ap, inT_f, inT_t, gtT_s, key_i, isS_s, isS_n, map_none, sum_int, all_b, any_b, isi_int, isi_intb, isi_list, c1, decide_true, or_true, decide_eq_false (show ¬ (1 : Int) = 0 by decide)]
    · simp only [runD_ap, seq_eq, then_nx, then_rt, then_ex, then_ct, then_bk, sB_ok, sB_ex, bind_ok, bind_ex, of_some, gZ_z, gB_s, gBl_l, gBl_z, gF_s, gM_s, fC_ap, fN_ap, fZ_ap, vMv_ap, fV_ap, vF_ap, oF_f, oF_l, oB_f, oB_l, osN_f, osN_l, osC_f, osC_l, o2_ap, fB_ap, fsN_ap, fsC_ap, fLst_ap, fTup_ap, fMt_ap, mtS_l, mtE_l, bB_b, bV_ap, bBo_b, bF_ap, bO_ap, bNot_ap, bAnd_ap, bOr_ap, vIf_ap, vA_b, vO_b, vAnd_ap, vOr_ap, dNot_b, fNot_ap, dNg_i, fNeg_ap, fPN_ap, dPs_i, fPS_ap, vCut_ap, fIsi_ap, rOut_ok, rOut_ex, fCall_ap, fDct0_ap, dIterL_l, dIterL_t, iLT_ap, iR1_ap, iR2_ap, iEn_ap, iZp_ap, vLR1_ap, sNx_ap, sAsg_ap, sRet_ap, sExp_ap, sIf_ap, sFor_ap, oNx_s, sTgt_ap, fzE_s, sFz_ap, sRaise_ap, res_nx, res_rt, res_ex, st0, List.map_cons, List.map_nil, List.length_cons, List.length_nil, List.replicate_succ, List.replicate_zero, List.cons_append, List.nil_append, List.append_nil, List.getElem?_cons_zero, List.getElem?_cons_succ, List.set_cons_zero, List.set_cons_succ, Option.bind_some, Option.map_some, dTru, at_t0, at_t1, at_t2, at_t3, at_l0, at_l1, at_l2, at_l3, eq_int, ne_int, lt_int, gt_int, le_int, ge_int, add_int, sub_int, int_int, int_bool, len_l, len_t, len_scr, dListOf, dTupOf, decide_eq_true_eq, List.length_map, Nat.reduceAdd, Nat.reduceSub, Nat.reduceLeDiff, Nat.zero_add, if_true, if_false, ↓reduceIte, Bool.false_eq_true, Bool.not_true, Bool.not_false, fIn_ap, fGet_ap, inT_f, inT_t, gtT_s, key_i, isS_s, isS_n, map_none, sum_int, all_b, any_b, isi_int, isi_intb, isi_list, c, c1, decide_false, or_self]
theorem ck_loop (a b : Option Va) : ∀ (bs : List Int) (x : Option Va), (B01 bs → ∃ x', sForL (gN 2) lb_check_bits_1 (bs.map .int) [a, b, x] = .nx [a, b, x']) ∧ (¬ B01 bs → ∃ Γ', sForL (gN 2) lb_check_bits_1 (bs.map .int) [a, b, x] = .ex bad Γ')
  | [], x => ⟨fun _ => ⟨x, rfl⟩, fun h => absurd (fun b hb => nomatch hb) h⟩
  | y :: bs, x => by
    rw [List.map_cons]
    unfold sForL
    rw [show gN 2 (.int y) [a, b, x] = some [a, b, some (.z, .int y)] from rfl]
    dsimp only
    rw [ck_turn]
    by_cases c : y = 0 ∨ y = 1
    · rw [if_pos c]
      dsimp only
      have ih := ck_loop a b bs (some (.z, .int y))
      refine ⟨fun h => ih.1 fun b hb => h b (List.mem_cons_of_mem _ hb), fun h => ih.2 fun h' => h fun b hb => ?_⟩
      rcases List.mem_cons.mp hb with rfl | hb
      · exact c
      · exact h' b hb
    · rw [if_neg c]
      exact ⟨fun h => absurd (h y (List.mem_cons_self ..)) c, fun _ => ⟨_, rfl⟩⟩
theorem check_ok (bs : List Int) (n : Int) (h : (bs.length : Int) = n) (h2 : B01 bs) : F_check_bits [L bs, .int n] = .ok (.z, .none) := by
  obtain ⟨x', e⟩ := (ck_loop (some (.z, L bs)) (some (.z, .int n)) bs none).1 h2
  unfold F_check_bits fb_check_bits
  simp only [runD_ap, seq_eq, then_nx, then_rt, then_ex, then_ct, then_bk, sB_ok, sB_ex, bind_ok, bind_ex, of_some, gZ_z, gB_s, gBl_l, gBl_z, gF_s, gM_s, fC_ap, fN_ap, fZ_ap, vMv_ap, fV_ap, vF_ap, oF_f, oF_l, oB_f, oB_l, osN_f, osN_l, osC_f, osC_l, o2_ap, fB_ap, fsN_ap, fsC_ap, fLst_ap, fTup_ap, fMt_ap, mtS_l, mtE_l, bB_b, bV_ap, bBo_b, bF_ap, bO_ap, bNot_ap, bAnd_ap, bOr_ap, vIf_ap, vA_b, vO_b, vAnd_ap, vOr_ap, dNot_b, fNot_ap, dNg_i, fNeg_ap, fPN_ap, dPs_i, fPS_ap, vCut_ap, fIsi_ap, rOut_ok, rOut_ex, fCall_ap, fDct0_ap, dIterL_l, dIterL_t, iLT_ap, iR1_ap, iR2_ap, iEn_ap, iZp_ap, vLR1_ap, sNx_ap, sAsg_ap, sRet_ap, sExp_ap, sIf_ap, sFor_ap, oNx_s, sTgt_ap, fzE_s, sFz_ap, sRaise_ap, res_nx, res_rt, res_ex, st0, List.map_cons, List.map_nil, List.length_cons, List.length_nil, List.replicate_succ, List.replicate_zero, List.cons_append, List.nil_append, List.append_nil, List.getElem?_cons_zero, List.getElem?_cons_succ, List.set_cons_zero, List.set_cons_succ, Option.bind_some, Option.map_some, dTru, at_t0, at_t1, at_t2, at_t3, at_l0, at_l1, at_l2, at_l3, eq_int, ne_int, lt_int, gt_int, le_int, ge_int, add_int, sub_int, int_int, int_bool, len_l, len_t, len_scr, dListOf, dTupOf, decide_eq_true_eq, List.length_map, Nat.reduceAdd, Nat.reduceSub, Nat.reduceLeDiff, Nat.zero_add, if_true, if_false, ↓reduceIte, Bool.false_eq_true, Bool.not_true, Bool.not_false, fIn_ap, fGet_ap, inT_f, inT_t, gtT_s, key_i, isS_s, isS_n, map_none, sum_int, all_b, any_b, isi_int, isi_intb, isi_list, h, decide_true, e]
theorem check_bad (bs : List Int) (n : Int) (h : (bs.length : Int) ≠ n ∨ ¬ B01 bs) : F_check_bits [L bs, .int n] = .ex bad := by
  unfold F_check_bits fb_check_bits
  by_cases c : (bs.length : Int) = n
  · obtain ⟨x', e⟩ := (ck_loop (some (.z, L bs)) (some (.z, .int n)) bs none).2 (h.resolve_left fun q => q c)
    simp only [runD_ap, seq_eq, then_nx, then_rt, then_ex, then_ct, then_bk, sB_ok, sB_ex, bind_ok, bind_ex, of_some, gZ_z, gB_s, gBl_l, gBl_z, gF_s, gM_s, fC_ap, fN_ap, fZ_ap, vMv_ap, fV_ap, vF_ap, oF_f, oF_l, oB_f, oB_l, osN_f, osN_l, osC_f, osC_l, o2_ap, fB_ap, fsN_ap, fsC_ap, fLst_ap, fTup_ap, fMt_ap, mtS_l, mtE_l, bB_b, bV_ap, bBo_b, bF_ap, bO_ap, bNot_ap, bAnd_ap, bOr_ap, vIf_ap, vA_b, vO_b, vAnd_ap, vOr_ap, dNot_b, fNot_ap, dNg_i, fNeg_ap, fPN_ap, dPs_i, fPS_ap, vCut_ap, fIsi_ap, rOut_ok, rOut_ex, fCall_ap, fDct0_ap, dIterL_l, dIterL_t, iLT_ap, iR1_ap, iR2_ap, iEn_ap, iZp_ap, vLR1_ap, sNx_ap, sAsg_ap, sRet_ap, sExp_ap, sIf_ap, sFor_ap, oNx_s, sTgt_ap, fzE_s, sFz_ap, sRaise_ap, res_nx, res_rt, res_ex, st0, List.map_cons, List.map_nil, List.length_cons, List.length_nil, List.replicate_succ, List.replicate_zero, List.cons_append, List.nil_append, List.append_nil, List.getElem?_cons_zero, List.getElem?_cons_succ, List.set_cons_zero, List.set_cons_succ, Option.bind_some, Option.map_some, dTru, at_t0, at_t1, at_t2, at_t3, at_l0, at_l1, at_l2, at_l3, eq_int, ne_int, lt_int, gt_int, le_int, ge_int, add_int, sub_int, int_int, int_bool, len_l, len_t, len_scr, dListOf, dTupOf, decide_eq_true_eq, List.length_map, Nat.reduceAdd, Nat.reduceSub, Nat.reduceLeDiff, Nat.zero_add, if_true, if_false, ↓reduceIte, Bool.false_eq_true, Bool.not_true, Bool.not_false, fIn_ap, fGet_ap, inT_f, inT_t, gtT_s, key_i, isS_s, isS_n, map_none, sum_int, all_b, any_b, isi_int, isi_intb, isi_list, c, decide_true, e]
  · simp only [runD_ap, seq_eq, then_nx, then_rt, then_ex, then_ct, then_bk, sB_ok, sB_ex, bind_ok, bind_ex, of_some, gZ_z, gB_s, gBl_l, gBl_z, gF_s, gM_s, fC_ap, fN_ap, fZ_ap, vMv_ap, fV_ap, vF_ap, oF_f, oF_l, oB_f, oB_l, osN_f, osN_l, osC_f, osC_l, o2_ap, fB_ap, fsN_ap, fsC_ap, fLst_ap, fTup_ap, fMt_ap, mtS_l, mtE_l, bB_b, bV_ap, bBo_b, bF_ap, bO_ap, bNot_ap, bAnd_ap, bOr_ap, vIf_ap, vA_b, vO_b, vAnd_ap, vOr_ap, dNot_b, fNot_ap, dNg_i, fNeg_ap, fPN_ap, dPs_i, fPS_ap, vCut_ap, fIsi_ap, rOut_ok, rOut_ex, fCall_ap, fDct0_ap, dIterL_l, dIterL_t, iLT_ap, iR1_ap, iR2_ap, iEn_ap, iZp_ap, vLR1_ap, sNx_ap, sAsg_ap, sRet_ap, sExp_ap, sIf_ap, sFor_ap, oNx_s, sTgt_ap, fzE_s, sFz_ap, sRaise_ap, res_nx, res_rt, res_ex, st0, List.map_cons, List.map_nil, List.length_cons, List.length_nil, List.replicate_succ, List.replicate_zero, List.cons_append, List.nil_append, List.append_nil, List.getElem?_cons_zero, List.getElem?_cons_succ, List.set_cons_zero, List.set_cons_succ, Option.bind_some, Option.map_some, dTru, at_t0, at_t1, at_t2, at_t3, at_l0, at_l1, at_l2, at_l3, eq_int, ne_int, lt_int, gt_int, le_int, ge_int, add_int, sub_int, int_int, int_bool, len_l, len_t, len_scr, dListOf, dTupOf, decide_eq_true_eq, List.length_map, Nat.reduceAdd, Nat.reduceSub, Nat.reduceLeDiff, Nat.zero_add, if_true, if_false, ↓reduceIte, Bool.false_eq_true, Bool.not_true, Bool.not_false, fIn_ap, fGet_ap, inT_f, inT_t, gtT_s, key_i, isS_s, isS_n, map_none, sum_int, all_b, any_b, isi_int, isi_intb, isi_list, decide_eq_false c]
end K31
namespace K31
open PySem PV
def isL (d : D) : Bool := match d with | .tuple (.str k :: _) => decide (k = S "latch") | _ => false
abbrev lats (cs : List Cell) : List Cell := cs.filter fun c => c.1 = S "latch"
theorem filt (cs : List Cell) : (cs.map cellD).filter isL = (lats cs).map cellD := by
  rw [List.filter_map]
  rfl
theorem m_bad : m_InvalidValues (S "InvalidValues") = some true := by
  unfold m_InvalidValues
  exact if_pos rfl
theorem cells_latch {tot : Nat} : ∀ {cs : List Cell} {i : Nat}, CellsOk i tot cs → ∀ c ∈ cs, c.1 = S "latch" → ∃ s, c.2.1 = [s] ∧ 0 ≤ s ∧ s < tot
  | c :: cs, i, h, d, hd, e => by
    rcases List.mem_cons.mp hd with rfl | hd
    · exact h.1.2.1 e
    · exact cells_latch h.2 d hd e
theorem latch_cells_ok (n outs h4 : D) (cs : List Cell) (hl : cs.length ≤ 1000) : F_latch_cells [.tuple [n, .tuple (cs.map cellD), outs, h4]] = .ok (.l .z, .list ((lats cs).map cellD)) := by
  have e : vComp [1] (iLT (fV (o2 dAt (oF (fN 0)) (oF (fC (.int 1)))))) (gN 1) cc_latch_cells_1 ce_latch_cells_1 [some (.z, .tuple [n, .tuple (cs.map cellD), outs, h4]), none] = .ok (.l .z, .list ((lats cs).map cellD)) [some (.z, .tuple [n, .tuple (cs.map cellD), outs, h4]), none] := by
    refine comp_ok (ds := cs.map cellD) ?_ (by rw [List.length_map]; omega) ?_ rfl
    · generalize cs.map cellD = w
      simp only [runD_ap, seq_eq, then_nx, then_rt, then_ex, then_ct, then_bk, sB_ok, sB_ex, bind_ok, bind_ex, of_some, gZ_z, gB_s, gBl_l, gBl_z, gF_s, gM_s, fC_ap, fN_ap, fZ_ap, vMv_ap, fV_ap, vF_ap, oF_f, oF_l, oB_f, oB_l, osN_f, osN_l, osC_f, osC_l, o2_ap, fB_ap, fsN_ap, fsC_ap, fLst_ap, fTup_ap, fMt_ap, mtS_l, mtE_l, bB_b, bV_ap, bBo_b, bF_ap, bO_ap, bNot_ap, bAnd_ap, bOr_ap, vIf_ap, vA_b, vO_b, vAnd_ap, vOr_ap, dNot_b, fNot_ap, dNg_i, fNeg_ap, fPN_ap, dPs_i, fPS_ap, vCut_ap, fIsi_ap, rOut_ok, rOut_ex, fCall_ap, fDct0_ap, dIterL_l, dIterL_t, iLT_ap, iR1_ap, iR2_ap, iEn_ap, iZp_ap, vLR1_ap, sNx_ap, sAsg_ap, sRet_ap, sExp_ap, sIf_ap, sFor_ap, oNx_s, sTgt_ap, fzE_s, sFz_ap, sRaise_ap, res_nx, res_rt, res_ex, st0, List.map_cons, List.map_nil, List.length_cons, List.length_nil, List.replicate_succ, List.replicate_zero, List.cons_append, List.nil_append, List.append_nil, List.getElem?_cons_zero, List.getElem?_cons_succ, List.set_cons_zero, List.set_cons_succ, Option.bind_some, Option.map_some, dTru, at_t0, at_t1, at_t2, at_t3, at_l0, at_l1, at_l2, at_l3, eq_int, ne_int, lt_int, gt_int, le_int, ge_int, add_int, sub_int, int_int, int_bool, len_l, len_t, len_scr, dListOf, dTupOf, decide_eq_true_eq, List.length_map, Nat.reduceAdd, Nat.reduceSub, Nat.reduceLeDiff, Nat.zero_add, if_true, if_false, ↓reduceIte, Bool.false_eq_true, Bool.not_true, Bool.not_false, fIn_ap, fGet_ap, inT_f, inT_t, gtT_s, key_i, isS_s, isS_n, map_none, sum_int, all_b, any_b, isi_int, isi_intb, isi_list, sTry_ap, tryE_ex, tryE_nx, tryE_rt, tryC_nx, tryC_rt, tryC_f]
    · have := comp_gen (is := [1]) (t := gN 1) (c := cc_latch_cells_1) (fe := ce_latch_cells_1) (Γ := [some (.z, .tuple [n, .tuple (cs.map cellD), outs, h4]), none]) id isL (cs.map cellD) (fun d hd => by
        obtain ⟨⟨k, sr, nt⟩, _, rfl⟩ := List.mem_map.mp hd
        generalize cs.map cellD = w
        refine ⟨_, rfl, ?_, fun _ => ?_, rfl⟩
        · unfold cc_latch_cells_1
          show bV _ [some (.z, .tuple [n, .tuple w, outs, h4]), some (.z, .tuple [.str k, T sr, .int nt])] = .ok (decide (k = S "latch")) [some (.z, .tuple [n, .tuple w, outs, h4]), some (.z, .tuple [.str k, T sr, .int nt])]
          simp only [runD_ap, seq_eq, then_nx, then_rt, then_ex, then_ct, then_bk, sB_ok, sB_ex, bind_ok, bind_ex, of_some, gZ_z, gB_s, gBl_l, gBl_z, gF_s, gM_s, fC_ap, fN_ap, fZ_ap, vMv_ap, fV_ap, vF_ap, oF_f, oF_l, oB_f, oB_l, osN_f, osN_l, osC_f, osC_l, o2_ap, fB_ap, fsN_ap, fsC_ap, fLst_ap, fTup_ap, fMt_ap, mtS_l, mtE_l, bB_b, bV_ap, bBo_b, bF_ap, bO_ap, bNot_ap, bAnd_ap, bOr_ap, vIf_ap, vA_b, vO_b, vAnd_ap, vOr_ap, dNot_b, fNot_ap, dNg_i, fNeg_ap, fPN_ap, dPs_i, fPS_ap, vCut_ap, fIsi_ap, rOut_ok, rOut_ex, fCall_ap, fDct0_ap, dIterL_l, dIterL_t, iLT_ap, iR1_ap, iR2_ap, iEn_ap, iZp_ap, vLR1_ap, sNx_ap, sAsg_ap, sRet_ap, sExp_ap, sIf_ap, sFor_ap, oNx_s, sTgt_ap, fzE_s, sFz_ap, sRaise_ap, res_nx, res_rt, res_ex, st0, List.map_cons, List.map_nil, List.length_cons, List.length_nil, List.replicate_succ, List.replicate_zero, List.cons_append, List.nil_append, List.append_nil, List.getElem?_cons_zero, List.getElem?_cons_succ, List.set_cons_zero, List.set_cons_succ, Option.bind_some, Option.map_some, dTru, at_t0, at_t1, at_t2, at_t3, at_l0, at_l1, at_l2, at_l3, eq_int, ne_int, lt_int, gt_int, le_int, ge_int, add_int, sub_int, int_int, int_bool, len_l, len_t, len_scr, dListOf, dTupOf, decide_eq_true_eq, List.length_map, Nat.reduceAdd, Nat.reduceSub, Nat.reduceLeDiff, Nat.zero_add, if_true, if_false, ↓reduceIte, Bool.false_eq_true, Bool.not_true, Bool.not_false, fIn_ap, fGet_ap, inT_f, inT_t, gtT_s, key_i, isS_s, isS_n, map_none, sum_int, all_b, any_b, isi_int, isi_intb, isi_list, sTry_ap, tryE_ex, tryE_nx, tryE_rt, tryC_nx, tryC_rt, tryC_f, eq_str]
        · unfold ce_latch_cells_1
          show fN 1 [some (.z, .tuple [n, .tuple w, outs, h4]), some (.z, .tuple [.str k, T sr, .int nt])] = _
          simp only [runD_ap, seq_eq, then_nx, then_rt, then_ex, then_ct, then_bk, sB_ok, sB_ex, bind_ok, bind_ex, of_some, gZ_z, gB_s, gBl_l, gBl_z, gF_s, gM_s, fC_ap, fN_ap, fZ_ap, vMv_ap, fV_ap, vF_ap, oF_f, oF_l, oB_f, oB_l, osN_f, osN_l, osC_f, osC_l, o2_ap, fB_ap, fsN_ap, fsC_ap, fLst_ap, fTup_ap, fMt_ap, mtS_l, mtE_l, bB_b, bV_ap, bBo_b, bF_ap, bO_ap, bNot_ap, bAnd_ap, bOr_ap, vIf_ap, vA_b, vO_b, vAnd_ap, vOr_ap, dNot_b, fNot_ap, dNg_i, fNeg_ap, fPN_ap, dPs_i, fPS_ap, vCut_ap, fIsi_ap, rOut_ok, rOut_ex, fCall_ap, fDct0_ap, dIterL_l, dIterL_t, iLT_ap, iR1_ap, iR2_ap, iEn_ap, iZp_ap, vLR1_ap, sNx_ap, sAsg_ap, sRet_ap, sExp_ap, sIf_ap, sFor_ap, oNx_s, sTgt_ap, fzE_s, sFz_ap, sRaise_ap, res_nx, res_rt, res_ex, st0, List.map_cons, List.map_nil, List.length_cons, List.length_nil, List.replicate_succ, List.replicate_zero, List.cons_append, List.nil_append, List.append_nil, List.getElem?_cons_zero, List.getElem?_cons_succ, List.set_cons_zero, List.set_cons_succ, Option.bind_some, Option.map_some, dTru, at_t0, at_t1, at_t2, at_t3, at_l0, at_l1, at_l2, at_l3, eq_int, ne_int, lt_int, gt_int, le_int, ge_int, add_int, sub_int, int_int, int_bool, len_l, len_t, len_scr, dListOf, dTupOf, decide_eq_true_eq, List.length_map, Nat.reduceAdd, Nat.reduceSub, Nat.reduceLeDiff, Nat.zero_add, if_true, if_false, ↓reduceIte, Bool.false_eq_true, Bool.not_true, Bool.not_false, fIn_ap, fGet_ap, inT_f, inT_t, gtT_s, key_i, isS_s, isS_n, map_none, sum_int, all_b, any_b, isi_int, isi_intb, isi_list, sTry_ap, tryE_ex, tryE_nx, tryE_rt, tryC_nx, tryC_rt, tryC_f]
          rfl)
      rw [filt, List.map_id] at this
      exact this
  generalize (lats cs).map cellD = z at *
  generalize cs.map cellD = w at *
  unfold F_latch_cells fb_latch_cells
  simp only [runD_ap, seq_eq, then_nx, then_rt, then_ex, then_ct, then_bk, sB_ok, sB_ex, bind_ok, bind_ex, of_some, gZ_z, gB_s, gBl_l, gBl_z, gF_s, gM_s, fC_ap, fN_ap, fZ_ap, vMv_ap, fV_ap, vF_ap, oF_f, oF_l, oB_f, oB_l, osN_f, osN_l, osC_f, osC_l, o2_ap, fB_ap, fsN_ap, fsC_ap, fLst_ap, fTup_ap, fMt_ap, mtS_l, mtE_l, bB_b, bV_ap, bBo_b, bF_ap, bO_ap, bNot_ap, bAnd_ap, bOr_ap, vIf_ap, vA_b, vO_b, vAnd_ap, vOr_ap, dNot_b, fNot_ap, dNg_i, fNeg_ap, fPN_ap, dPs_i, fPS_ap, vCut_ap, fIsi_ap, rOut_ok, rOut_ex, fCall_ap, fDct0_ap, dIterL_l, dIterL_t, iLT_ap, iR1_ap, iR2_ap, iEn_ap, iZp_ap, vLR1_ap, sNx_ap, sAsg_ap, sRet_ap, sExp_ap, sIf_ap, sFor_ap, oNx_s, sTgt_ap, fzE_s, sFz_ap, sRaise_ap, res_nx, res_rt, res_ex, st0, List.map_cons, List.map_nil, List.length_cons, List.length_nil, List.replicate_succ, List.replicate_zero, List.cons_append, List.nil_append, List.append_nil, List.getElem?_cons_zero, List.getElem?_cons_succ, List.set_cons_zero, List.set_cons_succ, Option.bind_some, Option.map_some, dTru, at_t0, at_t1, at_t2, at_t3, at_l0, at_l1, at_l2, at_l3, eq_int, ne_int, lt_int, gt_int, le_int, ge_int, add_int, sub_int, int_int, int_bool, len_l, len_t, len_scr, dListOf, dTupOf, decide_eq_true_eq, List.length_map, Nat.reduceAdd, Nat.reduceSub, Nat.reduceLeDiff, Nat.zero_add, if_true, if_false, ↓reduceIte, Bool.false_eq_true, Bool.not_true, Bool.not_false, fIn_ap, fGet_ap, inT_f, inT_t, gtT_s, key_i, isS_s, isS_n, map_none, sum_int, all_b, any_b, isi_int, isi_intb, isi_list, sTry_ap, tryE_ex, tryE_nx, tryE_rt, tryC_nx, tryC_rt, tryC_f, e]
theorem nlat_eq (cs : List Cell) : ((lats cs).map cellD).length = nlat cs := List.length_map _
def Bad (ins st : List Int) (n : Int) (m : Nat) : Prop := ((ins.length : Int) ≠ n ∨ ¬ B01 ins) ∨ (st.length : Int) ≠ m ∨ ¬ B01 st
theorem cell_values_ok (outs h4 : D) (tot : Nat) (cs : List Cell) (ins st : List Int) (n : Int) (h1 : CellsOk ins.length tot cs) (h2 : st.length = nlat cs) (h3 : ins.length + cs.length ≤ 100) (h4' : (ins.length : Int) = n) (h5 : B01 ins) (h6 : B01 st) :
    F_cell_values [.tuple [.int n, .tuple (cs.map cellD), outs, h4], L ins, L st] = .ok (.l .z, L (vals ins cs st)) := by
  have e1 := check_ok ins n h4' h5
  have e2 := latch_cells_ok (.int n) outs h4 cs (by omega)
  have e3 := check_ok st (nlat cs) (by rw [h2]) h6
  have e4 := settled_ok (.int n) h4 outs tot cs ins st h1 (by omega) h3
  rw [← nlat_eq] at e3
  generalize vals ins cs st = z at *
  generalize (lats cs).map cellD = y at *
  generalize cs.map cellD = w at *
  unfold F_cell_values fb_cell_values
  simp only [runD_ap, seq_eq, then_nx, then_rt, then_ex, then_ct, then_bk, sB_ok, sB_ex, bind_ok, bind_ex, of_some, gZ_z, gB_s, gBl_l, gBl_z, gF_s, gM_s, fC_ap, fN_ap, fZ_ap, vMv_ap, fV_ap, vF_ap, oF_f, oF_l, oB_f, oB_l, osN_f, osN_l, osC_f, osC_l, o2_ap, fB_ap, fsN_ap, fsC_ap, fLst_ap, fTup_ap, fMt_ap, mtS_l, mtE_l, bB_b, bV_ap, bBo_b, bF_ap, bO_ap, bNot_ap, bAnd_ap, bOr_ap, vIf_ap, vA_b, vO_b, vAnd_ap, vOr_ap, dNot_b, fNot_ap, dNg_i, fNeg_ap, fPN_ap, dPs_i, fPS_ap, vCut_ap, fIsi_ap, rOut_ok, rOut_ex, fCall_ap, fDct0_ap, dIterL_l, dIterL_t, iLT_ap, iR1_ap, iR2_ap, iEn_ap, iZp_ap, vLR1_ap, sNx_ap, sAsg_ap, sRet_ap, sExp_ap, sIf_ap, sFor_ap, oNx_s, sTgt_ap, fzE_s, sFz_ap, sRaise_ap, res_nx, res_rt, res_ex, st0, List.map_cons, List.map_nil, List.length_cons, List.length_nil, List.replicate_succ, List.replicate_zero, List.cons_append, List.nil_append, List.append_nil, List.getElem?_cons_zero, List.getElem?_cons_succ, List.set_cons_zero, List.set_cons_succ, Option.bind_some, Option.map_some, dTru, at_t0, at_t1, at_t2, at_t3, at_l0, at_l1, at_l2, at_l3, eq_int, ne_int, lt_int, gt_int, le_int, ge_int, add_int, sub_int, int_int, int_bool, len_l, len_t, len_scr, dListOf, dTupOf, decide_eq_true_eq, List.length_map, Nat.reduceAdd, Nat.reduceSub, Nat.reduceLeDiff, Nat.zero_add, if_true, if_false, ↓reduceIte, Bool.false_eq_true, Bool.not_true, Bool.not_false, fIn_ap, fGet_ap, inT_f, inT_t, gtT_s, key_i, isS_s, isS_n, map_none, sum_int, all_b, any_b, isi_int, isi_intb, isi_list, sTry_ap, tryE_ex, tryE_nx, tryE_rt, tryC_nx, tryC_rt, tryC_f, e1, e2, e3, e4]
theorem cell_values_bad (outs h4 : D) (cs : List Cell) (ins st : List Int) (n : Int) (h3 : cs.length ≤ 100) (h : Bad ins st n (nlat cs)) :
    F_cell_values [.tuple [.int n, .tuple (cs.map cellD), outs, h4], L ins, L st] = .ex bad := by
  by_cases c : ((ins.length : Int) ≠ n ∨ ¬ B01 ins)
  · have e1 := check_bad ins n c
    generalize cs.map cellD = w at *
    unfold F_cell_values fb_cell_values
    simp only [runD_ap, seq_eq, then_nx, then_rt, then_ex, then_ct, then_bk, sB_ok, sB_ex, bind_ok, bind_ex, of_some, gZ_z, gB_s, gBl_l, gBl_z, gF_s, gM_s, fC_ap, fN_ap, fZ_ap, vMv_ap, fV_ap, vF_ap, oF_f, oF_l, oB_f, oB_l, osN_f, osN_l, osC_f, osC_l, o2_ap, fB_ap, fsN_ap, fsC_ap, fLst_ap, fTup_ap, fMt_ap, mtS_l, mtE_l, bB_b, bV_ap, bBo_b, bF_ap, bO_ap, bNot_ap, bAnd_ap, bOr_ap, vIf_ap, vA_b, vO_b, vAnd_ap, vOr_ap, dNot_b, fNot_ap, dNg_i, fNeg_ap, fPN_ap, dPs_i, fPS_ap, vCut_ap, fIsi_ap, rOut_ok, rOut_ex, fCall_ap, fDct0_ap, dIterL_l, dIterL_t, iLT_ap, iR1_ap, iR2_ap, iEn_ap, iZp_ap, vLR1_ap, sNx_ap, sAsg_ap, sRet_ap, sExp_ap, sIf_ap, sFor_ap, oNx_s, sTgt_ap, fzE_s, sFz_ap, sRaise_ap, res_nx, res_rt, res_ex, st0, List.map_cons, List.map_nil, List.length_cons, List.length_nil, List.replicate_succ, List.replicate_zero, List.cons_append, List.nil_append, List.append_nil, List.getElem?_cons_zero, List.getElem?_cons_succ, List.set_cons_zero, List.set_cons_succ, Option.bind_some, Option.map_some, dTru, at_t0, at_t1, at_t2, at_t3, at_l0, at_l1, at_l2, at_l3, eq_int, ne_int, lt_int, gt_int, le_int, ge_int, add_int, sub_int, int_int, int_bool, len_l, len_t, len_scr, dListOf, dTupOf, decide_eq_true_eq, List.length_map, Nat.reduceAdd, Nat.reduceSub, Nat.reduceLeDiff, Nat.zero_add, if_true, if_false, ↓reduceIte, Bool.false_eq_true, Bool.not_true, Bool.not_false, fIn_ap, fGet_ap, inT_f, inT_t, gtT_s, key_i, isS_s, isS_n, map_none, sum_int, all_b, any_b, isi_int, isi_intb, isi_list, sTry_ap, tryE_ex, tryE_nx, tryE_rt, tryC_nx, tryC_rt, tryC_f, e1]
  · have hh := h.resolve_left c
    have e1 := check_ok ins n (Classical.byContradiction fun q => c (.inl q)) (Classical.byContradiction fun q => c (.inr q))
    have e2 := latch_cells_ok (.int n) outs h4 cs (by omega)
    have e3 := check_bad st (nlat cs) hh
    rw [← nlat_eq] at e3
    generalize (lats cs).map cellD = y at *
    generalize cs.map cellD = w at *
    unfold F_cell_values fb_cell_values
    simp only [runD_ap, seq_eq, then_nx, then_rt, then_ex, then_ct, then_bk, sB_ok, sB_ex, bind_ok, bind_ex, of_some, gZ_z, gB_s, gBl_l, gBl_z, gF_s, gM_s, fC_ap, fN_ap, fZ_ap, vMv_ap, fV_ap, vF_ap, oF_f, oF_l, oB_f, oB_l, osN_f, osN_l, osC_f, osC_l, o2_ap, fB_ap, fsN_ap, fsC_ap, fLst_ap, fTup_ap, fMt_ap, mtS_l, mtE_l, bB_b, bV_ap, bBo_b, bF_ap, bO_ap, bNot_ap, bAnd_ap, bOr_ap, vIf_ap, vA_b, vO_b, vAnd_ap, vOr_ap, dNot_b, fNot_ap, dNg_i, fNeg_ap, fPN_ap, dPs_i, fPS_ap, vCut_ap, fIsi_ap, rOut_ok, rOut_ex, fCall_ap, fDct0_ap, dIterL_l, dIterL_t, iLT_ap, iR1_ap, iR2_ap, iEn_ap, iZp_ap, vLR1_ap, sNx_ap, sAsg_ap, sRet_ap, sExp_ap, sIf_ap, sFor_ap, oNx_s, sTgt_ap, fzE_s, sFz_ap, sRaise_ap, res_nx, res_rt, res_ex, st0, List.map_cons, List.map_nil, List.length_cons, List.length_nil, List.replicate_succ, List.replicate_zero, List.cons_append, List.nil_append, List.append_nil, List.getElem?_cons_zero, List.getElem?_cons_succ, List.set_cons_zero, List.set_cons_succ, Option.bind_some, Option.map_some, dTru, at_t0, at_t1, at_t2, at_t3, at_l0, at_l1, at_l2, at_l3, eq_int, ne_int, lt_int, gt_int, le_int, ge_int, add_int, sub_int, int_int, int_bool, len_l, len_t, len_scr, dListOf, dTupOf, decide_eq_true_eq, List.length_map, Nat.reduceAdd, Nat.reduceSub, Nat.reduceLeDiff, Nat.zero_add, if_true, if_false, ↓reduceIte, Bool.false_eq_true, Bool.not_true, Bool.not_false, fIn_ap, fGet_ap, inT_f, inT_t, gtT_s, key_i, isS_s, isS_n, map_none, sum_int, all_b, any_b, isi_int, isi_intb, isi_list, sTry_ap, tryE_ex, tryE_nx, tryE_rt, tryC_nx, tryC_rt, tryC_f, e1, e2, e3]
theorem co_comp (n w h4 : D) (a b : Option Va) (outs V : List Int) (h : ∀ x ∈ outs, 0 ≤ x ∧ x < V.length) (hl : outs.length ≤ 1000) :
    vComp [4] (iLT (fV (o2 dAt (oF (fN 0)) (oF (fC (.int 2)))))) (gN 4) bYes ce_circuit_outputs_1 [some (.z, .tuple [n, w, T outs, h4]), a, b, some (.z, L V), none] = .ok (.l .z, L (look V outs)) [some (.z, .tuple [n, w, T outs, h4]), a, b, some (.z, L V), none] := by
  have e : L (look V outs) = .list (outs.map fun x => .int (V.getD x.toNat 0)) := by
    unfold L look
    rw [List.map_map]
    rfl
  rw [e]
  refine comp_ok (ds := outs.map .int) ?_ (by rw [List.length_map]; omega) ?_ rfl
  · simp only [runD_ap, seq_eq, then_nx, then_rt, then_ex, then_ct, then_bk, sB_ok, sB_ex, bind_ok, bind_ex, of_some, gZ_z, gB_s, gBl_l, gBl_z, gF_s, gM_s, fC_ap, fN_ap, fZ_ap, vMv_ap, fV_ap, vF_ap, oF_f, oF_l, oB_f, oB_l, osN_f, osN_l, osC_f, osC_l, o2_ap, fB_ap, fsN_ap, fsC_ap, fLst_ap, fTup_ap, fMt_ap, mtS_l, mtE_l, bB_b, bV_ap, bBo_b, bF_ap, bO_ap, bNot_ap, bAnd_ap, bOr_ap, vIf_ap, vA_b, vO_b, vAnd_ap, vOr_ap, dNot_b, fNot_ap, dNg_i, fNeg_ap, fPN_ap, dPs_i, fPS_ap, vCut_ap, fIsi_ap, rOut_ok, rOut_ex, fCall_ap, fDct0_ap, dIterL_l, dIterL_t, iLT_ap, iR1_ap, iR2_ap, iEn_ap, iZp_ap, vLR1_ap, sNx_ap, sAsg_ap, sRet_ap, sExp_ap, sIf_ap, sFor_ap, oNx_s, sTgt_ap, fzE_s, sFz_ap, sRaise_ap, res_nx, res_rt, res_ex, st0, List.map_cons, List.map_nil, List.length_cons, List.length_nil, List.replicate_succ, List.replicate_zero, List.cons_append, List.nil_append, List.append_nil, List.getElem?_cons_zero, List.getElem?_cons_succ, List.set_cons_zero, List.set_cons_succ, Option.bind_some, Option.map_some, dTru, at_t0, at_t1, at_t2, at_t3, at_l0, at_l1, at_l2, at_l3, eq_int, ne_int, lt_int, gt_int, le_int, ge_int, add_int, sub_int, int_int, int_bool, len_l, len_t, len_scr, dListOf, dTupOf, decide_eq_true_eq, List.length_map, Nat.reduceAdd, Nat.reduceSub, Nat.reduceLeDiff, Nat.zero_add, if_true, if_false, ↓reduceIte, Bool.false_eq_true, Bool.not_true, Bool.not_false, fIn_ap, fGet_ap, inT_f, inT_t, gtT_s, key_i, isS_s, isS_n, map_none, sum_int, all_b, any_b, isi_int, isi_intb, isi_list, sTry_ap, tryE_ex, tryE_nx, tryE_rt, tryC_nx, tryC_rt, tryC_f]
  · refine comp_ints (fun x => .int (V.getD x.toNat 0)) outs rfl (fun _ _ => rfl) fun x hx => ?_
    have := getD_at (h x hx)
    unfold ce_circuit_outputs_1
    simp only [runD_ap, seq_eq, then_nx, then_rt, then_ex, then_ct, then_bk, sB_ok, sB_ex, bind_ok, bind_ex, of_some, gZ_z, gB_s, gBl_l, gBl_z, gF_s, gM_s, fC_ap, fN_ap, fZ_ap, vMv_ap, fV_ap, vF_ap, oF_f, oF_l, oB_f, oB_l, osN_f, osN_l, osC_f, osC_l, o2_ap, fB_ap, fsN_ap, fsC_ap, fLst_ap, fTup_ap, fMt_ap, mtS_l, mtE_l, bB_b, bV_ap, bBo_b, bF_ap, bO_ap, bNot_ap, bAnd_ap, bOr_ap, vIf_ap, vA_b, vO_b, vAnd_ap, vOr_ap, dNot_b, fNot_ap, dNg_i, fNeg_ap, fPN_ap, dPs_i, fPS_ap, vCut_ap, fIsi_ap, rOut_ok, rOut_ex, fCall_ap, fDct0_ap, dIterL_l, dIterL_t, iLT_ap, iR1_ap, iR2_ap, iEn_ap, iZp_ap, vLR1_ap, sNx_ap, sAsg_ap, sRet_ap, sExp_ap, sIf_ap, sFor_ap, oNx_s, sTgt_ap, fzE_s, sFz_ap, sRaise_ap, res_nx, res_rt, res_ex, st0, List.map_cons, List.map_nil, List.length_cons, List.length_nil, List.replicate_succ, List.replicate_zero, List.cons_append, List.nil_append, List.append_nil, List.getElem?_cons_zero, List.getElem?_cons_succ, List.set_cons_zero, List.set_cons_succ, Option.bind_some, Option.map_some, dTru, at_t0, at_t1, at_t2, at_t3, at_l0, at_l1, at_l2, at_l3, eq_int, ne_int, lt_int, gt_int, le_int, ge_int, add_int, sub_int, int_int, int_bool, len_l, len_t, len_scr, dListOf, dTupOf, decide_eq_true_eq, List.length_map, Nat.reduceAdd, Nat.reduceSub, Nat.reduceLeDiff, Nat.zero_add, if_true, if_false, ↓reduceIte, Bool.false_eq_true, Bool.not_true, Bool.not_false, fIn_ap, fGet_ap, inT_f, inT_t, gtT_s, key_i, isS_s, isS_n, map_none, sum_int, all_b, any_b, isi_int, isi_intb, isi_list, sTry_ap, tryE_ex, tryE_nx, tryE_rt, tryC_nx, tryC_rt, tryC_f, wipeG, this]
theorem outputs_of (n w h4 : D) (outs V ins st : List Int) (e : F_cell_values [.tuple [n, w, T outs, h4], L ins, L st] = .ok (.l .z, L V)) (h : ∀ x ∈ outs, 0 ≤ x ∧ x < V.length) (hl : outs.length ≤ 1000) : F_circuit_outputs [.tuple [n, w, T outs, h4], L ins, L st] = .ok (.l .z, L (look V outs)) := by
  have e1 := co_comp n w h4 (some (.z, L ins)) (some (.z, L st)) outs V h hl
  unfold F_circuit_outputs fb_circuit_outputs
  generalize look V outs = z at *
  simp only [runD_ap, seq_eq, then_nx, then_rt, then_ex, then_ct, then_bk, sB_ok, sB_ex, bind_ok, bind_ex, of_some, gZ_z, gB_s, gBl_l, gBl_z, gF_s, gM_s, fC_ap, fN_ap, fZ_ap, vMv_ap, fV_ap, vF_ap, oF_f, oF_l, oB_f, oB_l, osN_f, osN_l, osC_f, osC_l, o2_ap, fB_ap, fsN_ap, fsC_ap, fLst_ap, fTup_ap, fMt_ap, mtS_l, mtE_l, bB_b, bV_ap, bBo_b, bF_ap, bO_ap, bNot_ap, bAnd_ap, bOr_ap, vIf_ap, vA_b, vO_b, vAnd_ap, vOr_ap, dNot_b, fNot_ap, dNg_i, fNeg_ap, fPN_ap, dPs_i, fPS_ap, vCut_ap, fIsi_ap, rOut_ok, rOut_ex, fCall_ap, fDct0_ap, dIterL_l, dIterL_t, iLT_ap, iR1_ap, iR2_ap, iEn_ap, iZp_ap, vLR1_ap, sNx_ap, sAsg_ap, sRet_ap, sExp_ap, sIf_ap, sFor_ap, oNx_s, sTgt_ap, fzE_s, sFz_ap, sRaise_ap, res_nx, res_rt, res_ex, st0, List.map_cons, List.map_nil, List.length_cons, List.length_nil, List.replicate_succ, List.replicate_zero, List.cons_append, List.nil_append, List.append_nil, List.getElem?_cons_zero, List.getElem?_cons_succ, List.set_cons_zero, List.set_cons_succ, Option.bind_some, Option.map_some, dTru, at_t0, at_t1, at_t2, at_t3, at_l0, at_l1, at_l2, at_l3, eq_int, ne_int, lt_int, gt_int, le_int, ge_int, add_int, sub_int, int_int, int_bool, len_l, len_t, len_scr, dListOf, dTupOf, decide_eq_true_eq, List.length_map, Nat.reduceAdd, Nat.reduceSub, Nat.reduceLeDiff, Nat.zero_add, if_true, if_false, ↓reduceIte, Bool.false_eq_true, Bool.not_true, Bool.not_false, fIn_ap, fGet_ap, inT_f, inT_t, gtT_s, key_i, isS_s, isS_n, map_none, sum_int, all_b, any_b, isi_int, isi_intb, isi_list, sTry_ap, tryE_ex, tryE_nx, tryE_rt, tryC_nx, tryC_rt, tryC_f, e, e1]
theorem outputs_bad (c ins st : D) (e : F_cell_values [c, ins, st] = .ex bad) : F_circuit_outputs [c, ins, st] = .ex bad := by
  unfold F_circuit_outputs fb_circuit_outputs
  simp only [runD_ap, seq_eq, then_nx, then_rt, then_ex, then_ct, then_bk, sB_ok, sB_ex, bind_ok, bind_ex, of_some, gZ_z, gB_s, gBl_l, gBl_z, gF_s, gM_s, fC_ap, fN_ap, fZ_ap, vMv_ap, fV_ap, vF_ap, oF_f, oF_l, oB_f, oB_l, osN_f, osN_l, osC_f, osC_l, o2_ap, fB_ap, fsN_ap, fsC_ap, fLst_ap, fTup_ap, fMt_ap, mtS_l, mtE_l, bB_b, bV_ap, bBo_b, bF_ap, bO_ap, bNot_ap, bAnd_ap, bOr_ap, vIf_ap, vA_b, vO_b, vAnd_ap, vOr_ap, dNot_b, fNot_ap, dNg_i, fNeg_ap, fPN_ap, dPs_i, fPS_ap, vCut_ap, fIsi_ap, rOut_ok, rOut_ex, fCall_ap, fDct0_ap, dIterL_l, dIterL_t, iLT_ap, iR1_ap, iR2_ap, iEn_ap, iZp_ap, vLR1_ap, sNx_ap, sAsg_ap, sRet_ap, sExp_ap, sIf_ap, sFor_ap, oNx_s, sTgt_ap, fzE_s, sFz_ap, sRaise_ap, res_nx, res_rt, res_ex, st0, List.map_cons, List.map_nil, List.length_cons, List.length_nil, List.replicate_succ, List.replicate_zero, List.cons_append, List.nil_append, List.append_nil, List.getElem?_cons_zero, List.getElem?_cons_succ, List.set_cons_zero, List.set_cons_succ, Option.bind_some, Option.map_some, dTru, at_t0, at_t1, at_t2, at_t3, at_l0, at_l1, at_l2, at_l3, eq_int, ne_int, lt_int, gt_int, le_int, ge_int, add_int, sub_int, int_int, int_bool, len_l, len_t, len_scr, dListOf, dTupOf, decide_eq_true_eq, List.length_map, Nat.reduceAdd, Nat.reduceSub, Nat.reduceLeDiff, Nat.zero_add, if_true, if_false, ↓reduceIte, Bool.false_eq_true, Bool.not_true, Bool.not_false, fIn_ap, fGet_ap, inT_f, inT_t, gtT_s, key_i, isS_s, isS_n, map_none, sum_int, all_b, any_b, isi_int, isi_intb, isi_list, sTry_ap, tryE_ex, tryE_nx, tryE_rt, tryC_nx, tryC_rt, tryC_f, e]
theorem next_bad (c ins st : D) (e : F_cell_values [c, ins, st] = .ex bad) : F_circuit_next [c, ins, st] = .ex bad := by
  unfold F_circuit_next fb_circuit_next
  simp only [runD_ap, seq_eq, then_nx, then_rt, then_ex, then_ct, then_bk, sB_ok, sB_ex, bind_ok, bind_ex, of_some, gZ_z, gB_s, gBl_l, gBl_z, gF_s, gM_s, fC_ap, fN_ap, fZ_ap, vMv_ap, fV_ap, vF_ap, oF_f, oF_l, oB_f, oB_l, osN_f, osN_l, osC_f, osC_l, o2_ap, fB_ap, fsN_ap, fsC_ap, fLst_ap, fTup_ap, fMt_ap, mtS_l, mtE_l, bB_b, bV_ap, bBo_b, bF_ap, bO_ap, bNot_ap, bAnd_ap, bOr_ap, vIf_ap, vA_b, vO_b, vAnd_ap, vOr_ap, dNot_b, fNot_ap, dNg_i, fNeg_ap, fPN_ap, dPs_i, fPS_ap, vCut_ap, fIsi_ap, rOut_ok, rOut_ex, fCall_ap, fDct0_ap, dIterL_l, dIterL_t, iLT_ap, iR1_ap, iR2_ap, iEn_ap, iZp_ap, vLR1_ap, sNx_ap, sAsg_ap, sRet_ap, sExp_ap, sIf_ap, sFor_ap, oNx_s, sTgt_ap, fzE_s, sFz_ap, sRaise_ap, res_nx, res_rt, res_ex, st0, List.map_cons, List.map_nil, List.length_cons, List.length_nil, List.replicate_succ, List.replicate_zero, List.cons_append, List.nil_append, List.append_nil, List.getElem?_cons_zero, List.getElem?_cons_succ, List.set_cons_zero, List.set_cons_succ, Option.bind_some, Option.map_some, dTru, at_t0, at_t1, at_t2, at_t3, at_l0, at_l1, at_l2, at_l3, eq_int, ne_int, lt_int, gt_int, le_int, ge_int, add_int, sub_int, int_int, int_bool, len_l, len_t, len_scr, dListOf, dTupOf, decide_eq_true_eq, List.length_map, Nat.reduceAdd, Nat.reduceSub, Nat.reduceLeDiff, Nat.zero_add, if_true, if_false, ↓reduceIte, Bool.false_eq_true, Bool.not_true, Bool.not_false, fIn_ap, fGet_ap, inT_f, inT_t, gtT_s, key_i, isS_s, isS_n, map_none, sum_int, all_b, any_b, isi_int, isi_intb, isi_list, sTry_ap, tryE_ex, tryE_nx, tryE_rt, tryC_nx, tryC_rt, tryC_f, e]
def nxt (V : List Int) (cs : List Cell) : List Int := (lats cs).map fun c => V.getD (c.2.1.headD 0).toNat 0
def fD (V : List Int) (d : D) : D := match d with | .tuple [_, .tuple (.int s :: _), _] => .int (V.getD s.toNat 0) | _ => .none
theorem nxt_eq (V : List Int) (cs : List Cell) (h : ∀ c ∈ cs, c.1 = S "latch" → ∃ s, c.2.1 = [s] ∧ 0 ≤ s ∧ s < (V.length : Int)) : ((lats cs).map cellD).map (fD V) = (nxt V cs).map .int := by
  unfold nxt
  rw [List.map_map, List.map_map]
  refine List.map_congr_left fun c hc => ?_
  obtain ⟨hm, hq⟩ := List.mem_filter.mp hc
  obtain ⟨s, e, _⟩ := h c hm (of_decide_eq_true hq)
  obtain ⟨k, sr, nt⟩ := c
  dsimp only at e
  subst e
  rfl
theorem cn_comp (n outs h4 : D) (cs : List Cell) (a b : Option Va) (V : List Int) (h : ∀ c ∈ cs, c.1 = S "latch" → ∃ s, c.2.1 = [s] ∧ 0 ≤ s ∧ s < (V.length : Int)) (hl : cs.length ≤ 1000) :
    vComp [4] (iLT (fV (fCall 1 F_latch_cells (fsC (fN 0) fsN)))) (gN 4) bYes ce_circuit_next_1 [some (.z, .tuple [n, .tuple (cs.map cellD), outs, h4]), a, b, some (.z, L V), none] = .ok (.l .z, L (nxt V cs)) [some (.z, .tuple [n, .tuple (cs.map cellD), outs, h4]), a, b, some (.z, L V), none] := by
  have e0 := latch_cells_ok n outs h4 cs hl
  have e := nxt_eq V cs h
  unfold L
  rw [← e]
  have hlen : ((lats cs).map cellD).length ≤ 16777216 := by
    rw [List.length_map]
    have := List.length_filter_le (fun c : Cell => decide (c.1 = S "latch")) cs
    show (cs.filter fun c => decide (c.1 = S "latch")).length ≤ _
    omega
  refine comp_ok (ds := (lats cs).map cellD) ?_ hlen ?_ rfl
  · generalize (lats cs).map cellD = y at *
    generalize cs.map cellD = w at *
    simp only [runD_ap, seq_eq, then_nx, then_rt, then_ex, then_ct, then_bk, sB_ok, sB_ex, bind_ok, bind_ex, of_some, gZ_z, gB_s, gBl_l, gBl_z, gF_s, gM_s, fC_ap, fN_ap, fZ_ap, vMv_ap, fV_ap, vF_ap, oF_f, oF_l, oB_f, oB_l, osN_f, osN_l, osC_f, osC_l, o2_ap, fB_ap, fsN_ap, fsC_ap, fLst_ap, fTup_ap, fMt_ap, mtS_l, mtE_l, bB_b, bV_ap, bBo_b, bF_ap, bO_ap, bNot_ap, bAnd_ap, bOr_ap, vIf_ap, vA_b, vO_b, vAnd_ap, vOr_ap, dNot_b, fNot_ap, dNg_i, fNeg_ap, fPN_ap, dPs_i, fPS_ap, vCut_ap, fIsi_ap, rOut_ok, rOut_ex, fCall_ap, fDct0_ap, dIterL_l, dIterL_t, iLT_ap, iR1_ap, iR2_ap, iEn_ap, iZp_ap, vLR1_ap, sNx_ap, sAsg_ap, sRet_ap, sExp_ap, sIf_ap, sFor_ap, oNx_s, sTgt_ap, fzE_s, sFz_ap, sRaise_ap, res_nx, res_rt, res_ex, st0, List.map_cons, List.map_nil, List.length_cons, List.length_nil, List.replicate_succ, List.replicate_zero, List.cons_append, List.nil_append, List.append_nil, List.getElem?_cons_zero, List.getElem?_cons_succ, List.set_cons_zero, List.set_cons_succ, Option.bind_some, Option.map_some, dTru, at_t0, at_t1, at_t2, at_t3, at_l0, at_l1, at_l2, at_l3, eq_int, ne_int, lt_int, gt_int, le_int, ge_int, add_int, sub_int, int_int, int_bool, len_l, len_t, len_scr, dListOf, dTupOf, decide_eq_true_eq, List.length_map, Nat.reduceAdd, Nat.reduceSub, Nat.reduceLeDiff, Nat.zero_add, if_true, if_false, ↓reduceIte, Bool.false_eq_true, Bool.not_true, Bool.not_false, fIn_ap, fGet_ap, inT_f, inT_t, gtT_s, key_i, isS_s, isS_n, map_none, sum_int, all_b, any_b, isi_int, isi_intb, isi_list, sTry_ap, tryE_ex, tryE_nx, tryE_rt, tryC_nx, tryC_rt, tryC_f, e0]
  · have := comp_gen (is := [4]) (t := gN 4) (c := bYes) (fe := ce_circuit_next_1) (Γ := [some (.z, .tuple [n, .tuple (cs.map cellD), outs, h4]), a, b, some (.z, L V), none]) (fD V) (fun _ => true) ((lats cs).map cellD) (fun d hd => by
        obtain ⟨c, hc, rfl⟩ := List.mem_map.mp hd
        obtain ⟨hm, hq⟩ := List.mem_filter.mp hc
        obtain ⟨s, e, hs⟩ := h c hm (of_decide_eq_true hq)
        obtain ⟨k, sr, nt⟩ := c
        dsimp only at e
        subst e
        have ev := getD_at hs
        generalize cs.map cellD = w
        refine ⟨_, rfl, rfl, fun _ => ?_, rfl⟩
        unfold ce_circuit_next_1
        show fV _ [some (.z, .tuple [n, .tuple w, outs, h4]), a, b, some (.z, L V), some (.z, .tuple [.str k, .tuple [.int s], .int nt])] = .ok (.int (V.getD s.toNat 0)) [some (.z, .tuple [n, .tuple w, outs, h4]), a, b, some (.z, L V), some (.z, .tuple [.str k, .tuple [.int s], .int nt])]
        simp only [runD_ap, seq_eq, then_nx, then_rt, then_ex, then_ct, then_bk, sB_ok, sB_ex, bind_ok, bind_ex, of_some, gZ_z, gB_s, gBl_l, gBl_z, gF_s, gM_s, fC_ap, fN_ap, fZ_ap, vMv_ap, fV_ap, vF_ap, oF_f, oF_l, oB_f, oB_l, osN_f, osN_l, osC_f, osC_l, o2_ap, fB_ap, fsN_ap, fsC_ap, fLst_ap, fTup_ap, fMt_ap, mtS_l, mtE_l, bB_b, bV_ap, bBo_b, bF_ap, bO_ap, bNot_ap, bAnd_ap, bOr_ap, vIf_ap, vA_b, vO_b, vAnd_ap, vOr_ap, dNot_b, fNot_ap, dNg_i, fNeg_ap, fPN_ap, dPs_i, fPS_ap, vCut_ap, fIsi_ap, rOut_ok, rOut_ex, fCall_ap, fDct0_ap, dIterL_l, dIterL_t, iLT_ap, iR1_ap, iR2_ap, iEn_ap, iZp_ap, vLR1_ap, sNx_ap, sAsg_ap, sRet_ap, sExp_ap, sIf_ap, sFor_ap, oNx_s, sTgt_ap, fzE_s, sFz_ap, sRaise_ap, res_nx, res_rt, res_ex, st0, List.map_cons, List.map_nil, List.length_cons, List.length_nil, List.replicate_succ, List.replicate_zero, List.cons_append, List.nil_append, List.append_nil, List.getElem?_cons_zero, List.getElem?_cons_succ, List.set_cons_zero, List.set_cons_succ, Option.bind_some, Option.map_some, dTru, at_t0, at_t1, at_t2, at_t3, at_l0, at_l1, at_l2, at_l3, eq_int, ne_int, lt_int, gt_int, le_int, ge_int, add_int, sub_int, int_int, int_bool, len_l, len_t, len_scr, dListOf, dTupOf, decide_eq_true_eq, List.length_map, Nat.reduceAdd, Nat.reduceSub, Nat.reduceLeDiff, Nat.zero_add, if_true, if_false, ↓reduceIte, Bool.false_eq_true, Bool.not_true, Bool.not_false, fIn_ap, fGet_ap, inT_f, inT_t, gtT_s, key_i, isS_s, isS_n, map_none, sum_int, all_b, any_b, isi_int, isi_intb, isi_list, sTry_ap, tryE_ex, tryE_nx, tryE_rt, tryC_nx, tryC_rt, tryC_f, ev])
    rw [List.filter_eq_self.mpr fun _ _ => rfl] at this
    exact this
theorem next_of (n outs h4 : D) (cs : List Cell) (V ins st : List Int) (e : F_cell_values [.tuple [n, .tuple (cs.map cellD), outs, h4], L ins, L st] = .ok (.l .z, L V)) (h : ∀ c ∈ cs, c.1 = S "latch" → ∃ s, c.2.1 = [s] ∧ 0 ≤ s ∧ s < (V.length : Int)) (hl : cs.length ≤ 1000) : F_circuit_next [.tuple [n, .tuple (cs.map cellD), outs, h4], L ins, L st] = .ok (.l .z, L (nxt V cs)) := by
  have e1 := cn_comp n outs h4 cs (some (.z, L ins)) (some (.z, L st)) V h hl
  unfold F_circuit_next fb_circuit_next
  generalize nxt V cs = z at *
  generalize cs.map cellD = w at *
  simp only [runD_ap, seq_eq, then_nx, then_rt, then_ex, then_ct, then_bk, sB_ok, sB_ex, bind_ok, bind_ex, of_some, gZ_z, gB_s, gBl_l, gBl_z, gF_s, gM_s, fC_ap, fN_ap, fZ_ap, vMv_ap, fV_ap, vF_ap, oF_f, oF_l, oB_f, oB_l, osN_f, osN_l, osC_f, osC_l, o2_ap, fB_ap, fsN_ap, fsC_ap, fLst_ap, fTup_ap, fMt_ap, mtS_l, mtE_l, bB_b, bV_ap, bBo_b, bF_ap, bO_ap, bNot_ap, bAnd_ap, bOr_ap, vIf_ap, vA_b, vO_b, vAnd_ap, vOr_ap, dNot_b, fNot_ap, dNg_i, fNeg_ap, fPN_ap, dPs_i, fPS_ap, vCut_ap, fIsi_ap, rOut_ok, rOut_ex, fCall_ap, fDct0_ap, dIterL_l, dIterL_t, iLT_ap, iR1_ap, iR2_ap, iEn_ap, iZp_ap, vLR1_ap, sNx_ap, sAsg_ap, sRet_ap, sExp_ap, sIf_ap, sFor_ap, oNx_s, sTgt_ap, fzE_s, sFz_ap, sRaise_ap, res_nx, res_rt, res_ex, st0, List.map_cons, List.map_nil, List.length_cons, List.length_nil, List.replicate_succ, List.replicate_zero, List.cons_append, List.nil_append, List.append_nil, List.getElem?_cons_zero, List.getElem?_cons_succ, List.set_cons_zero, List.set_cons_succ, Option.bind_some, Option.map_some, dTru, at_t0, at_t1, at_t2, at_t3, at_l0, at_l1, at_l2, at_l3, eq_int, ne_int, lt_int, gt_int, le_int, ge_int, add_int, sub_int, int_int, int_bool, len_l, len_t, len_scr, dListOf, dTupOf, decide_eq_true_eq, List.length_map, Nat.reduceAdd, Nat.reduceSub, Nat.reduceLeDiff, Nat.zero_add, if_true, if_false, ↓reduceIte, Bool.false_eq_true, Bool.not_true, Bool.not_false, fIn_ap, fGet_ap, inT_f, inT_t, gtT_s, key_i, isS_s, isS_n, map_none, sum_int, all_b, any_b, isi_int, isi_intb, isi_list, sTry_ap, tryE_ex, tryE_nx, tryE_rt, tryC_nx, tryC_rt, tryC_f, e, e1]
end K31
namespace K31
open PySem PV
theorem ib_turn (a b : Option Va) (x : Int) (h : x = 0 ∨ x = 1) : lb_law_is_bits_1 [a, b, some (.z, .int x)] = .nx [a, b, some (.z, .int x)] := by
  have e : F_law_is_integer [.int x] = .ok (.z, .bool true) := by
    unfold F_law_is_integer fb_law_is_integer
    simp only [runD_ap, seq_eq, then_nx, then_rt, then_ex, then_ct, then_bk, sB_ok, sB_ex, bind_ok, bind_ex, of_some, gZ_z, gB_s, gBl_l, gBl_z, gF_s, gM_s, fC_ap, fN_ap, fZ_ap, vMv_ap, fV_ap, vF_ap, oF_f, oF_l, oB_f, oB_l, osN_f, osN_l, osC_f, osC_l, o2_ap, fB_ap, fsN_ap, fsC_ap, fLst_ap, fTup_ap, fMt_ap, mtS_l, mtE_l, bB_b, bV_ap, bBo_b, bF_ap, bO_ap, bNot_ap, bAnd_ap, bOr_ap, vIf_ap, vA_b, vO_b, vAnd_ap, vOr_ap, dNot_b, fNot_ap, dNg_i, fNeg_ap, fPN_ap, dPs_i, fPS_ap, vCut_ap, fIsi_ap, rOut_ok, rOut_ex, fCall_ap, fDct0_ap, dIterL_l, dIterL_t, iLT_ap, iR1_ap, iR2_ap, iEn_ap, iZp_ap, vLR1_ap, sNx_ap, sAsg_ap, sRet_ap, sExp_ap, sIf_ap, sFor_ap, oNx_s, sTgt_ap, fzE_s, sFz_ap, sRaise_ap, res_nx, res_rt, res_ex, st0, List.map_cons, List.map_nil, List.length_cons, List.length_nil, List.replicate_succ, List.replicate_zero, List.cons_append, List.nil_append, List.append_nil, List.getElem?_cons_zero, List.getElem?_cons_succ, List.set_cons_zero, List.set_cons_succ, Option.bind_some, Option.map_some, dTru, at_t0, at_t1, at_t2, at_t3, at_l0, at_l1, at_l2, at_l3, eq_int, ne_int, lt_int, gt_int, le_int, ge_int, add_int, sub_int, int_int, int_bool, len_l, len_t, len_scr, dListOf, dTupOf, decide_eq_true_eq, List.length_map, Nat.reduceAdd, Nat.reduceSub, Nat.reduceLeDiff, Nat.zero_add, if_true, if_false, ↓reduceIte, Bool.false_eq_true, Bool.not_true, Bool.not_false, fIn_ap, fGet_ap, inT_f, inT_t, gtT_s, key_i, isS_s, isS_n, map_none, sum_int, all_b, any_b, isi_int, isi_intb, isi_list, sTry_ap, tryE_ex, tryE_nx, tryE_rt, tryC_nx, tryC_rt, tryC_f]
  unfold lb_law_is_bits_1
  simp only [runD_ap, seq_eq, then_nx, then_rt, then_ex, then_ct, then_bk, sB_ok, sB_ex, bind_ok, bind_ex, of_some, gZ_z, gB_s, gBl_l, gBl_z, gF_s, gM_s, fC_ap, fN_ap, fZ_ap, vMv_ap, fV_ap, vF_ap, oF_f, oF_l, oB_f, oB_l, osN_f, osN_l, osC_f, osC_l, o2_ap, fB_ap, fsN_ap, fsC_ap, fLst_ap, fTup_ap, fMt_ap, mtS_l, mtE_l, bB_b, bV_ap, bBo_b, bF_ap, bO_ap, bNot_ap, bAnd_ap, bOr_ap, vIf_ap, vA_b, vO_b, vAnd_ap, vOr_ap, dNot_b, fNot_ap, dNg_i, fNeg_ap, fPN_ap, dPs_i, fPS_ap, vCut_ap, fIsi_ap, rOut_ok, rOut_ex, fCall_ap, fDct0_ap, dIterL_l, dIterL_t, iLT_ap, iR1_ap, iR2_ap, iEn_ap, iZp_ap, vLR1_ap, sNx_ap, sAsg_ap, sRet_ap, sExp_ap, sIf_ap, sFor_ap, oNx_s, sTgt_ap, fzE_s, sFz_ap, sRaise_ap, res_nx, res_rt, res_ex, st0, List.map_cons, List.map_nil, List.length_cons, List.length_nil, List.replicate_succ, List.replicate_zero, List.cons_append, List.nil_append, List.append_nil, List.getElem?_cons_zero, List.getElem?_cons_succ, List.set_cons_zero, List.set_cons_succ, Option.bind_some, Option.map_some, dTru, at_t0, at_t1, at_t2, at_t3, at_l0, at_l1, at_l2, at_l3, eq_int, ne_int, lt_int, gt_int, le_int, ge_int, add_int, sub_int, int_int, int_bool, len_l, len_t, len_scr, dListOf, dTupOf, decide_eq_true_eq, List.length_map, Nat.reduceAdd, Nat.reduceSub, Nat.reduceLeDiff, Nat.zero_add, if_true, if_false, ↓reduceIte, Bool.false_eq_true, Bool.not_true, Bool.not_false, fIn_ap, fGet_ap, inT_f, inT_t, gtT_s, key_i, isS_s, isS_n, map_none, sum_int, all_b, any_b, isi_int, isi_intb, isi_list, sTry_ap, tryE_ex, tryE_nx, tryE_rt, tryC_nx, tryC_rt, tryC_f, e, decide_eq_false (show ¬ x < 0 by omega), decide_eq_false (show ¬ 1 < x by omega)]
theorem ib_loop (a b : Option Va) : ∀ (bs : List Int) (x : Option Va), B01 bs → ∃ x', sForL (gN 2) lb_law_is_bits_1 (bs.map .int) [a, b, x] = .nx [a, b, x']
  | [], x, _ => ⟨x, rfl⟩
  | y :: bs, x, h => by
    rw [List.map_cons]
    unfold sForL
    rw [show gN 2 (.int y) [a, b, x] = some [a, b, some (.z, .int y)] from rfl]
    dsimp only
    rw [ib_turn _ _ _ (h y (List.mem_cons_self ..))]
    exact ib_loop a b bs _ fun b hb => h b (List.mem_cons_of_mem _ hb)
theorem is_bits_ok (bs : List Int) (n : Int) (h : (bs.length : Int) = n) (h2 : B01 bs) : F_law_is_bits [L bs, .int n] = .ok (.z, .bool true) := by
  obtain ⟨x', e⟩ := ib_loop (some (.z, L bs)) (some (.z, .int n)) bs none h2
  unfold F_law_is_bits fb_law_is_bits
  simp only [runD_ap, seq_eq, then_nx, then_rt, then_ex, then_ct, then_bk, sB_ok, sB_ex, bind_ok, bind_ex, of_some, gZ_z, gB_s, gBl_l, gBl_z, gF_s, gM_s, fC_ap, fN_ap, fZ_ap, vMv_ap, fV_ap, vF_ap, oF_f, oF_l, oB_f, oB_l, osN_f, osN_l, osC_f, osC_l, o2_ap, fB_ap, fsN_ap, fsC_ap, fLst_ap, fTup_ap, fMt_ap, mtS_l, mtE_l, bB_b, bV_ap, bBo_b, bF_ap, bO_ap, bNot_ap, bAnd_ap, bOr_ap, vIf_ap, vA_b, vO_b, vAnd_ap, vOr_ap, dNot_b, fNot_ap, dNg_i, fNeg_ap, fPN_ap, dPs_i, fPS_ap, vCut_ap, fIsi_ap, rOut_ok, rOut_ex, fCall_ap, fDct0_ap, dIterL_l, dIterL_t, iLT_ap, iR1_ap, iR2_ap, iEn_ap, iZp_ap, vLR1_ap, sNx_ap, sAsg_ap, sRet_ap, sExp_ap, sIf_ap, sFor_ap, oNx_s, sTgt_ap, fzE_s, sFz_ap, sRaise_ap, res_nx, res_rt, res_ex, st0, List.map_cons, List.map_nil, List.length_cons, List.length_nil, List.replicate_succ, List.replicate_zero, List.cons_append, List.nil_append, List.append_nil, List.getElem?_cons_zero, List.getElem?_cons_succ, List.set_cons_zero, List.set_cons_succ, Option.bind_some, Option.map_some, dTru, at_t0, at_t1, at_t2, at_t3, at_l0, at_l1, at_l2, at_l3, eq_int, ne_int, lt_int, gt_int, le_int, ge_int, add_int, sub_int, int_int, int_bool, len_l, len_t, len_scr, dListOf, dTupOf, decide_eq_true_eq, List.length_map, Nat.reduceAdd, Nat.reduceSub, Nat.reduceLeDiff, Nat.zero_add, if_true, if_false, ↓reduceIte, Bool.false_eq_true, Bool.not_true, Bool.not_false, fIn_ap, fGet_ap, inT_f, inT_t, gtT_s, key_i, isS_s, isS_n, map_none, sum_int, all_b, any_b, isi_int, isi_intb, isi_list, sTry_ap, tryE_ex, tryE_nx, tryE_rt, tryC_nx, tryC_rt, tryC_f, h, decide_true, e]
theorem rc_comp1 (n outs h4 : D) (cs : List Cell) (a b c d : Option Va) (V : List Int) (h : ∀ c ∈ cs, c.1 = S "latch" → ∃ s, c.2.1 = [s] ∧ 0 ≤ s ∧ s < (V.length : Int)) (hl : cs.length ≤ 1000) :
    vComp [7] (iLT (fV (o2 dAt (oF (fN 0)) (oF (fC (.int 1)))))) (gN 7) cc_law_right_case_1 ce_law_right_case_1 [some (.z, .tuple [n, .tuple (cs.map cellD), outs, h4]), a, b, some (.z, L V), c, d, none, none, none] = .ok (.l .z, L (nxt V cs)) [some (.z, .tuple [n, .tuple (cs.map cellD), outs, h4]), a, b, some (.z, L V), c, d, none, none, none] := by
  have e := nxt_eq V cs h
  unfold L
  rw [← e]
  refine comp_ok (ds := cs.map cellD) ?_ (by rw [List.length_map]; omega) ?_ rfl
  · generalize cs.map cellD = w at *
    simp only [runD_ap, seq_eq, then_nx, then_rt, then_ex, then_ct, then_bk, sB_ok, sB_ex, bind_ok, bind_ex, of_some, gZ_z, gB_s, gBl_l, gBl_z, gF_s, gM_s, fC_ap, fN_ap, fZ_ap, vMv_ap, fV_ap, vF_ap, oF_f, oF_l, oB_f, oB_l, osN_f, osN_l, osC_f, osC_l, o2_ap, fB_ap, fsN_ap, fsC_ap, fLst_ap, fTup_ap, fMt_ap, mtS_l, mtE_l, bB_b, bV_ap, bBo_b, bF_ap, bO_ap, bNot_ap, bAnd_ap, bOr_ap, vIf_ap, vA_b, vO_b, vAnd_ap, vOr_ap, dNot_b, fNot_ap, dNg_i, fNeg_ap, fPN_ap, dPs_i, fPS_ap, vCut_ap, fIsi_ap, rOut_ok, rOut_ex, fCall_ap, fDct0_ap, dIterL_l, dIterL_t, iLT_ap, iR1_ap, iR2_ap, iEn_ap, iZp_ap, vLR1_ap, sNx_ap, sAsg_ap, sRet_ap, sExp_ap, sIf_ap, sFor_ap, oNx_s, sTgt_ap, fzE_s, sFz_ap, sRaise_ap, res_nx, res_rt, res_ex, st0, List.map_cons, List.map_nil, List.length_cons, List.length_nil, List.replicate_succ, List.replicate_zero, List.cons_append, List.nil_append, List.append_nil, List.getElem?_cons_zero, List.getElem?_cons_succ, List.set_cons_zero, List.set_cons_succ, Option.bind_some, Option.map_some, dTru, at_t0, at_t1, at_t2, at_t3, at_l0, at_l1, at_l2, at_l3, eq_int, ne_int, lt_int, gt_int, le_int, ge_int, add_int, sub_int, int_int, int_bool, len_l, len_t, len_scr, dListOf, dTupOf, decide_eq_true_eq, List.length_map, Nat.reduceAdd, Nat.reduceSub, Nat.reduceLeDiff, Nat.zero_add, if_true, if_false, ↓reduceIte, Bool.false_eq_true, Bool.not_true, Bool.not_false, fIn_ap, fGet_ap, inT_f, inT_t, gtT_s, key_i, isS_s, isS_n, map_none, sum_int, all_b, any_b, isi_int, isi_intb, isi_list, sTry_ap, tryE_ex, tryE_nx, tryE_rt, tryC_nx, tryC_rt, tryC_f]
  · have := comp_gen (is := [7]) (t := gN 7) (c := cc_law_right_case_1) (fe := ce_law_right_case_1) (Γ := [some (.z, .tuple [n, .tuple (cs.map cellD), outs, h4]), a, b, some (.z, L V), c, d, none, none, none]) (fD V) isL (cs.map cellD) (fun dd hd => by
        obtain ⟨⟨k, sr, nt⟩, hc, rfl⟩ := List.mem_map.mp hd
        have hh := h _ hc
        generalize cs.map cellD = w
        refine ⟨_, rfl, ?_, fun q => ?_, rfl⟩
        · unfold cc_law_right_case_1
          show bV _ [some (.z, .tuple [n, .tuple w, outs, h4]), a, b, some (.z, L V), c, d, none, some (.z, .tuple [.str k, T sr, .int nt]), none] = .ok (decide (k = S "latch")) [some (.z, .tuple [n, .tuple w, outs, h4]), a, b, some (.z, L V), c, d, none, some (.z, .tuple [.str k, T sr, .int nt]), none]
          simp only [runD_ap, seq_eq, then_nx, then_rt, then_ex, then_ct, then_bk, sB_ok, sB_ex, bind_ok, bind_ex, of_some, gZ_z, gB_s, gBl_l, gBl_z, gF_s, gM_s, fC_ap, fN_ap, fZ_ap, vMv_ap, fV_ap, vF_ap, oF_f, oF_l, oB_f, oB_l, osN_f, osN_l, osC_f, osC_l, o2_ap, fB_ap, fsN_ap, fsC_ap, fLst_ap, fTup_ap, fMt_ap, mtS_l, mtE_l, bB_b, bV_ap, bBo_b, bF_ap, bO_ap, bNot_ap, bAnd_ap, bOr_ap, vIf_ap, vA_b, vO_b, vAnd_ap, vOr_ap, dNot_b, fNot_ap, dNg_i, fNeg_ap, fPN_ap, dPs_i, fPS_ap, vCut_ap, fIsi_ap, rOut_ok, rOut_ex, fCall_ap, fDct0_ap, dIterL_l, dIterL_t, iLT_ap, iR1_ap, iR2_ap, iEn_ap, iZp_ap, vLR1_ap, sNx_ap, sAsg_ap, sRet_ap, sExp_ap, sIf_ap, sFor_ap, oNx_s, sTgt_ap, fzE_s, sFz_ap, sRaise_ap, res_nx, res_rt, res_ex, st0, List.map_cons, List.map_nil, List.length_cons, List.length_nil, List.replicate_succ, List.replicate_zero, List.cons_append, List.nil_append, List.append_nil, List.getElem?_cons_zero, List.getElem?_cons_succ, List.set_cons_zero, List.set_cons_succ, Option.bind_some, Option.map_some, dTru, at_t0, at_t1, at_t2, at_t3, at_l0, at_l1, at_l2, at_l3, eq_int, ne_int, lt_int, gt_int, le_int, ge_int, add_int, sub_int, int_int, int_bool, len_l, len_t, len_scr, dListOf, dTupOf, decide_eq_true_eq, List.length_map, Nat.reduceAdd, Nat.reduceSub, Nat.reduceLeDiff, Nat.zero_add, if_true, if_false, ↓reduceIte, Bool.false_eq_true, Bool.not_true, Bool.not_false, fIn_ap, fGet_ap, inT_f, inT_t, gtT_s, key_i, isS_s, isS_n, map_none, sum_int, all_b, any_b, isi_int, isi_intb, isi_list, sTry_ap, tryE_ex, tryE_nx, tryE_rt, tryC_nx, tryC_rt, tryC_f, eq_str]
        · obtain ⟨s, e, hs⟩ := hh (of_decide_eq_true q)
          dsimp only at e
          subst e
          have ev := getD_at hs
          unfold ce_law_right_case_1
          show fV _ [some (.z, .tuple [n, .tuple w, outs, h4]), a, b, some (.z, L V), c, d, none, some (.z, .tuple [.str k, .tuple [.int s], .int nt]), none] = .ok (.int (V.getD s.toNat 0)) [some (.z, .tuple [n, .tuple w, outs, h4]), a, b, some (.z, L V), c, d, none, some (.z, .tuple [.str k, .tuple [.int s], .int nt]), none]
          simp only [runD_ap, seq_eq, then_nx, then_rt, then_ex, then_ct, then_bk, sB_ok, sB_ex, bind_ok, bind_ex, of_some, gZ_z, gB_s, gBl_l, gBl_z, gF_s, gM_s, fC_ap, fN_ap, fZ_ap, vMv_ap, fV_ap, vF_ap, oF_f, oF_l, oB_f, oB_l, osN_f, osN_l, osC_f, osC_l, o2_ap, fB_ap, fsN_ap, fsC_ap, fLst_ap, fTup_ap, fMt_ap, mtS_l, mtE_l, bB_b, bV_ap, bBo_b, bF_ap, bO_ap, bNot_ap, bAnd_ap, bOr_ap, vIf_ap, vA_b, vO_b, vAnd_ap, vOr_ap, dNot_b, fNot_ap, dNg_i, fNeg_ap, fPN_ap, dPs_i, fPS_ap, vCut_ap, fIsi_ap, rOut_ok, rOut_ex, fCall_ap, fDct0_ap, dIterL_l, dIterL_t, iLT_ap, iR1_ap, iR2_ap, iEn_ap, iZp_ap, vLR1_ap, sNx_ap, sAsg_ap, sRet_ap, sExp_ap, sIf_ap, sFor_ap, oNx_s, sTgt_ap, fzE_s, sFz_ap, sRaise_ap, res_nx, res_rt, res_ex, st0, List.map_cons, List.map_nil, List.length_cons, List.length_nil, List.replicate_succ, List.replicate_zero, List.cons_append, List.nil_append, List.append_nil, List.getElem?_cons_zero, List.getElem?_cons_succ, List.set_cons_zero, List.set_cons_succ, Option.bind_some, Option.map_some, dTru, at_t0, at_t1, at_t2, at_t3, at_l0, at_l1, at_l2, at_l3, eq_int, ne_int, lt_int, gt_int, le_int, ge_int, add_int, sub_int, int_int, int_bool, len_l, len_t, len_scr, dListOf, dTupOf, decide_eq_true_eq, List.length_map, Nat.reduceAdd, Nat.reduceSub, Nat.reduceLeDiff, Nat.zero_add, if_true, if_false, ↓reduceIte, Bool.false_eq_true, Bool.not_true, Bool.not_false, fIn_ap, fGet_ap, inT_f, inT_t, gtT_s, key_i, isS_s, isS_n, map_none, sum_int, all_b, any_b, isi_int, isi_intb, isi_list, sTry_ap, tryE_ex, tryE_nx, tryE_rt, tryC_nx, tryC_rt, tryC_f, ev])
    rw [filt] at this
    exact this
theorem rc_comp2 (n w h4 : D) (a b c d e' f : Option Va) (outs V : List Int) (h : ∀ x ∈ outs, 0 ≤ x ∧ x < V.length) (hl : outs.length ≤ 1000) :
    vComp [8] (iLT (fV (o2 dAt (oF (fN 0)) (oF (fC (.int 2)))))) (gN 8) bYes ce_law_right_case_2 [some (.z, .tuple [n, w, T outs, h4]), a, b, some (.z, L V), c, d, e', f, none] = .ok (.l .z, L (look V outs)) [some (.z, .tuple [n, w, T outs, h4]), a, b, some (.z, L V), c, d, e', f, none] := by
  have e : L (look V outs) = .list (outs.map fun x => .int (V.getD x.toNat 0)) := by
    unfold L look
    rw [List.map_map]
    rfl
  rw [e]
  refine comp_ok (ds := outs.map .int) ?_ (by rw [List.length_map]; omega) ?_ rfl
  · simp only [runD_ap, seq_eq, then_nx, then_rt, then_ex, then_ct, then_bk, sB_ok, sB_ex, bind_ok, bind_ex, of_some, gZ_z, gB_s, gBl_l, gBl_z, gF_s, gM_s, fC_ap, fN_ap, fZ_ap, vMv_ap, fV_ap, vF_ap, oF_f, oF_l, oB_f, oB_l, osN_f, osN_l, osC_f, osC_l, o2_ap, fB_ap, fsN_ap, fsC_ap, fLst_ap, fTup_ap, fMt_ap, mtS_l, mtE_l, bB_b, bV_ap, bBo_b, bF_ap, bO_ap, bNot_ap, bAnd_ap, bOr_ap, vIf_ap, vA_b, vO_b, vAnd_ap, vOr_ap, dNot_b, fNot_ap, dNg_i, fNeg_ap, fPN_ap, dPs_i, fPS_ap, vCut_ap, fIsi_ap, rOut_ok, rOut_ex, fCall_ap, fDct0_ap, dIterL_l, dIterL_t, iLT_ap, iR1_ap, iR2_ap, iEn_ap, iZp_ap, vLR1_ap, sNx_ap, sAsg_ap, sRet_ap, sExp_ap, sIf_ap, sFor_ap, oNx_s, sTgt_ap, fzE_s, sFz_ap, sRaise_ap, res_nx, res_rt, res_ex, st0, List.map_cons, List.map_nil, List.length_cons, List.length_nil, List.replicate_succ, List.replicate_zero, List.cons_append, List.nil_append, List.append_nil, List.getElem?_cons_zero, List.getElem?_cons_succ, List.set_cons_zero, List.set_cons_succ, Option.bind_some, Option.map_some, dTru, at_t0, at_t1, at_t2, at_t3, at_l0, at_l1, at_l2, at_l3, eq_int, ne_int, lt_int, gt_int, le_int, ge_int, add_int, sub_int, int_int, int_bool, len_l, len_t, len_scr, dListOf, dTupOf, decide_eq_true_eq, List.length_map, Nat.reduceAdd, Nat.reduceSub, Nat.reduceLeDiff, Nat.zero_add, if_true, if_false, ↓reduceIte, Bool.false_eq_true, Bool.not_true, Bool.not_false, fIn_ap, fGet_ap, inT_f, inT_t, gtT_s, key_i, isS_s, isS_n, map_none, sum_int, all_b, any_b, isi_int, isi_intb, isi_list, sTry_ap, tryE_ex, tryE_nx, tryE_rt, tryC_nx, tryC_rt, tryC_f]
  · refine comp_ints (fun x => .int (V.getD x.toNat 0)) outs rfl (fun _ _ => rfl) fun x hx => ?_
    have := getD_at (h x hx)
    unfold ce_law_right_case_2
    simp only [runD_ap, seq_eq, then_nx, then_rt, then_ex, then_ct, then_bk, sB_ok, sB_ex, bind_ok, bind_ex, of_some, gZ_z, gB_s, gBl_l, gBl_z, gF_s, gM_s, fC_ap, fN_ap, fZ_ap, vMv_ap, fV_ap, vF_ap, oF_f, oF_l, oB_f, oB_l, osN_f, osN_l, osC_f, osC_l, o2_ap, fB_ap, fsN_ap, fsC_ap, fLst_ap, fTup_ap, fMt_ap, mtS_l, mtE_l, bB_b, bV_ap, bBo_b, bF_ap, bO_ap, bNot_ap, bAnd_ap, bOr_ap, vIf_ap, vA_b, vO_b, vAnd_ap, vOr_ap, dNot_b, fNot_ap, dNg_i, fNeg_ap, fPN_ap, dPs_i, fPS_ap, vCut_ap, fIsi_ap, rOut_ok, rOut_ex, fCall_ap, fDct0_ap, dIterL_l, dIterL_t, iLT_ap, iR1_ap, iR2_ap, iEn_ap, iZp_ap, vLR1_ap, sNx_ap, sAsg_ap, sRet_ap, sExp_ap, sIf_ap, sFor_ap, oNx_s, sTgt_ap, fzE_s, sFz_ap, sRaise_ap, res_nx, res_rt, res_ex, st0, List.map_cons, List.map_nil, List.length_cons, List.length_nil, List.replicate_succ, List.replicate_zero, List.cons_append, List.nil_append, List.append_nil, List.getElem?_cons_zero, List.getElem?_cons_succ, List.set_cons_zero, List.set_cons_succ, Option.bind_some, Option.map_some, dTru, at_t0, at_t1, at_t2, at_t3, at_l0, at_l1, at_l2, at_l3, eq_int, ne_int, lt_int, gt_int, le_int, ge_int, add_int, sub_int, int_int, int_bool, len_l, len_t, len_scr, dListOf, dTupOf, decide_eq_true_eq, List.length_map, Nat.reduceAdd, Nat.reduceSub, Nat.reduceLeDiff, Nat.zero_add, if_true, if_false, ↓reduceIte, Bool.false_eq_true, Bool.not_true, Bool.not_false, fIn_ap, fGet_ap, inT_f, inT_t, gtT_s, key_i, isS_s, isS_n, map_none, sum_int, all_b, any_b, isi_int, isi_intb, isi_list, sTry_ap, tryE_ex, tryE_nx, tryE_rt, tryC_nx, tryC_rt, tryC_f, wipeG, this]
theorem rc_ev (n w h4 : D) (outs V o nx ins st : List Int) (hV : B01 V) (ho : B01 o) (hn : B01 nx) (hol : o.length = outs.length) (hnl : nx.length = st.length)
    (e1 : F_law_values [.tuple [n, w, T outs, h4], L ins, L st] = .ok (.l .z, L V))
    (e2 : F_cell_values [.tuple [n, w, T outs, h4], L ins, L st] = .ok (.l .z, L V))
    (e3 : F_circuit_outputs [.tuple [n, w, T outs, h4], L ins, L st] = .ok (.l .z, L o))
    (e4 : F_circuit_next [.tuple [n, w, T outs, h4], L ins, L st] = .ok (.l .z, L nx))
    (e5 : ∀ a b c d, vComp [7] (iLT (fV (o2 dAt (oF (fN 0)) (oF (fC (.int 1)))))) (gN 7) cc_law_right_case_1 ce_law_right_case_1 [some (.z, .tuple [n, w, T outs, h4]), a, b, some (.z, L V), c, d, none, none, none] = .ok (.l .z, L nx) [some (.z, .tuple [n, w, T outs, h4]), a, b, some (.z, L V), c, d, none, none, none])
    (e6 : ∀ a b c d e' f, vComp [8] (iLT (fV (o2 dAt (oF (fN 0)) (oF (fC (.int 2)))))) (gN 8) bYes ce_law_right_case_2 [some (.z, .tuple [n, w, T outs, h4]), a, b, some (.z, L V), c, d, e', f, none] = .ok (.l .z, L o) [some (.z, .tuple [n, w, T outs, h4]), a, b, some (.z, L V), c, d, e', f, none]) :
    F_law_right_case [.tuple [n, w, T outs, h4], L ins, L st] = .ok (.z, .bool true) := by
  have b1 := is_bits_ok V V.length rfl hV
  have b2 := is_bits_ok o outs.length (by rw [hol]) ho
  have b3 := is_bits_ok nx st.length (by rw [hnl]) hn
  unfold F_law_right_case fb_law_right_case
  simp (disch := simp) only [runD_ap, seq_eq, then_nx, then_rt, then_ex, then_ct, then_bk, sB_ok, sB_ex, bind_ok, bind_ex, of_some, gZ_z, gB_s, gBl_l, gBl_z, gF_s, gM_s, fC_ap, fN_ap, fZ_ap, vMv_ap, fV_ap, vF_ap, oF_f, oF_l, oB_f, oB_l, osN_f, osN_l, osC_f, osC_l, o2_ap, fB_ap, fsN_ap, fsC_ap, fLst_ap, fTup_ap, fMt_ap, mtS_l, mtE_l, bB_b, bV_ap, bBo_b, bF_ap, bO_ap, bNot_ap, bAnd_ap, bOr_ap, vIf_ap, vA_b, vO_b, vAnd_ap, vOr_ap, dNot_b, fNot_ap, dNg_i, fNeg_ap, fPN_ap, dPs_i, fPS_ap, vCut_ap, fIsi_ap, rOut_ok, rOut_ex, fCall_ap, fDct0_ap, dIterL_l, dIterL_t, iLT_ap, iR1_ap, iR2_ap, iEn_ap, iZp_ap, vLR1_ap, sNx_ap, sAsg_ap, sRet_ap, sExp_ap, sIf_ap, sFor_ap, oNx_s, sTgt_ap, fzE_s, sFz_ap, sRaise_ap, res_nx, res_rt, res_ex, st0, List.map_cons, List.map_nil, List.length_cons, List.length_nil, List.replicate_succ, List.replicate_zero, List.cons_append, List.nil_append, List.append_nil, List.getElem?_cons_zero, List.getElem?_cons_succ, List.set_cons_zero, List.set_cons_succ, Option.bind_some, Option.map_some, dTru, at_t0, at_t1, at_t2, at_t3, at_l0, at_l1, at_l2, at_l3, eq_int, ne_int, lt_int, gt_int, le_int, ge_int, add_int, sub_int, int_int, int_bool, len_l, len_t, len_scr, dListOf, dTupOf, decide_eq_true_eq, List.length_map, Nat.reduceAdd, Nat.reduceSub, Nat.reduceLeDiff, Nat.zero_add, if_true, if_false, ↓reduceIte, Bool.false_eq_true, Bool.not_true, Bool.not_false, fIn_ap, fGet_ap, inT_f, inT_t, gtT_s, key_i, isS_s, isS_n, map_none, sum_int, all_b, any_b, isi_int, isi_intb, isi_list, sTry_ap, tryE_ex, tryE_nx, tryE_rt, tryC_nx, tryC_rt, tryC_f, e1, e2, e3, e4, e5, e6, b1, b2, b3, app_d, ne_LL, eq_L, decide_true]
end K31
namespace K31
open PySem PV
structure WF (d : D) (n : Nat) (cs : List Cell) (outs : List Int) (h4 : List D) : Prop where
  eq : d = circ n cs outs (.tuple h4)
  n6 : n ≤ 6
  ok : CellsOk n (n + cs.length) cs
  l4 : nlat cs ≤ 4
  h4 : h4.length = nlat cs
  c40 : cs.length ≤ 40
  o10 : outs.length ≤ 10
  os : ∀ x ∈ outs, 0 ≤ x ∧ x < n + cs.length
theorem right_ok {d : D} {n : Nat} {cs : List Cell} {outs : List Int} {h4 : List D} (h : WF d n cs outs h4) (ins st : List Int) (hi : ins.length = n) (hs : st.length = nlat cs) (h01 : B01 ins) (s01 : B01 st) : F_law_right_case [d, L ins, L st] = .ok (.z, .bool true) := by
  have hn := h.n6
  have hc := h.c40
  have ho := h.o10
  have hok := h.ok
  rw [← hi] at hok
  rw [h.eq]
  have e2 := cell_values_ok (T outs) (.tuple h4) _ cs ins st n hok hs (by omega) (by rw [hi]) h01 s01
  have hlen : (vals ins cs st).length = n + cs.length := by rw [vals_len, hi]
  have hl := cells_latch hok
  have hl' : ∀ c ∈ cs, c.1 = S "latch" → ∃ s, c.2.1 = [s] ∧ 0 ≤ s ∧ s < ((vals ins cs st).length : Int) := fun c hc q => by
    obtain ⟨s, a, b, c⟩ := hl c hc q
    exact ⟨s, a, b, by rw [hlen]; rw [hi] at c; exact c⟩
  have hos : ∀ x ∈ outs, 0 ≤ x ∧ x < ((vals ins cs st).length : Int) := fun x hx => by
    have := h.os x hx
    rw [hlen]
    omega
  have hV := vals01 cs ins st h01 s01
  refine rc_ev (.int n) (.tuple (cs.map cellD)) (.tuple h4) outs (vals ins cs st) (look (vals ins cs st) outs) (nxt (vals ins cs st) cs) ins st hV (look01 hV) ?_ (look_len ..) ?_ (law_values_ok _ _ _ _ cs ins st hok (by omega) (by omega) h01 s01) e2 (outputs_of _ _ _ _ _ _ _ e2 hos (by omega)) (next_of _ _ _ _ _ _ _ e2 hl' (by omega)) (fun a b c d => rc_comp1 _ _ _ cs a b c d _ hl' (by omega)) (fun a b c d e' f => rc_comp2 _ _ _ a b c d e' f _ _ hos (by omega))
  · intro b hb
    obtain ⟨c, _, rfl⟩ := List.mem_map.mp hb
    rw [List.getD_eq_getElem?_getD]
    cases q : (vals ins cs st)[(c.2.1.headD 0).toNat]? with
    | none => exact .inl rfl
    | some x => exact hV x (List.mem_of_getElem? q)
  · unfold nxt
    rw [List.length_map, hs]
    rfl
theorem refuses_ev (d ins st : D) (e : F_cell_values [d, ins, st] = .ex bad) : F_law_refuses [d, ins, st] = .ok (.z, .bool true) := by
  have e1 := outputs_bad d ins st e
  have e2 := next_bad d ins st e
  unfold F_law_refuses fb_law_refuses
  simp only [runD_ap, seq_eq, then_nx, then_rt, then_ex, then_ct, then_bk, sB_ok, sB_ex, bind_ok, bind_ex, of_some, gZ_z, gB_s, gBl_l, gBl_z, gF_s, gM_s, fC_ap, fN_ap, fZ_ap, vMv_ap, fV_ap, vF_ap, oF_f, oF_l, oB_f, oB_l, osN_f, osN_l, osC_f, osC_l, o2_ap, fB_ap, fsN_ap, fsC_ap, fLst_ap, fTup_ap, fMt_ap, mtS_l, mtE_l, bB_b, bV_ap, bBo_b, bF_ap, bO_ap, bNot_ap, bAnd_ap, bOr_ap, vIf_ap, vA_b, vO_b, vAnd_ap, vOr_ap, dNot_b, fNot_ap, dNg_i, fNeg_ap, fPN_ap, dPs_i, fPS_ap, vCut_ap, fIsi_ap, rOut_ok, rOut_ex, fCall_ap, fDct0_ap, dIterL_l, dIterL_t, iLT_ap, iR1_ap, iR2_ap, iEn_ap, iZp_ap, vLR1_ap, sNx_ap, sAsg_ap, sRet_ap, sExp_ap, sIf_ap, sFor_ap, oNx_s, sTgt_ap, fzE_s, sFz_ap, sRaise_ap, res_nx, res_rt, res_ex, st0, List.map_cons, List.map_nil, List.length_cons, List.length_nil, List.replicate_succ, List.replicate_zero, List.cons_append, List.nil_append, List.append_nil, List.getElem?_cons_zero, List.getElem?_cons_succ, List.set_cons_zero, List.set_cons_succ, Option.bind_some, Option.map_some, dTru, at_t0, at_t1, at_t2, at_t3, at_l0, at_l1, at_l2, at_l3, eq_int, ne_int, lt_int, gt_int, le_int, ge_int, add_int, sub_int, int_int, int_bool, len_l, len_t, len_scr, dListOf, dTupOf, decide_eq_true_eq, List.length_map, Nat.reduceAdd, Nat.reduceSub, Nat.reduceLeDiff, Nat.zero_add, if_true, if_false, ↓reduceIte, Bool.false_eq_true, Bool.not_true, Bool.not_false, fIn_ap, fGet_ap, inT_f, inT_t, gtT_s, key_i, isS_s, isS_n, map_none, sum_int, all_b, any_b, isi_int, isi_intb, isi_list, sTry_ap, tryE_ex, tryE_nx, tryE_rt, tryC_nx, tryC_rt, tryC_f, e, e1, e2, m_bad, Int.reduceAdd, decide_true]
theorem refuses_ok {d : D} {n : Nat} {cs : List Cell} {outs : List Int} {h4 : List D} (h : WF d n cs outs h4) (ins st : List Int) (hb : Bad ins st n (nlat cs)) : F_law_refuses [d, L ins, L st] = .ok (.z, .bool true) := by
  have hc := h.c40
  rw [h.eq]
  exact refuses_ev _ _ _ (cell_values_bad _ _ cs ins st n (by omega) hb)
theorem item_ok (c : Int) (h : 0 ≤ c) : ∃ x : Int, dAt (.list [.int 2, .int (-1), .int 3, .int (11 + c)]) (.int (c / 3 % 4)) = some (.z, .int x) ∧ x ≠ 0 ∧ x ≠ 1 := by
  have : c / 3 % 4 = 0 ∨ c / 3 % 4 = 1 ∨ c / 3 % 4 = 2 ∨ c / 3 % 4 = 3 := by omega
  rcases this with e | e | e | e <;> rw [e]
  · exact ⟨2, at_l0, by decide, by decide⟩
  · exact ⟨-1, at_l1, by decide, by decide⟩
  · exact ⟨3, at_l2, by decide, by decide⟩
  · exact ⟨11 + c, at_l3, by omega, by omega⟩
theorem wrong_ev0 (bs : List Int) (c x : Int) (a : Nat) (hx : dAt (.list [.int 2, .int (-1), .int 3, .int (11 + c)]) (.int (c / 3 % 4)) = some (.z, .int x)) (ha : c / 12 % ((bs.length : Int) + 1) = a) (hl : bs.length ≤ 100) (hm : c % 3 = 0) : F_law_wrong [L bs, .int c] = .ok (.l .z, .list ((bs.map PyData.int).take a ++ [.int 1] ++ (bs.map PyData.int).drop a)) := by
  unfold F_law_wrong fb_law_wrong
  simp (disch := first | omega | (simp only [List.length_append, List.length_take, List.length_drop, List.length_map, List.length_cons, List.length_nil]; omega)) only [runD_ap, seq_eq, then_nx, then_rt, then_ex, then_ct, then_bk, sB_ok, sB_ex, bind_ok, bind_ex, of_some, gZ_z, gB_s, gBl_l, gBl_z, gF_s, gM_s, fC_ap, fN_ap, fZ_ap, vMv_ap, fV_ap, vF_ap, oF_f, oF_l, oB_f, oB_l, osN_f, osN_l, osC_f, osC_l, o2_ap, fB_ap, fsN_ap, fsC_ap, fLst_ap, fTup_ap, fMt_ap, mtS_l, mtE_l, bB_b, bV_ap, bBo_b, bF_ap, bO_ap, bNot_ap, bAnd_ap, bOr_ap, vIf_ap, vA_b, vO_b, vAnd_ap, vOr_ap, dNot_b, fNot_ap, dNg_i, fNeg_ap, fPN_ap, dPs_i, fPS_ap, vCut_ap, fIsi_ap, rOut_ok, rOut_ex, fCall_ap, fDct0_ap, dIterL_l, dIterL_t, iLT_ap, iR1_ap, iR2_ap, iEn_ap, iZp_ap, vLR1_ap, sNx_ap, sAsg_ap, sRet_ap, sExp_ap, sIf_ap, sFor_ap, oNx_s, sTgt_ap, fzE_s, sFz_ap, sRaise_ap, res_nx, res_rt, res_ex, st0, List.map_cons, List.map_nil, List.length_cons, List.length_nil, List.replicate_succ, List.replicate_zero, List.cons_append, List.nil_append, List.append_nil, List.getElem?_cons_zero, List.getElem?_cons_succ, List.set_cons_zero, List.set_cons_succ, Option.bind_some, Option.map_some, dTru, at_t0, at_t1, at_t2, at_t3, at_l0, at_l1, at_l2, at_l3, eq_int, ne_int, lt_int, gt_int, le_int, ge_int, add_int, sub_int, int_int, int_bool, len_l, len_t, len_scr, dListOf, dTupOf, decide_eq_true_eq, List.length_map, Nat.reduceAdd, Nat.reduceSub, Nat.reduceLeDiff, Nat.zero_add, if_true, if_false, ↓reduceIte, Bool.false_eq_true, Bool.not_true, Bool.not_false, fIn_ap, fGet_ap, inT_f, inT_t, gtT_s, key_i, isS_s, isS_n, map_none, sum_int, all_b, any_b, isi_int, isi_intb, isi_list, sTry_ap, tryE_ex, tryE_nx, tryE_rt, tryC_nx, tryC_rt, tryC_f, if_pos, mod_ok, div_ok, hx, ha, hm, decide_true, cut_l, cut_to, cut_from, cat_l]
theorem wrong_ev1 (c x : Int) (a : Nat) (hx : dAt (.list [.int 2, .int (-1), .int 3, .int (11 + c)]) (.int (c / 3 % 4)) = some (.z, .int x)) (ha : c / 12 % (((0 : Nat) : Int) + 1) = a) (hm : ¬ c % 3 = 0) : F_law_wrong [.list [], .int c] = .ok (.l .z, .list [.int x]) := by
  unfold F_law_wrong fb_law_wrong
  simp (disch := first | omega | (simp only [List.length_append, List.length_take, List.length_drop, List.length_map, List.length_cons, List.length_nil]; omega)) only [runD_ap, seq_eq, then_nx, then_rt, then_ex, then_ct, then_bk, sB_ok, sB_ex, bind_ok, bind_ex, of_some, gZ_z, gB_s, gBl_l, gBl_z, gF_s, gM_s, fC_ap, fN_ap, fZ_ap, vMv_ap, fV_ap, vF_ap, oF_f, oF_l, oB_f, oB_l, osN_f, osN_l, osC_f, osC_l, o2_ap, fB_ap, fsN_ap, fsC_ap, fLst_ap, fTup_ap, fMt_ap, mtS_l, mtE_l, bB_b, bV_ap, bBo_b, bF_ap, bO_ap, bNot_ap, bAnd_ap, bOr_ap, vIf_ap, vA_b, vO_b, vAnd_ap, vOr_ap, dNot_b, fNot_ap, dNg_i, fNeg_ap, fPN_ap, dPs_i, fPS_ap, vCut_ap, fIsi_ap, rOut_ok, rOut_ex, fCall_ap, fDct0_ap, dIterL_l, dIterL_t, iLT_ap, iR1_ap, iR2_ap, iEn_ap, iZp_ap, vLR1_ap, sNx_ap, sAsg_ap, sRet_ap, sExp_ap, sIf_ap, sFor_ap, oNx_s, sTgt_ap, fzE_s, sFz_ap, sRaise_ap, res_nx, res_rt, res_ex, st0, List.map_cons, List.map_nil, List.length_cons, List.length_nil, List.replicate_succ, List.replicate_zero, List.cons_append, List.nil_append, List.append_nil, List.getElem?_cons_zero, List.getElem?_cons_succ, List.set_cons_zero, List.set_cons_succ, Option.bind_some, Option.map_some, dTru, at_t0, at_t1, at_t2, at_t3, at_l0, at_l1, at_l2, at_l3, eq_int, ne_int, lt_int, gt_int, le_int, ge_int, add_int, sub_int, int_int, int_bool, len_l, len_t, len_scr, dListOf, dTupOf, decide_eq_true_eq, List.length_map, Nat.reduceAdd, Nat.reduceSub, Nat.reduceLeDiff, Nat.zero_add, if_true, if_false, ↓reduceIte, Bool.false_eq_true, Bool.not_true, Bool.not_false, fIn_ap, fGet_ap, inT_f, inT_t, gtT_s, key_i, isS_s, isS_n, map_none, sum_int, all_b, any_b, isi_int, isi_intb, isi_list, sTry_ap, tryE_ex, tryE_nx, tryE_rt, tryC_nx, tryC_rt, tryC_f, if_pos, mod_ok, div_ok, hx, ha, decide_eq_false hm, decide_true, cut_l, cut_to, cut_from, cat_l]
theorem wrong_ev2 (bs : List Int) (c x : Int) (a b : Nat) (hx : dAt (.list [.int 2, .int (-1), .int 3, .int (11 + c)]) (.int (c / 3 % 4)) = some (.z, .int x)) (ha : c / 12 % ((bs.length : Int) + 1) = a) (hb : (a : Int) % (bs.length : Int) = b) (hl : bs.length ≤ 100) (h0 : 0 < bs.length) (hm : c % 3 = 1) : F_law_wrong [L bs, .int c] = .ok (.l .z, .list ((bs.map PyData.int).take b ++ (bs.map PyData.int).drop (b + 1))) := by
  unfold F_law_wrong fb_law_wrong
  have h00 : ¬ (bs.length : Int) = 0 := by omega
  have hm0 : ¬ c % 3 = 0 := by omega
  simp (disch := first | omega | (simp only [List.length_append, List.length_take, List.length_drop, List.length_map, List.length_cons, List.length_nil]; omega)) only [runD_ap, seq_eq, then_nx, then_rt, then_ex, then_ct, then_bk, sB_ok, sB_ex, bind_ok, bind_ex, of_some, gZ_z, gB_s, gBl_l, gBl_z, gF_s, gM_s, fC_ap, fN_ap, fZ_ap, vMv_ap, fV_ap, vF_ap, oF_f, oF_l, oB_f, oB_l, osN_f, osN_l, osC_f, osC_l, o2_ap, fB_ap, fsN_ap, fsC_ap, fLst_ap, fTup_ap, fMt_ap, mtS_l, mtE_l, bB_b, bV_ap, bBo_b, bF_ap, bO_ap, bNot_ap, bAnd_ap, bOr_ap, vIf_ap, vA_b, vO_b, vAnd_ap, vOr_ap, dNot_b, fNot_ap, dNg_i, fNeg_ap, fPN_ap, dPs_i, fPS_ap, vCut_ap, fIsi_ap, rOut_ok, rOut_ex, fCall_ap, fDct0_ap, dIterL_l, dIterL_t, iLT_ap, iR1_ap, iR2_ap, iEn_ap, iZp_ap, vLR1_ap, sNx_ap, sAsg_ap, sRet_ap, sExp_ap, sIf_ap, sFor_ap, oNx_s, sTgt_ap, fzE_s, sFz_ap, sRaise_ap, res_nx, res_rt, res_ex, st0, List.map_cons, List.map_nil, List.length_cons, List.length_nil, List.replicate_succ, List.replicate_zero, List.cons_append, List.nil_append, List.append_nil, List.getElem?_cons_zero, List.getElem?_cons_succ, List.set_cons_zero, List.set_cons_succ, Option.bind_some, Option.map_some, dTru, at_t0, at_t1, at_t2, at_t3, at_l0, at_l1, at_l2, at_l3, eq_int, ne_int, lt_int, gt_int, le_int, ge_int, add_int, sub_int, int_int, int_bool, len_l, len_t, len_scr, dListOf, dTupOf, decide_eq_true_eq, List.length_map, Nat.reduceAdd, Nat.reduceSub, Nat.reduceLeDiff, Nat.zero_add, if_true, if_false, ↓reduceIte, Bool.false_eq_true, Bool.not_true, Bool.not_false, fIn_ap, fGet_ap, inT_f, inT_t, gtT_s, key_i, isS_s, isS_n, map_none, sum_int, all_b, any_b, isi_int, isi_intb, isi_list, sTry_ap, tryE_ex, tryE_nx, tryE_rt, tryC_nx, tryC_rt, tryC_f, if_pos, mod_ok, div_ok, hx, ha, hb, decide_eq_false hm0, decide_eq_true hm, decide_eq_false h00, cut_l, cut_to, cut_from, cut_from1, cat_l]
theorem wrong_ev3 (bs : List Int) (c x : Int) (a b : Nat) (hx : dAt (.list [.int 2, .int (-1), .int 3, .int (11 + c)]) (.int (c / 3 % 4)) = some (.z, .int x)) (ha : c / 12 % ((bs.length : Int) + 1) = a) (hb : (a : Int) % (bs.length : Int) = b) (hl : bs.length ≤ 100) (h0 : 0 < bs.length) (hm0 : ¬ c % 3 = 0) (hm : ¬ c % 3 = 1) : F_law_wrong [L bs, .int c] = .ok (.l .z, .list ((bs.map PyData.int).take b ++ [.int x] ++ (bs.map PyData.int).drop (b + 1))) := by
  unfold F_law_wrong fb_law_wrong
  have h00 : ¬ (bs.length : Int) = 0 := by omega
  simp (disch := first | omega | (simp only [List.length_append, List.length_take, List.length_drop, List.length_map, List.length_cons, List.length_nil]; omega)) only [runD_ap, seq_eq, then_nx, then_rt, then_ex, then_ct, then_bk, sB_ok, sB_ex, bind_ok, bind_ex, of_some, gZ_z, gB_s, gBl_l, gBl_z, gF_s, gM_s, fC_ap, fN_ap, fZ_ap, vMv_ap, fV_ap, vF_ap, oF_f, oF_l, oB_f, oB_l, osN_f, osN_l, osC_f, osC_l, o2_ap, fB_ap, fsN_ap, fsC_ap, fLst_ap, fTup_ap, fMt_ap, mtS_l, mtE_l, bB_b, bV_ap, bBo_b, bF_ap, bO_ap, bNot_ap, bAnd_ap, bOr_ap, vIf_ap, vA_b, vO_b, vAnd_ap, vOr_ap, dNot_b, fNot_ap, dNg_i, fNeg_ap, fPN_ap, dPs_i, fPS_ap, vCut_ap, fIsi_ap, rOut_ok, rOut_ex, fCall_ap, fDct0_ap, dIterL_l, dIterL_t, iLT_ap, iR1_ap, iR2_ap, iEn_ap, iZp_ap, vLR1_ap, sNx_ap, sAsg_ap, sRet_ap, sExp_ap, sIf_ap, sFor_ap, oNx_s, sTgt_ap, fzE_s, sFz_ap, sRaise_ap, res_nx, res_rt, res_ex, st0, List.map_cons, List.map_nil, List.length_cons, List.length_nil, List.replicate_succ, List.replicate_zero, List.cons_append, List.nil_append, List.append_nil, List.getElem?_cons_zero, List.getElem?_cons_succ, List.set_cons_zero, List.set_cons_succ, Option.bind_some, Option.map_some, dTru, at_t0, at_t1, at_t2, at_t3, at_l0, at_l1, at_l2, at_l3, eq_int, ne_int, lt_int, gt_int, le_int, ge_int, add_int, sub_int, int_int, int_bool, len_l, len_t, len_scr, dListOf, dTupOf, decide_eq_true_eq, List.length_map, Nat.reduceAdd, Nat.reduceSub, Nat.reduceLeDiff, Nat.zero_add, if_true, if_false, ↓reduceIte, Bool.false_eq_true, Bool.not_true, Bool.not_false, fIn_ap, fGet_ap, inT_f, inT_t, gtT_s, key_i, isS_s, isS_n, map_none, sum_int, all_b, any_b, isi_int, isi_intb, isi_list, sTry_ap, tryE_ex, tryE_nx, tryE_rt, tryC_nx, tryC_rt, tryC_f, if_pos, mod_ok, div_ok, hx, ha, hb, decide_eq_false hm0, decide_eq_false hm, decide_eq_false h00, cut_l, cut_to, cut_from, cut_from1, cat_l]
theorem wrong_ok (bs : List Int) (c : Int) (hc : 0 ≤ c) (hl : bs.length ≤ 100) : ∃ ws : List Int, F_law_wrong [L bs, .int c] = .ok (.l .z, L ws) ∧ ((ws.length : Int) ≠ bs.length ∨ ¬ B01 ws) := by
  obtain ⟨x, hx, x0, x1⟩ := item_ok c hc
  have h0 : 0 ≤ c / 12 % ((bs.length : Int) + 1) := Int.emod_nonneg _ (by omega)
  have h1 : c / 12 % ((bs.length : Int) + 1) < (bs.length : Int) + 1 := Int.emod_lt_of_pos _ (by omega)
  obtain ⟨a, ha⟩ := Int.eq_ofNat_of_zero_le h0
  have ha2 : a ≤ bs.length := by omega
  by_cases m0 : c % 3 = 0
  · refine ⟨bs.take a ++ [1] ++ bs.drop a, ?_, .inl ?_⟩
    · rw [wrong_ev0 bs c x a hx ha hl m0]
      simp only [L, List.map_append, List.map_take, List.map_drop, List.map_cons, List.map_nil]
    · simp only [List.length_append, List.length_take, List.length_drop, List.length_cons, List.length_nil]
      omega
  by_cases e0 : bs.length = 0
  · have : bs = [] := List.eq_nil_of_length_eq_zero e0
    subst this
    exact ⟨[x], wrong_ev1 c x a hx ha m0, .inl (by simp)⟩
  have h2 : 0 ≤ (a : Int) % (bs.length : Int) := Int.emod_nonneg _ (by omega)
  have h3 : (a : Int) % (bs.length : Int) < (bs.length : Int) := Int.emod_lt_of_pos _ (by omega)
  obtain ⟨b, hb⟩ := Int.eq_ofNat_of_zero_le h2
  have hb2 : b < bs.length := by omega
  by_cases m1 : c % 3 = 1
  · refine ⟨bs.take b ++ bs.drop (b + 1), ?_, .inl ?_⟩
    · rw [wrong_ev2 bs c x a b hx ha hb hl (by omega) m1]
      simp only [L, List.map_append, List.map_take, List.map_drop]
    · simp only [List.length_append, List.length_take, List.length_drop]
      omega
  · refine ⟨bs.take b ++ [x] ++ bs.drop (b + 1), ?_, .inr fun q => ?_⟩
    · rw [wrong_ev3 bs c x a b hx ha hb hl (by omega) m0 m1]
      simp only [L, List.map_append, List.map_take, List.map_drop, List.map_cons, List.map_nil]
    · rcases q x (by simp) with e | e
      · exact x0 e
      · exact x1 e
end K31
namespace K31
open PySem PV
theorem bare_comp (a : Option Va) (n : Int) (w h4 : D) (outs : List Int) (hn : 0 < n) (hl : outs.length ≤ 1000) :
    vComp [2] (iLT (fV (o2 dAt (oF (fN 1)) (oF (fC (.int 2)))))) (gN 2) bYes ce_law_bare_1 [a, some (.z, .tuple [.int n, w, T outs, h4]), none] = .ok (.l .z, L (outs.map (· % n))) [a, some (.z, .tuple [.int n, w, T outs, h4]), none] := by
  have e : L (outs.map (· % n)) = .list (outs.map fun x => .int (x % n)) := by
    unfold L
    rw [List.map_map]
    rfl
  rw [e]
  refine comp_ok (ds := outs.map .int) ?_ (by rw [List.length_map]; omega) ?_ rfl
  · simp only [runD_ap, seq_eq, then_nx, then_rt, then_ex, then_ct, then_bk, sB_ok, sB_ex, bind_ok, bind_ex, of_some, gZ_z, gB_s, gBl_l, gBl_z, gF_s, gM_s, fC_ap, fN_ap, fZ_ap, vMv_ap, fV_ap, vF_ap, oF_f, oF_l, oB_f, oB_l, osN_f, osN_l, osC_f, osC_l, o2_ap, fB_ap, fsN_ap, fsC_ap, fLst_ap, fTup_ap, fMt_ap, mtS_l, mtE_l, bB_b, bV_ap, bBo_b, bF_ap, bO_ap, bNot_ap, bAnd_ap, bOr_ap, vIf_ap, vA_b, vO_b, vAnd_ap, vOr_ap, dNot_b, fNot_ap, dNg_i, fNeg_ap, fPN_ap, dPs_i, fPS_ap, vCut_ap, fIsi_ap, rOut_ok, rOut_ex, fCall_ap, fDct0_ap, dIterL_l, dIterL_t, iLT_ap, iR1_ap, iR2_ap, iEn_ap, iZp_ap, vLR1_ap, sNx_ap, sAsg_ap, sRet_ap, sExp_ap, sIf_ap, sFor_ap, oNx_s, sTgt_ap, fzE_s, sFz_ap, sRaise_ap, res_nx, res_rt, res_ex, st0, List.map_cons, List.map_nil, List.length_cons, List.length_nil, List.replicate_succ, List.replicate_zero, List.cons_append, List.nil_append, List.append_nil, List.getElem?_cons_zero, List.getElem?_cons_succ, List.set_cons_zero, List.set_cons_succ, Option.bind_some, Option.map_some, dTru, at_t0, at_t1, at_t2, at_t3, at_l0, at_l1, at_l2, at_l3, eq_int, ne_int, lt_int, gt_int, le_int, ge_int, add_int, sub_int, int_int, int_bool, len_l, len_t, len_scr, dListOf, dTupOf, decide_eq_true_eq, List.length_map, Nat.reduceAdd, Nat.reduceSub, Nat.reduceLeDiff, Nat.zero_add, if_true, if_false, ↓reduceIte, Bool.false_eq_true, Bool.not_true, Bool.not_false, fIn_ap, fGet_ap, inT_f, inT_t, gtT_s, key_i, isS_s, isS_n, map_none, sum_int, all_b, any_b, isi_int, isi_intb, isi_list, sTry_ap, tryE_ex, tryE_nx, tryE_rt, tryC_nx, tryC_rt, tryC_f]
  · refine comp_ints (fun x => .int (x % n)) outs rfl (fun _ _ => rfl) fun x hx => ?_
    unfold ce_law_bare_1
    simp (disch := omega) only [runD_ap, seq_eq, then_nx, then_rt, then_ex, then_ct, then_bk, sB_ok, sB_ex, bind_ok, bind_ex, of_some, gZ_z, gB_s, gBl_l, gBl_z, gF_s, gM_s, fC_ap, fN_ap, fZ_ap, vMv_ap, fV_ap, vF_ap, oF_f, oF_l, oB_f, oB_l, osN_f, osN_l, osC_f, osC_l, o2_ap, fB_ap, fsN_ap, fsC_ap, fLst_ap, fTup_ap, fMt_ap, mtS_l, mtE_l, bB_b, bV_ap, bBo_b, bF_ap, bO_ap, bNot_ap, bAnd_ap, bOr_ap, vIf_ap, vA_b, vO_b, vAnd_ap, vOr_ap, dNot_b, fNot_ap, dNg_i, fNeg_ap, fPN_ap, dPs_i, fPS_ap, vCut_ap, fIsi_ap, rOut_ok, rOut_ex, fCall_ap, fDct0_ap, dIterL_l, dIterL_t, iLT_ap, iR1_ap, iR2_ap, iEn_ap, iZp_ap, vLR1_ap, sNx_ap, sAsg_ap, sRet_ap, sExp_ap, sIf_ap, sFor_ap, oNx_s, sTgt_ap, fzE_s, sFz_ap, sRaise_ap, res_nx, res_rt, res_ex, st0, List.map_cons, List.map_nil, List.length_cons, List.length_nil, List.replicate_succ, List.replicate_zero, List.cons_append, List.nil_append, List.append_nil, List.getElem?_cons_zero, List.getElem?_cons_succ, List.set_cons_zero, List.set_cons_succ, Option.bind_some, Option.map_some, dTru, at_t0, at_t1, at_t2, at_t3, at_l0, at_l1, at_l2, at_l3, eq_int, ne_int, lt_int, gt_int, le_int, ge_int, add_int, sub_int, int_int, int_bool, len_l, len_t, len_scr, dListOf, dTupOf, decide_eq_true_eq, List.length_map, Nat.reduceAdd, Nat.reduceSub, Nat.reduceLeDiff, Nat.zero_add, if_true, if_false, ↓reduceIte, Bool.false_eq_true, Bool.not_true, Bool.not_false, fIn_ap, fGet_ap, inT_f, inT_t, gtT_s, key_i, isS_s, isS_n, map_none, sum_int, all_b, any_b, isi_int, isi_intb, isi_list, sTry_ap, tryE_ex, tryE_nx, tryE_rt, tryC_nx, tryC_rt, tryC_f, wipeG, mod_ok]
theorem bare_ev (s : D) (n x : Int) (w h4 : D) (outs : List Int) (hn : 0 ≤ n) (hl : outs.length ≤ 1000) (hc : F_law_cell [s, .int 2] = .ok (.z, .int x)) :
    F_law_bare [s, .tuple [.int n, w, T outs, h4]] = .ok (.z, if n = 0 ∨ x % 8 ≠ 5 then .tuple [.int n, w, T outs, h4] else .tuple [.int n, .tuple [], T (outs.map (· % n)), .tuple []]) := by
  unfold F_law_bare fb_law_bare
  by_cases c0 : n = 0
  · simp (disch := omega) only [runD_ap, seq_eq, then_nx, then_rt, then_ex, then_ct, then_bk, sB_ok, sB_ex, bind_ok, bind_ex, of_some, gZ_z, gB_s, gBl_l, gBl_z, gF_s, gM_s, fC_ap, fN_ap, fZ_ap, vMv_ap, fV_ap, vF_ap, oF_f, oF_l, oB_f, oB_l, osN_f, osN_l, osC_f, osC_l, o2_ap, fB_ap, fsN_ap, fsC_ap, fLst_ap, fTup_ap, fMt_ap, mtS_l, mtE_l, bB_b, bV_ap, bBo_b, bF_ap, bO_ap, bNot_ap, bAnd_ap, bOr_ap, vIf_ap, vA_b, vO_b, vAnd_ap, vOr_ap, dNot_b, fNot_ap, dNg_i, fNeg_ap, fPN_ap, dPs_i, fPS_ap, vCut_ap, fIsi_ap, rOut_ok, rOut_ex, fCall_ap, fDct0_ap, dIterL_l, dIterL_t, iLT_ap, iR1_ap, iR2_ap, iEn_ap, iZp_ap, vLR1_ap, sNx_ap, sAsg_ap, sRet_ap, sExp_ap, sIf_ap, sFor_ap, oNx_s, sTgt_ap, fzE_s, sFz_ap, sRaise_ap, res_nx, res_rt, res_ex, st0, List.map_cons, List.map_nil, List.length_cons, List.length_nil, List.replicate_succ, List.replicate_zero, List.cons_append, List.nil_append, List.append_nil, List.getElem?_cons_zero, List.getElem?_cons_succ, List.set_cons_zero, List.set_cons_succ, Option.bind_some, Option.map_some, dTru, at_t0, at_t1, at_t2, at_t3, at_l0, at_l1, at_l2, at_l3, eq_int, ne_int, lt_int, gt_int, le_int, ge_int, add_int, sub_int, int_int, int_bool, len_l, len_t, len_scr, dListOf, dTupOf, decide_eq_true_eq, List.length_map, Nat.reduceAdd, Nat.reduceSub, Nat.reduceLeDiff, Nat.zero_add, if_true, if_false, ↓reduceIte, Bool.false_eq_true, Bool.not_true, Bool.not_false, fIn_ap, fGet_ap, inT_f, inT_t, gtT_s, key_i, isS_s, isS_n, map_none, sum_int, all_b, any_b, isi_int, isi_intb, isi_list, sTry_ap, tryE_ex, tryE_nx, tryE_rt, tryC_nx, tryC_rt, tryC_f, decide_eq_true c0, if_pos (show n = 0 ∨ x % 8 ≠ 5 from .inl c0)]
  by_cases c1 : x % 8 = 5
  · have e := bare_comp (some (.z, s)) n w h4 outs (by omega) hl
    rw [if_neg (show ¬ (n = 0 ∨ x % 8 ≠ 5) from fun q => q.elim c0 fun q => q c1)]
    generalize outs.map (· % n) = z at *
    simp (disch := omega) only [runD_ap, seq_eq, then_nx, then_rt, then_ex, then_ct, then_bk, sB_ok, sB_ex, bind_ok, bind_ex, of_some, gZ_z, gB_s, gBl_l, gBl_z, gF_s, gM_s, fC_ap, fN_ap, fZ_ap, vMv_ap, fV_ap, vF_ap, oF_f, oF_l, oB_f, oB_l, osN_f, osN_l, osC_f, osC_l, o2_ap, fB_ap, fsN_ap, fsC_ap, fLst_ap, fTup_ap, fMt_ap, mtS_l, mtE_l, bB_b, bV_ap, bBo_b, bF_ap, bO_ap, bNot_ap, bAnd_ap, bOr_ap, vIf_ap, vA_b, vO_b, vAnd_ap, vOr_ap, dNot_b, fNot_ap, dNg_i, fNeg_ap, fPN_ap, dPs_i, fPS_ap, vCut_ap, fIsi_ap, rOut_ok, rOut_ex, fCall_ap, fDct0_ap, dIterL_l, dIterL_t, iLT_ap, iR1_ap, iR2_ap, iEn_ap, iZp_ap, vLR1_ap, sNx_ap, sAsg_ap, sRet_ap, sExp_ap, sIf_ap, sFor_ap, oNx_s, sTgt_ap, fzE_s, sFz_ap, sRaise_ap, res_nx, res_rt, res_ex, st0, List.map_cons, List.map_nil, List.length_cons, List.length_nil, List.replicate_succ, List.replicate_zero, List.cons_append, List.nil_append, List.append_nil, List.getElem?_cons_zero, List.getElem?_cons_succ, List.set_cons_zero, List.set_cons_succ, Option.bind_some, Option.map_some, dTru, at_t0, at_t1, at_t2, at_t3, at_l0, at_l1, at_l2, at_l3, eq_int, ne_int, lt_int, gt_int, le_int, ge_int, add_int, sub_int, int_int, int_bool, len_l, len_t, len_scr, dListOf, dTupOf, decide_eq_true_eq, List.length_map, Nat.reduceAdd, Nat.reduceSub, Nat.reduceLeDiff, Nat.zero_add, if_true, if_false, ↓reduceIte, Bool.false_eq_true, Bool.not_true, Bool.not_false, fIn_ap, fGet_ap, inT_f, inT_t, gtT_s, key_i, isS_s, isS_n, map_none, sum_int, all_b, any_b, isi_int, isi_intb, isi_list, sTry_ap, tryE_ex, tryE_nx, tryE_rt, tryC_nx, tryC_rt, tryC_f, decide_eq_false c0, hc, mod_ok, decide_eq_true c1, e, if_pos]
  · rw [if_pos (show n = 0 ∨ x % 8 ≠ 5 from .inr c1)]
    simp (disch := omega) only [runD_ap, seq_eq, then_nx, then_rt, then_ex, then_ct, then_bk, sB_ok, sB_ex, bind_ok, bind_ex, of_some, gZ_z, gB_s, gBl_l, gBl_z, gF_s, gM_s, fC_ap, fN_ap, fZ_ap, vMv_ap, fV_ap, vF_ap, oF_f, oF_l, oB_f, oB_l, osN_f, osN_l, osC_f, osC_l, o2_ap, fB_ap, fsN_ap, fsC_ap, fLst_ap, fTup_ap, fMt_ap, mtS_l, mtE_l, bB_b, bV_ap, bBo_b, bF_ap, bO_ap, bNot_ap, bAnd_ap, bOr_ap, vIf_ap, vA_b, vO_b, vAnd_ap, vOr_ap, dNot_b, fNot_ap, dNg_i, fNeg_ap, fPN_ap, dPs_i, fPS_ap, vCut_ap, fIsi_ap, rOut_ok, rOut_ex, fCall_ap, fDct0_ap, dIterL_l, dIterL_t, iLT_ap, iR1_ap, iR2_ap, iEn_ap, iZp_ap, vLR1_ap, sNx_ap, sAsg_ap, sRet_ap, sExp_ap, sIf_ap, sFor_ap, oNx_s, sTgt_ap, fzE_s, sFz_ap, sRaise_ap, res_nx, res_rt, res_ex, st0, List.map_cons, List.map_nil, List.length_cons, List.length_nil, List.replicate_succ, List.replicate_zero, List.cons_append, List.nil_append, List.append_nil, List.getElem?_cons_zero, List.getElem?_cons_succ, List.set_cons_zero, List.set_cons_succ, Option.bind_some, Option.map_some, dTru, at_t0, at_t1, at_t2, at_t3, at_l0, at_l1, at_l2, at_l3, eq_int, ne_int, lt_int, gt_int, le_int, ge_int, add_int, sub_int, int_int, int_bool, len_l, len_t, len_scr, dListOf, dTupOf, decide_eq_true_eq, List.length_map, Nat.reduceAdd, Nat.reduceSub, Nat.reduceLeDiff, Nat.zero_add, if_true, if_false, ↓reduceIte, Bool.false_eq_true, Bool.not_true, Bool.not_false, fIn_ap, fGet_ap, inT_f, inT_t, gtT_s, key_i, isS_s, isS_n, map_none, sum_int, all_b, any_b, isi_int, isi_intb, isi_list, sTry_ap, tryE_ex, tryE_nx, tryE_rt, tryC_nx, tryC_rt, tryC_f, decide_eq_false c0, hc, mod_ok, decide_eq_false c1]
theorem bare_ok (ns : List Int) {d : D} {n : Nat} {cs : List Cell} {outs : List Int} {h4 : List D} (h : WF d n cs outs h4) : ∃ d' cs' outs' h4', F_law_bare [scr ns, d] = .ok (.z, d') ∧ WF d' n cs' outs' h4' := by
  obtain ⟨x, hc⟩ := cell_ok ns 2 (by decide)
  have e := bare_ev (scr ns) n x (.tuple (cs.map cellD)) (.tuple h4) outs (by omega) (by have := h.o10; omega) hc
  rw [h.eq]
  by_cases c : (n : Int) = 0 ∨ x % 8 ≠ 5
  · rw [if_pos c] at e
    exact ⟨_, cs, outs, h4, e, rfl, h.n6, h.ok, h.l4, h.h4, h.c40, h.o10, h.os⟩
  · rw [if_neg c] at e
    have hn : 0 < n := by
      by_cases q : n = 0
      · exact absurd (.inl (by omega)) c
      · omega
    exact ⟨_, [], outs.map (· % (n : Int)), [], e, rfl, h.n6, trivial, by decide, rfl, by decide, by rw [List.length_map]; exact h.o10, fun y hy => by
      obtain ⟨z, _, rfl⟩ := List.mem_map.mp hy
      exact ⟨Int.emod_nonneg _ (by omega), by have := Int.emod_lt_of_pos z (show 0 < (n : Int) by omega); simpa using this⟩⟩
/-! the drawn circuit -/
theorem cells_app {tot : Nat} : ∀ {cs : List Cell} {i : Nat} {c : Cell}, CellsOk i tot cs → CellOk (i + cs.length) tot c → CellsOk i tot (cs ++ [c])
  | [], i, c, _, h => ⟨h, trivial⟩
  | d :: cs, i, c, h, h2 => ⟨h.1, cells_app h.2 (by rw [List.length_cons] at h2; rwa [show i + 1 + cs.length = i + (cs.length + 1) by omega])⟩
theorem nlat_app (cs : List Cell) (c : Cell) : nlat (cs ++ [c]) = nlat cs + if c.1 = S "latch" then 1 else 0 := by
  unfold nlat
  rw [List.filter_append, List.length_append]
  congr 1
  rw [List.filter_cons]
  by_cases q : c.1 = S "latch"
  · rw [if_pos (decide_eq_true q), if_pos q]; rfl
  · rw [if_neg (by simpa using q), if_neg q]; rfl
theorem ct_latch (s m : D) (hd parts sr : List Int) (w : List D) (lat tot net h0 cell : Int) (p k o q : Option Va) (e0 : dAt (L hd) (.int 0) = some (.z, .int h0)) (e1 : F_law_cell [s, .int (3 + net - h0)] = .ok (.z, .int cell)) (e2 : F_law_parts [.int cell, L [16, 100, 100, 100]] = .ok (.l .z, L parts))
    (e3 : F_law_kind [L parts, .int net, .int lat] = .ok (.z, .str (S "latch"))) (e4 : F_law_drawn [L parts, .int 1, .int tot] = .ok (.z, T sr)) (hw : w.length ≤ 1000) :
    lb_law_circuit_1 [some (.z, s), some (.z, m), some (.z, L hd), some (.l .z, .list w), some (.z, .int lat), some (.z, .int tot), some (.z, .int net), p, k, o, q] = .nx [some (.z, s), some (.z, m), some (.z, L hd), some (.l .z, .list (w ++ [cellD (S "latch", sr, net)])), some (.z, .int (lat + 1)), some (.z, .int tot), some (.z, .int net), some (.z, L parts), some (.z, .str (S "latch")), o, q] := by
  unfold lb_law_circuit_1
  simp only [L, List.map_cons, List.map_nil] at e2
  simp (disch := omega) only [runD_ap, seq_eq, then_nx, then_rt, then_ex, then_ct, then_bk, sB_ok, sB_ex, bind_ok, bind_ex, of_some, gZ_z, gB_s, gBl_l, gBl_z, gF_s, gM_s, fC_ap, fN_ap, fZ_ap, vMv_ap, fV_ap, vF_ap, oF_f, oF_l, oB_f, oB_l, osN_f, osN_l, osC_f, osC_l, o2_ap, fB_ap, fsN_ap, fsC_ap, fLst_ap, fTup_ap, fMt_ap, mtS_l, mtE_l, bB_b, bV_ap, bBo_b, bF_ap, bO_ap, bNot_ap, bAnd_ap, bOr_ap, vIf_ap, vA_b, vO_b, vAnd_ap, vOr_ap, dNot_b, fNot_ap, dNg_i, fNeg_ap, fPN_ap, dPs_i, fPS_ap, vCut_ap, fIsi_ap, rOut_ok, rOut_ex, fCall_ap, fDct0_ap, dIterL_l, dIterL_t, iLT_ap, iR1_ap, iR2_ap, iEn_ap, iZp_ap, vLR1_ap, sNx_ap, sAsg_ap, sRet_ap, sExp_ap, sIf_ap, sFor_ap, oNx_s, sTgt_ap, fzE_s, sFz_ap, sRaise_ap, res_nx, res_rt, res_ex, st0, List.map_cons, List.map_nil, List.length_cons, List.length_nil, List.replicate_succ, List.replicate_zero, List.cons_append, List.nil_append, List.append_nil, List.getElem?_cons_zero, List.getElem?_cons_succ, List.set_cons_zero, List.set_cons_succ, Option.bind_some, Option.map_some, dTru, at_t0, at_t1, at_t2, at_t3, at_l0, at_l1, at_l2, at_l3, eq_int, ne_int, lt_int, gt_int, le_int, ge_int, add_int, sub_int, int_int, int_bool, len_l, len_t, len_scr, dListOf, dTupOf, decide_eq_true_eq, List.length_map, Nat.reduceAdd, Nat.reduceSub, Nat.reduceLeDiff, Nat.zero_add, if_true, if_false, ↓reduceIte, Bool.false_eq_true, Bool.not_true, Bool.not_false, fIn_ap, fGet_ap, inT_f, inT_t, gtT_s, key_i, isS_s, isS_n, map_none, sum_int, all_b, any_b, isi_int, isi_intb, isi_list, sTry_ap, tryE_ex, tryE_nx, tryE_rt, tryC_nx, tryC_rt, tryC_f, q_latch_latch, qn_latch_latch, q_latch_not, qn_latch_not, iw_latch, it_latch, in_latch, q_tie0_latch, qn_tie0_latch, q_tie0_not, qn_tie0_not, iw_tie0, it_tie0, in_tie0, lk_tie0, ct_tie0, la_tie0, l3_tie0, q_tie1_latch, qn_tie1_latch, q_tie1_not, qn_tie1_not, iw_tie1, it_tie1, in_tie1, lk_tie1, ct_tie1, la_tie1, l3_tie1, q_not_latch, qn_not_latch, q_not_not, qn_not_not, iw_not, it_not, in_not, lk_not, ct_not, q_nand2_latch, qn_nand2_latch, q_nand2_not, qn_nand2_not, iw_nand2, it_nand2, in_nand2, lk_nand2, ct_nand2, la_nand2, q_nand3_latch, qn_nand3_latch, q_nand3_not, qn_nand3_not, iw_nand3, it_nand3, in_nand3, lk_nand3, ct_nand3, la_nand3, q_nor2_latch, qn_nor2_latch, q_nor2_not, qn_nor2_not, iw_nor2, it_nor2, in_nor2, lk_nor2, ct_nor2, la_nor2, q_nor3_latch, qn_nor3_latch, q_nor3_not, qn_nor3_not, iw_nor3, it_nor3, in_nor3, lk_nor3, ct_nor3, la_nor3, p_tie_tie, p_tie_nor, p_nan_tie, p_nan_nor, p_nor_tie, p_nor_nor, p_not_tie, p_not_nor, n_0, n_1, n_2, n_3, if_pos, e0, e1, e2, e3, e4, app_d]
  rfl
theorem ct_tie (s m : D) (hd parts : List Int) (w : List D) (lat tot net h0 cell : Int) (p k o q : Option Va) (kd : Str) (e0 : dAt (L hd) (.int 0) = some (.z, .int h0)) (e1 : F_law_cell [s, .int (3 + net - h0)] = .ok (.z, .int cell)) (e2 : F_law_parts [.int cell, L [16, 100, 100, 100]] = .ok (.l .z, L parts))
    (e3 : F_law_kind [L parts, .int net, .int lat] = .ok (.z, .str kd)) (hk : kd = S "tie0" ∨ kd = S "tie1") (hw : w.length ≤ 1000) :
    lb_law_circuit_1 [some (.z, s), some (.z, m), some (.z, L hd), some (.l .z, .list w), some (.z, .int lat), some (.z, .int tot), some (.z, .int net), p, k, o, q] = .nx [some (.z, s), some (.z, m), some (.z, L hd), some (.l .z, .list (w ++ [cellD (kd, [], net)])), some (.z, .int lat), some (.z, .int tot), some (.z, .int net), some (.z, L parts), some (.z, .str kd), o, q] := by
  unfold lb_law_circuit_1
  simp only [L, List.map_cons, List.map_nil] at e2
  rcases hk with rfl | rfl <;> (simp (disch := omega) only [runD_ap, seq_eq, then_nx, then_rt, then_ex, then_ct, then_bk, sB_ok, sB_ex, bind_ok, bind_ex, of_some, gZ_z, gB_s, gBl_l, gBl_z, gF_s, gM_s, fC_ap, fN_ap, fZ_ap, vMv_ap, fV_ap, vF_ap, oF_f, oF_l, oB_f, oB_l, osN_f, osN_l, osC_f, osC_l, o2_ap, fB_ap, fsN_ap, fsC_ap, fLst_ap, fTup_ap, fMt_ap, mtS_l, mtE_l, bB_b, bV_ap, bBo_b, bF_ap, bO_ap, bNot_ap, bAnd_ap, bOr_ap, vIf_ap, vA_b, vO_b, vAnd_ap, vOr_ap, dNot_b, fNot_ap, dNg_i, fNeg_ap, fPN_ap, dPs_i, fPS_ap, vCut_ap, fIsi_ap, rOut_ok, rOut_ex, fCall_ap, fDct0_ap, dIterL_l, dIterL_t, iLT_ap, iR1_ap, iR2_ap, iEn_ap, iZp_ap, vLR1_ap, sNx_ap, sAsg_ap, sRet_ap, sExp_ap, sIf_ap, sFor_ap, oNx_s, sTgt_ap, fzE_s, sFz_ap, sRaise_ap, res_nx, res_rt, res_ex, st0, List.map_cons, List.map_nil, List.length_cons, List.length_nil, List.replicate_succ, List.replicate_zero, List.cons_append, List.nil_append, List.append_nil, List.getElem?_cons_zero, List.getElem?_cons_succ, List.set_cons_zero, List.set_cons_succ, Option.bind_some, Option.map_some, dTru, at_t0, at_t1, at_t2, at_t3, at_l0, at_l1, at_l2, at_l3, eq_int, ne_int, lt_int, gt_int, le_int, ge_int, add_int, sub_int, int_int, int_bool, len_l, len_t, len_scr, dListOf, dTupOf, decide_eq_true_eq, List.length_map, Nat.reduceAdd, Nat.reduceSub, Nat.reduceLeDiff, Nat.zero_add, if_true, if_false, ↓reduceIte, Bool.false_eq_true, Bool.not_true, Bool.not_false, fIn_ap, fGet_ap, inT_f, inT_t, gtT_s, key_i, isS_s, isS_n, map_none, sum_int, all_b, any_b, isi_int, isi_intb, isi_list, sTry_ap, tryE_ex, tryE_nx, tryE_rt, tryC_nx, tryC_rt, tryC_f, q_latch_latch, qn_latch_latch, q_latch_not, qn_latch_not, iw_latch, it_latch, in_latch, q_tie0_latch, qn_tie0_latch, q_tie0_not, qn_tie0_not, iw_tie0, it_tie0, in_tie0, lk_tie0, ct_tie0, la_tie0, l3_tie0, q_tie1_latch, qn_tie1_latch, q_tie1_not, qn_tie1_not, iw_tie1, it_tie1, in_tie1, lk_tie1, ct_tie1, la_tie1, l3_tie1, q_not_latch, qn_not_latch, q_not_not, qn_not_not, iw_not, it_not, in_not, lk_not, ct_not, q_nand2_latch, qn_nand2_latch, q_nand2_not, qn_nand2_not, iw_nand2, it_nand2, in_nand2, lk_nand2, ct_nand2, la_nand2, q_nand3_latch, qn_nand3_latch, q_nand3_not, qn_nand3_not, iw_nand3, it_nand3, in_nand3, lk_nand3, ct_nand3, la_nand3, q_nor2_latch, qn_nor2_latch, q_nor2_not, qn_nor2_not, iw_nor2, it_nor2, in_nor2, lk_nor2, ct_nor2, la_nor2, q_nor3_latch, qn_nor3_latch, q_nor3_not, qn_nor3_not, iw_nor3, it_nor3, in_nor3, lk_nor3, ct_nor3, la_nor3, p_tie_tie, p_tie_nor, p_nan_tie, p_nan_nor, p_nor_tie, p_nor_nor, p_not_tie, p_not_nor, n_0, n_1, n_2, n_3, if_pos, e0, e1, e2, e3, app_d]; rfl)
theorem ct_gate (s m : D) (hd parts sr : List Int) (w : List D) (lat tot net h0 cell : Int) (p k o q : Option Va) (kd : Str) (e0 : dAt (L hd) (.int 0) = some (.z, .int h0)) (e1 : F_law_cell [s, .int (3 + net - h0)] = .ok (.z, .int cell)) (e2 : F_law_parts [.int cell, L [16, 100, 100, 100]] = .ok (.l .z, L parts))
    (e3 : F_law_kind [L parts, .int net, .int lat] = .ok (.z, .str kd)) (hk : kd = S "not" ∨ kd = S "nand2" ∨ kd = S "nand3" ∨ kd = S "nor2" ∨ kd = S "nor3") (e4 : F_law_drawn [L parts, .int (need kd), .int net] = .ok (.z, T sr)) (hw : w.length ≤ 1000) :
    lb_law_circuit_1 [some (.z, s), some (.z, m), some (.z, L hd), some (.l .z, .list w), some (.z, .int lat), some (.z, .int tot), some (.z, .int net), p, k, o, q] = .nx [some (.z, s), some (.z, m), some (.z, L hd), some (.l .z, .list (w ++ [cellD (kd, sr, net)])), some (.z, .int lat), some (.z, .int tot), some (.z, .int net), some (.z, L parts), some (.z, .str kd), o, q] := by
  have n3 : need (S "not") = 1 := by decide +kernel
  have n4 : need (S "nand2") = 2 := by decide +kernel
  have n5 : need (S "nand3") = 3 := by decide +kernel
  have n6 : need (S "nor2") = 2 := by decide +kernel
  have n7 : need (S "nor3") = 3 := by decide +kernel
  unfold lb_law_circuit_1
  simp only [L, List.map_cons, List.map_nil] at e2
  rcases hk with rfl | rfl | rfl | rfl | rfl <;> simp only [n3, n4, n5, n6, n7] at e4 <;> (simp (disch := omega) only [runD_ap, seq_eq, then_nx, then_rt, then_ex, then_ct, then_bk, sB_ok, sB_ex, bind_ok, bind_ex, of_some, gZ_z, gB_s, gBl_l, gBl_z, gF_s, gM_s, fC_ap, fN_ap, fZ_ap, vMv_ap, fV_ap, vF_ap, oF_f, oF_l, oB_f, oB_l, osN_f, osN_l, osC_f, osC_l, o2_ap, fB_ap, fsN_ap, fsC_ap, fLst_ap, fTup_ap, fMt_ap, mtS_l, mtE_l, bB_b, bV_ap, bBo_b, bF_ap, bO_ap, bNot_ap, bAnd_ap, bOr_ap, vIf_ap, vA_b, vO_b, vAnd_ap, vOr_ap, dNot_b, fNot_ap, dNg_i, fNeg_ap, fPN_ap, dPs_i, fPS_ap, vCut_ap, fIsi_ap, rOut_ok, rOut_ex, fCall_ap, fDct0_ap, dIterL_l, dIterL_t, iLT_ap, iR1_ap, iR2_ap, iEn_ap, iZp_ap, vLR1_ap, sNx_ap, sAsg_ap, sRet_ap, sExp_ap, sIf_ap, sFor_ap, oNx_s, sTgt_ap, fzE_s, sFz_ap, sRaise_ap, res_nx, res_rt, res_ex, st0, List.map_cons, List.map_nil, List.length_cons, List.length_nil, List.replicate_succ, List.replicate_zero, List.cons_append, List.nil_append, List.append_nil, List.getElem?_cons_zero, List.getElem?_cons_succ, List.set_cons_zero, List.set_cons_succ, Option.bind_some, Option.map_some, dTru, at_t0, at_t1, at_t2, at_t3, at_l0, at_l1, at_l2, at_l3, eq_int, ne_int, lt_int, gt_int, le_int, ge_int, add_int, sub_int, int_int, int_bool, len_l, len_t, len_scr, dListOf, dTupOf, decide_eq_true_eq, List.length_map, Nat.reduceAdd, Nat.reduceSub, Nat.reduceLeDiff, Nat.zero_add, if_true, if_false, ↓reduceIte, Bool.false_eq_true, Bool.not_true, Bool.not_false, fIn_ap, fGet_ap, inT_f, inT_t, gtT_s, key_i, isS_s, isS_n, map_none, sum_int, all_b, any_b, isi_int, isi_intb, isi_list, sTry_ap, tryE_ex, tryE_nx, tryE_rt, tryC_nx, tryC_rt, tryC_f, q_latch_latch, qn_latch_latch, q_latch_not, qn_latch_not, iw_latch, it_latch, in_latch, q_tie0_latch, qn_tie0_latch, q_tie0_not, qn_tie0_not, iw_tie0, it_tie0, in_tie0, lk_tie0, ct_tie0, la_tie0, l3_tie0, q_tie1_latch, qn_tie1_latch, q_tie1_not, qn_tie1_not, iw_tie1, it_tie1, in_tie1, lk_tie1, ct_tie1, la_tie1, l3_tie1, q_not_latch, qn_not_latch, q_not_not, qn_not_not, iw_not, it_not, in_not, lk_not, ct_not, q_nand2_latch, qn_nand2_latch, q_nand2_not, qn_nand2_not, iw_nand2, it_nand2, in_nand2, lk_nand2, ct_nand2, la_nand2, q_nand3_latch, qn_nand3_latch, q_nand3_not, qn_nand3_not, iw_nand3, it_nand3, in_nand3, lk_nand3, ct_nand3, la_nand3, q_nor2_latch, qn_nor2_latch, q_nor2_not, qn_nor2_not, iw_nor2, it_nor2, in_nor2, lk_nor2, ct_nor2, la_nor2, q_nor3_latch, qn_nor3_latch, q_nor3_not, qn_nor3_not, iw_nor3, it_nor3, in_nor3, lk_nor3, ct_nor3, la_nor3, p_tie_tie, p_tie_nor, p_nan_tie, p_nan_nor, p_nor_tie, p_nor_nor, p_not_tie, p_not_nor, n_0, n_1, n_2, n_3, if_pos, e0, e1, e2, e3, e4, app_d]; rfl)
end K31
namespace K31
open PySem PV
theorem comp_range {i : Nat} {c : Ev → Out Bool} {fe : Ev → Out D} {Γ : Ev} (f : Nat → D) (m : Nat) (h0 : Γ.set i none = Γ) (hc : ∀ n < m, c (Γ.set i (some (.z, .int (n : Nat)))) = .ok true (Γ.set i (some (.z, .int (n : Nat))))) (hf : ∀ n < m, fe (Γ.set i (some (.z, .int (n : Nat)))) = .ok (f n) (Γ.set i (some (.z, .int (n : Nat))))) : compL [i] (gN i) c fe (rangeL 0 m) Γ = some ((List.range m).map f, Γ) := by
  rw [range_L, comp_ints (fun n => f n.toNat) _ h0 (fun n hn => ?_) fun n hn => ?_, List.map_map]
  · exact congrArg (fun x => some (x, Γ)) (List.map_congr_left fun k _ => by simp)
  · obtain ⟨k, hk, rfl⟩ := List.mem_map.mp hn
    exact hc k (List.mem_range.mp hk)
  · obtain ⟨k, hk, rfl⟩ := List.mem_map.mp hn
    rw [Int.toNat_natCast]
    exact hf k (List.mem_range.mp hk)
theorem cc1 (a b w3 w4 w6 w7 w8 : Option Va) (hd : List Int) (tot h1 h2 h3 : Int) (m : Nat) (hm : 1 + h1 = m) (hm2 : m ≤ 100) (a1 : dAt (L hd) (.int 1) = some (.z, .int h1)) (a2 : dAt (L hd) (.int 2) = some (.z, .int h2)) (a3 : dAt (L hd) (.int 3) = some (.z, .int h3)) (ht : 0 < tot) (hh3 : 0 ≤ h3 ∧ h3 < 100) :
    vComp [10] (iR1 (fsC (fV (o2 dAdd (oF (fC (.int 1))) (oF (fV (o2 dAt (oF (fN 2)) (oF (fC (.int 1)))))))) fsN)) (gN 10) bYes ce_law_circuit_1 [a, b, some (.z, L hd), w3, w4, some (.z, .int tot), w6, w7, w8, none, none] = .ok (.l .z, L ((List.range m).map fun k => (h2 + (k : Nat) * h3) % tot)) [a, b, some (.z, L hd), w3, w4, some (.z, .int tot), w6, w7, w8, none, none] := by
  have e : L ((List.range m).map fun k => (h2 + (k : Nat) * h3) % tot) = .list ((List.range m).map fun k => .int ((h2 + (k : Nat) * h3) % tot)) := by
    unfold L
    rw [List.map_map]
    rfl
  rw [e]
  refine comp_ok (ds := rangeL 0 m) ?_ (by rw [range_len]; omega) ?_ rfl
  · simp (disch := omega) only [runD_ap, seq_eq, then_nx, then_rt, then_ex, then_ct, then_bk, sB_ok, sB_ex, bind_ok, bind_ex, of_some, gZ_z, gB_s, gBl_l, gBl_z, gF_s, gM_s, fC_ap, fN_ap, fZ_ap, vMv_ap, fV_ap, vF_ap, oF_f, oF_l, oB_f, oB_l, osN_f, osN_l, osC_f, osC_l, o2_ap, fB_ap, fsN_ap, fsC_ap, fLst_ap, fTup_ap, fMt_ap, mtS_l, mtE_l, bB_b, bV_ap, bBo_b, bF_ap, bO_ap, bNot_ap, bAnd_ap, bOr_ap, vIf_ap, vA_b, vO_b, vAnd_ap, vOr_ap, dNot_b, fNot_ap, dNg_i, fNeg_ap, fPN_ap, dPs_i, fPS_ap, vCut_ap, fIsi_ap, rOut_ok, rOut_ex, fCall_ap, fDct0_ap, dIterL_l, dIterL_t, iLT_ap, iR1_ap, iR2_ap, iEn_ap, iZp_ap, vLR1_ap, sNx_ap, sAsg_ap, sRet_ap, sExp_ap, sIf_ap, sFor_ap, oNx_s, sTgt_ap, fzE_s, sFz_ap, sRaise_ap, res_nx, res_rt, res_ex, st0, List.map_cons, List.map_nil, List.length_cons, List.length_nil, List.replicate_succ, List.replicate_zero, List.cons_append, List.nil_append, List.append_nil, List.getElem?_cons_zero, List.getElem?_cons_succ, List.set_cons_zero, List.set_cons_succ, Option.bind_some, Option.map_some, dTru, at_t0, at_t1, at_t2, at_t3, at_l0, at_l1, at_l2, at_l3, eq_int, ne_int, lt_int, gt_int, le_int, ge_int, add_int, sub_int, int_int, int_bool, len_l, len_t, len_scr, dListOf, dTupOf, decide_eq_true_eq, List.length_map, Nat.reduceAdd, Nat.reduceSub, Nat.reduceLeDiff, Nat.zero_add, if_true, if_false, ↓reduceIte, Bool.false_eq_true, Bool.not_true, Bool.not_false, fIn_ap, fGet_ap, inT_f, inT_t, gtT_s, key_i, isS_s, isS_n, map_none, sum_int, all_b, any_b, isi_int, isi_intb, isi_list, sTry_ap, tryE_ex, tryE_nx, tryE_rt, tryC_nx, tryC_rt, tryC_f, a1, hm, if_pos, Int.toNat_natCast]
  · refine comp_range _ m rfl (fun _ _ => rfl) fun k hk => ?_
    have m1 : dMul (.int (k : Nat)) (.int h3) = some (.z, .int ((k : Nat) * h3)) := mul_ok (.inr (by omega))
    unfold ce_law_circuit_1
    simp (disch := omega) only [runD_ap, seq_eq, then_nx, then_rt, then_ex, then_ct, then_bk, sB_ok, sB_ex, bind_ok, bind_ex, of_some, gZ_z, gB_s, gBl_l, gBl_z, gF_s, gM_s, fC_ap, fN_ap, fZ_ap, vMv_ap, fV_ap, vF_ap, oF_f, oF_l, oB_f, oB_l, osN_f, osN_l, osC_f, osC_l, o2_ap, fB_ap, fsN_ap, fsC_ap, fLst_ap, fTup_ap, fMt_ap, mtS_l, mtE_l, bB_b, bV_ap, bBo_b, bF_ap, bO_ap, bNot_ap, bAnd_ap, bOr_ap, vIf_ap, vA_b, vO_b, vAnd_ap, vOr_ap, dNot_b, fNot_ap, dNg_i, fNeg_ap, fPN_ap, dPs_i, fPS_ap, vCut_ap, fIsi_ap, rOut_ok, rOut_ex, fCall_ap, fDct0_ap, dIterL_l, dIterL_t, iLT_ap, iR1_ap, iR2_ap, iEn_ap, iZp_ap, vLR1_ap, sNx_ap, sAsg_ap, sRet_ap, sExp_ap, sIf_ap, sFor_ap, oNx_s, sTgt_ap, fzE_s, sFz_ap, sRaise_ap, res_nx, res_rt, res_ex, st0, List.map_cons, List.map_nil, List.length_cons, List.length_nil, List.replicate_succ, List.replicate_zero, List.cons_append, List.nil_append, List.append_nil, List.getElem?_cons_zero, List.getElem?_cons_succ, List.set_cons_zero, List.set_cons_succ, Option.bind_some, Option.map_some, dTru, at_t0, at_t1, at_t2, at_t3, at_l0, at_l1, at_l2, at_l3, eq_int, ne_int, lt_int, gt_int, le_int, ge_int, add_int, sub_int, int_int, int_bool, len_l, len_t, len_scr, dListOf, dTupOf, decide_eq_true_eq, List.length_map, Nat.reduceAdd, Nat.reduceSub, Nat.reduceLeDiff, Nat.zero_add, if_true, if_false, ↓reduceIte, Bool.false_eq_true, Bool.not_true, Bool.not_false, fIn_ap, fGet_ap, inT_f, inT_t, gtT_s, key_i, isS_s, isS_n, map_none, sum_int, all_b, any_b, isi_int, isi_intb, isi_list, sTry_ap, tryE_ex, tryE_nx, tryE_rt, tryC_nx, tryC_rt, tryC_f, wipeG, a2, a3, m1, mod_ok]
theorem cc2 (a b w3 w5 w6 w7 w8 w9 : Option Va) (hd : List Int) (h2 : Int) (m : Nat) (hm2 : m ≤ 100) (a2 : dAt (L hd) (.int 2) = some (.z, .int h2)) :
    vComp [10] (iR1 (fsC (fN 4) fsN)) (gN 10) bYes ce_law_circuit_2 [a, b, some (.z, L hd), w3, some (.z, .int (m : Nat)), w5, w6, w7, w8, w9, none] = .ok (.l .z, .list ((List.range m).map fun k => .int ((h2 + (k : Nat)) % 4))) [a, b, some (.z, L hd), w3, some (.z, .int (m : Nat)), w5, w6, w7, w8, w9, none] := by
  refine comp_ok (ds := rangeL 0 m) ?_ (by rw [range_len]; omega) ?_ rfl
  · simp (disch := omega) only [runD_ap, seq_eq, then_nx, then_rt, then_ex, then_ct, then_bk, sB_ok, sB_ex, bind_ok, bind_ex, of_some, gZ_z, gB_s, gBl_l, gBl_z, gF_s, gM_s, fC_ap, fN_ap, fZ_ap, vMv_ap, fV_ap, vF_ap, oF_f, oF_l, oB_f, oB_l, osN_f, osN_l, osC_f, osC_l, o2_ap, fB_ap, fsN_ap, fsC_ap, fLst_ap, fTup_ap, fMt_ap, mtS_l, mtE_l, bB_b, bV_ap, bBo_b, bF_ap, bO_ap, bNot_ap, bAnd_ap, bOr_ap, vIf_ap, vA_b, vO_b, vAnd_ap, vOr_ap, dNot_b, fNot_ap, dNg_i, fNeg_ap, fPN_ap, dPs_i, fPS_ap, vCut_ap, fIsi_ap, rOut_ok, rOut_ex, fCall_ap, fDct0_ap, dIterL_l, dIterL_t, iLT_ap, iR1_ap, iR2_ap, iEn_ap, iZp_ap, vLR1_ap, sNx_ap, sAsg_ap, sRet_ap, sExp_ap, sIf_ap, sFor_ap, oNx_s, sTgt_ap, fzE_s, sFz_ap, sRaise_ap, res_nx, res_rt, res_ex, st0, List.map_cons, List.map_nil, List.length_cons, List.length_nil, List.replicate_succ, List.replicate_zero, List.cons_append, List.nil_append, List.append_nil, List.getElem?_cons_zero, List.getElem?_cons_succ, List.set_cons_zero, List.set_cons_succ, Option.bind_some, Option.map_some, dTru, at_t0, at_t1, at_t2, at_t3, at_l0, at_l1, at_l2, at_l3, eq_int, ne_int, lt_int, gt_int, le_int, ge_int, add_int, sub_int, int_int, int_bool, len_l, len_t, len_scr, dListOf, dTupOf, decide_eq_true_eq, List.length_map, Nat.reduceAdd, Nat.reduceSub, Nat.reduceLeDiff, Nat.zero_add, if_true, if_false, ↓reduceIte, Bool.false_eq_true, Bool.not_true, Bool.not_false, fIn_ap, fGet_ap, inT_f, inT_t, gtT_s, key_i, isS_s, isS_n, map_none, sum_int, all_b, any_b, isi_int, isi_intb, isi_list, sTry_ap, tryE_ex, tryE_nx, tryE_rt, tryC_nx, tryC_rt, tryC_f, if_pos, Int.toNat_natCast]
  · refine comp_range _ m rfl (fun _ _ => rfl) fun k hk => ?_
    unfold ce_law_circuit_2
    simp (disch := omega) only [runD_ap, seq_eq, then_nx, then_rt, then_ex, then_ct, then_bk, sB_ok, sB_ex, bind_ok, bind_ex, of_some, gZ_z, gB_s, gBl_l, gBl_z, gF_s, gM_s, fC_ap, fN_ap, fZ_ap, vMv_ap, fV_ap, vF_ap, oF_f, oF_l, oB_f, oB_l, osN_f, osN_l, osC_f, osC_l, o2_ap, fB_ap, fsN_ap, fsC_ap, fLst_ap, fTup_ap, fMt_ap, mtS_l, mtE_l, bB_b, bV_ap, bBo_b, bF_ap, bO_ap, bNot_ap, bAnd_ap, bOr_ap, vIf_ap, vA_b, vO_b, vAnd_ap, vOr_ap, dNot_b, fNot_ap, dNg_i, fNeg_ap, fPN_ap, dPs_i, fPS_ap, vCut_ap, fIsi_ap, rOut_ok, rOut_ex, fCall_ap, fDct0_ap, dIterL_l, dIterL_t, iLT_ap, iR1_ap, iR2_ap, iEn_ap, iZp_ap, vLR1_ap, sNx_ap, sAsg_ap, sRet_ap, sExp_ap, sIf_ap, sFor_ap, oNx_s, sTgt_ap, fzE_s, sFz_ap, sRaise_ap, res_nx, res_rt, res_ex, st0, List.map_cons, List.map_nil, List.length_cons, List.length_nil, List.replicate_succ, List.replicate_zero, List.cons_append, List.nil_append, List.append_nil, List.getElem?_cons_zero, List.getElem?_cons_succ, List.set_cons_zero, List.set_cons_succ, Option.bind_some, Option.map_some, dTru, at_t0, at_t1, at_t2, at_t3, at_l0, at_l1, at_l2, at_l3, eq_int, ne_int, lt_int, gt_int, le_int, ge_int, add_int, sub_int, int_int, int_bool, len_l, len_t, len_scr, dListOf, dTupOf, decide_eq_true_eq, List.length_map, Nat.reduceAdd, Nat.reduceSub, Nat.reduceLeDiff, Nat.zero_add, if_true, if_false, ↓reduceIte, Bool.false_eq_true, Bool.not_true, Bool.not_false, fIn_ap, fGet_ap, inT_f, inT_t, gtT_s, key_i, isS_s, isS_n, map_none, sum_int, all_b, any_b, isi_int, isi_intb, isi_list, sTry_ap, tryE_ex, tryE_nx, tryE_rt, tryC_nx, tryC_rt, tryC_f, wipeG, a2, mod_ok]
theorem turn_ok (ns hd : List Int) (n tot i : Nat) (cs : List Cell) (m : D) (p k : Option Va) (kv : Option Va) (e0 : dAt (L hd) (.int 0) = some (.z, .int (n : Nat))) (hn : n ≤ 6) (ht : tot ≤ 100) (hnt : n + i < tot) (hci : cs.length = i) (hok : CellsOk n tot cs) (hlat : nlat cs ≤ 4) :
    ∃ c p' k', lb_law_circuit_1 [some (.z, scr ns), some (.z, m), some (.z, L hd), some (.l .z, .list (cs.map cellD)), some (.z, .int (nlat cs : Nat)), some (.z, .int (tot : Nat)), some (.z, .int ((n + i : Nat) : Int)), p, k, none, none] = .nx [some (.z, scr ns), some (.z, m), some (.z, L hd), some (.l .z, .list ((cs ++ [c]).map cellD)), some (.z, .int (nlat (cs ++ [c]) : Nat)), some (.z, .int (tot : Nat)), some (.z, .int ((n + i : Nat) : Int)), p', k', none, none] ∧ CellsOk n tot (cs ++ [c]) ∧ nlat (cs ++ [c]) ≤ 4 := by
  obtain ⟨cell, e1⟩ := cell_ok ns (3 + ((n + i : Nat) : Int) - (n : Nat)) (by omega)
  obtain ⟨ps, e2, hpl, hps⟩ := parts_ok cell [16, 100, 100, 100] (by simp) (by intro s hs; simp only [List.mem_cons, List.not_mem_nil, or_false] at hs; omega)
  have hpl : ps.length = 4 := hpl
  obtain ⟨p0, p1, p2, p3, rfl⟩ : ∃ p0 p1 p2 p3, ps = [p0, p1, p2, p3] := by
    match ps, hpl with
    | [a, b, c, d], _ => exact ⟨a, b, c, d, rfl⟩
  have hp0 := hps 0 p0 16 rfl rfl
  obtain ⟨k0, hk0, e0'⟩ := pick p0 hp0.1 hp0.2
  obtain ⟨kd, hkd, e3, hl4, hneed⟩ := kind_ev [p0, p1, p2, p3] k0 p0 p1 ((n + i : Nat) : Int) (nlat cs : Nat) e0' at_l0 at_l1 hk0 (by omega) (by omega)
  have hwl : (cs.map cellD).length ≤ 1000 := by rw [List.length_map]; omega
  have hk8 := hkd
  simp only [K8, List.mem_cons, List.not_mem_nil, or_false] at hkd
  have cat : ∀ c : Cell, (cs.map cellD) ++ [cellD c] = (cs ++ [c]).map cellD := fun c => by rw [List.map_append]; rfl
  rcases hkd with q | hkd
  · subst q
    obtain ⟨sr, e4, hs1, hs2⟩ := drawn_ok [p0, p1, p2, p3] 1 tot (by omega) (by omega) (by simp) (by omega)
    have hl := hl4 rfl
    have et := ct_latch (scr ns) m hd [p0, p1, p2, p3] sr (cs.map cellD) (nlat cs : Nat) (tot : Nat) ((n + i : Nat) : Int) (n : Nat) cell p k none none e0 e1 e2 e3 e4 hwl
    have e5 := nlat_app cs (S "latch", sr, ((n + i : Nat) : Int))
    rw [if_pos rfl] at e5
    refine ⟨(S "latch", sr, ((n + i : Nat) : Int)), some (.z, L [p0, p1, p2, p3]), some (.z, .str (S "latch")), ?_, cells_app hok ⟨hk8, fun _ => ?_, fun h => absurd rfl h, by show sr.length ≤ 3; omega⟩, by omega⟩
    · rw [et, cat, e5]; rfl
    · match sr, hs1, hs2 with
      | [x], _, h => exact ⟨x, rfl, h x (List.mem_cons_self ..)⟩
  rcases hkd with q | q | hkd
  · have hne : kd ≠ S "latch" := by rw [q]; decide +kernel
    have et := ct_tie (scr ns) m hd [p0, p1, p2, p3] (cs.map cellD) (nlat cs : Nat) (tot : Nat) ((n + i : Nat) : Int) (n : Nat) cell p k none none kd e0 e1 e2 e3 (.inl q) hwl
    have e5 := nlat_app cs (kd, [], ((n + i : Nat) : Int))
    rw [if_neg hne, Nat.add_zero] at e5
    refine ⟨(kd, [], ((n + i : Nat) : Int)), some (.z, L [p0, p1, p2, p3]), some (.z, .str kd), ?_, cells_app hok ⟨hk8, fun h => absurd h hne, fun _ s hs => (nomatch hs), Nat.zero_le _⟩, by omega⟩
    rw [et, cat, e5]
  · have hne : kd ≠ S "latch" := by rw [q]; decide +kernel
    have et := ct_tie (scr ns) m hd [p0, p1, p2, p3] (cs.map cellD) (nlat cs : Nat) (tot : Nat) ((n + i : Nat) : Int) (n : Nat) cell p k none none kd e0 e1 e2 e3 (.inr q) hwl
    have e5 := nlat_app cs (kd, [], ((n + i : Nat) : Int))
    rw [if_neg hne, Nat.add_zero] at e5
    refine ⟨(kd, [], ((n + i : Nat) : Int)), some (.z, L [p0, p1, p2, p3]), some (.z, .str kd), ?_, cells_app hok ⟨hk8, fun h => absurd h hne, fun _ s hs => (nomatch hs), Nat.zero_le _⟩, by omega⟩
    rw [et, cat, e5]
  · have hne : kd ≠ S "latch" := by rcases hkd with q | q | q | q | q <;> rw [q] <;> decide +kernel
    have hnd : 1 ≤ need kd ∧ need kd ≤ 3 := by rcases hkd with q | q | q | q | q <;> rw [q] <;> decide +kernel
    obtain ⟨c, hc⟩ := Int.eq_ofNat_of_zero_le (show 0 ≤ need kd by omega)
    obtain ⟨sr, e4, hs1, hs2⟩ := drawn_ok [p0, p1, p2, p3] c (n + i) (by omega) (by omega) (by simp; omega) (by omega)
    rw [← hc] at e4
    have et := ct_gate (scr ns) m hd [p0, p1, p2, p3] sr (cs.map cellD) (nlat cs : Nat) (tot : Nat) ((n + i : Nat) : Int) (n : Nat) cell p k none none kd e0 e1 e2 e3 hkd e4 hwl
    have e5 := nlat_app cs (kd, sr, ((n + i : Nat) : Int))
    rw [if_neg hne, Nat.add_zero] at e5
    refine ⟨(kd, sr, ((n + i : Nat) : Int)), some (.z, L [p0, p1, p2, p3]), some (.z, .str kd), ?_, cells_app hok ⟨hk8, fun h => absurd h hne, fun _ s hs => ?_, by show sr.length ≤ 3; omega⟩, by omega⟩
    · rw [et, cat, e5]
    · rw [hci]; exact hs2 s hs
end K31
namespace K31
open PySem PV
theorem circuit_ok (ns : List Int) (hns : ns.length ≤ 63) : ∃ d n cs outs h4, F_law_circuit [scr ns, .int 40] = .ok (.z, d) ∧ WF d n cs outs h4 := by
  obtain ⟨cell, e1⟩ := cell_ok ns 0 (by omega)
  obtain ⟨ps, e2, hpl, hps⟩ := parts_ok cell [7, 6, 100, 100] (by simp) (by intro s hs; simp only [List.mem_cons, List.not_mem_nil, or_false] at hs; omega)
  have hpl : ps.length = 4 := hpl
  obtain ⟨h0, h1, h2, h3, rfl⟩ : ∃ p0 p1 p2 p3, ps = [p0, p1, p2, p3] := by
    match ps, hpl with
    | [a, b, c, d], _ => exact ⟨a, b, c, d, rfl⟩
  have b0 := hps 0 h0 7 rfl rfl
  have b1 := hps 1 h1 6 rfl rfl
  have b2 := hps 2 h2 100 rfl rfl
  have b3 := hps 3 h3 100 rfl rfl
  have a0 : dAt (L [h0, h1, h2, h3]) (.int 0) = some (.z, .int h0) := at_l0
  have a1 : dAt (L [h0, h1, h2, h3]) (.int 1) = some (.z, .int h1) := at_l1
  have a2 : dAt (L [h0, h1, h2, h3]) (.int 2) = some (.z, .int h2) := at_l2
  have a3 : dAt (L [h0, h1, h2, h3]) (.int 3) = some (.z, .int h3) := at_l3
  generalize [h0, h1, h2, h3] = hd at *
  obtain ⟨n, rfl⟩ := Int.eq_ofNat_of_zero_le b0.1
  obtain ⟨m, hm⟩ := Int.eq_ofNat_of_zero_le (show 0 ≤ 1 + h1 by omega)
  -- how many cells
  obtain ⟨cnt, hcnt, c1, c40⟩ : ∃ cnt : Nat, dMin [.int 40, .int (if 1 < (ns.length : Int) - 3 then (ns.length : Int) - 3 else 1)] = some (.z, .int (cnt : Nat)) ∧ 1 ≤ cnt ∧ cnt ≤ 40 := by
    unfold dMin
    dsimp only
    by_cases q : 1 < (ns.length : Int) - 3
    · rw [if_pos q]
      by_cases q2 : (ns.length : Int) - 3 < 40
      · rw [if_pos q2]
        exact ⟨ns.length - 3, by rw [show ((ns.length - 3 : Nat) : Int) = (ns.length : Int) - 3 by omega], by omega, by omega⟩
      · rw [if_neg q2]
        exact ⟨40, rfl, by omega, by omega⟩
    · rw [if_neg q]
      rw [if_pos (by decide)]
      exact ⟨1, rfl, by omega, by omega⟩
  have hmax : dMax [.int 1, .int ((ns.length : Int) - 3)] = some (.z, .int (if 1 < (ns.length : Int) - 3 then (ns.length : Int) - 3 else 1)) := rfl
  have htot : (n : Int) + (cnt : Int) = ((n + cnt : Nat) : Int) := by omega
  have hh : ∃ Γ', sForL (gN 6) lb_law_circuit_1 (rangeL (n : Nat) cnt) [some (.z, scr ns), some (.z, .int 40), some (.z, L hd), some (.l .z, .list []), some (.z, .int 0), some (.z, .int ((n + cnt : Nat) : Int)), none, none, none, none, none] = .nx Γ' ∧ ∃ (cs : List Cell) (kv p k : Option Va), Γ' = [some (.z, scr ns), some (.z, .int 40), some (.z, L hd), some (.l .z, .list (cs.map cellD)), some (.z, .int (nlat cs : Nat)), some (.z, .int ((n + cnt : Nat) : Int)), kv, p, k, none, none] ∧ cs.length = 0 + (rangeL (n : Nat) cnt).length ∧ CellsOk n (n + cnt) cs ∧ nlat cs ≤ 4 :=
    forL_inv (fun j Γ => ∃ (cs : List Cell) (kv p k : Option Va), Γ = [some (.z, scr ns), some (.z, .int 40), some (.z, L hd), some (.l .z, .list (cs.map cellD)), some (.z, .int (nlat cs : Nat)), some (.z, .int ((n + cnt : Nat) : Int)), kv, p, k, none, none] ∧ cs.length = j ∧ CellsOk n (n + cnt) cs ∧ nlat cs ≤ 4) (rangeL (n : Nat) cnt) 0 _ ⟨[], none, none, none, rfl, rfl, trivial, by decide⟩ (by
      rintro i d Γ hd' ⟨cs, kv, p, k, rfl, q1, q2, q3⟩
      obtain ⟨hi, rfl⟩ := range_get hd'
      rw [show (n : Int) + (i : Int) = ((n + i : Nat) : Int) by omega]
      obtain ⟨c, p', k', e, r1, r2⟩ := turn_ok ns hd n (n + cnt) i cs (.int 40) p k none a0 (by omega) (by omega) (by omega) (by omega) q2 q3
      exact ⟨_, _, rfl, .inl e, cs ++ [c], _, _, _, rfl, by rw [List.length_append, List.length_cons, List.length_nil]; omega, r1, r2⟩)
  obtain ⟨Γ', e, cs, kv, p, k, rfl, q1, q2, q3⟩ := hh
  rw [range_len] at q1
  have e5 := cc1 (some (.z, scr ns)) (some (.z, .int 40)) (some (.l .z, .list (cs.map cellD))) (some (.z, .int (nlat cs : Nat))) kv p k hd ((n + cnt : Nat) : Int) h1 h2 h3 m hm (by omega) a1 a2 a3 (by omega) b3
  have e6 := fun x => cc2 (some (.z, scr ns)) (some (.z, .int 40)) (some (.l .z, .list (cs.map cellD))) (some (.z, .int ((n + cnt : Nat) : Int))) kv p k x hd h2 (nlat cs) (by omega) a2
  have hsub : (((n + cnt : Nat) : Int) - (n : Int)).toNat = cnt := by omega
  refine ⟨circ n cs ((List.range m).map fun k => (h2 + (k : Nat) * h3) % ((n + cnt : Nat) : Int)) (.tuple ((List.range (nlat cs)).map fun k => .int ((h2 + (k : Nat)) % 4))), n, cs, (List.range m).map fun k => (h2 + (k : Nat) * h3) % ((n + cnt : Nat) : Int), (List.range (nlat cs)).map fun k => .int ((h2 + (k : Nat)) % 4), ?_, ?_⟩
  · have l1 : (n : Int) < 2 ^ 62 ∧ ((n + cnt : Nat) : Int) < 2 ^ 62 ∧ -(2 ^ 62) ≤ (n : Int) ∧ -(2 ^ 62) ≤ ((n + cnt : Nat) : Int) := by omega
    simp only [L, List.map_cons, List.map_nil] at e2
    unfold circ
    generalize (((List.range m).map fun k => (h2 + (k : Nat) * h3) % ((n + cnt : Nat) : Int))) = outs at *
    generalize ((List.range (nlat cs)).map fun k => PyData.int ((h2 + (k : Nat)) % 4)) = hh4 at *
    generalize cs.map cellD = w at *
    generalize ((n + cnt : Nat) : Int) = tot at *
    generalize ((nlat cs : Nat) : Int) = lat at *
    obtain ⟨l1, l2, l3, l4⟩ := l1
    unfold F_law_circuit fb_law_circuit
    simp (disch := assumption) only [runD_ap, seq_eq, then_nx, then_rt, then_ex, then_ct, then_bk, sB_ok, sB_ex, bind_ok, bind_ex, of_some, gZ_z, gB_s, gBl_l, gBl_z, gF_s, gM_s, fC_ap, fN_ap, fZ_ap, vMv_ap, fV_ap, vF_ap, oF_f, oF_l, oB_f, oB_l, osN_f, osN_l, osC_f, osC_l, o2_ap, fB_ap, fsN_ap, fsC_ap, fLst_ap, fTup_ap, fMt_ap, mtS_l, mtE_l, bB_b, bV_ap, bBo_b, bF_ap, bO_ap, bNot_ap, bAnd_ap, bOr_ap, vIf_ap, vA_b, vO_b, vAnd_ap, vOr_ap, dNot_b, fNot_ap, dNg_i, fNeg_ap, fPN_ap, dPs_i, fPS_ap, vCut_ap, fIsi_ap, rOut_ok, rOut_ex, fCall_ap, fDct0_ap, dIterL_l, dIterL_t, iLT_ap, iR1_ap, iR2_ap, iEn_ap, iZp_ap, vLR1_ap, sNx_ap, sAsg_ap, sRet_ap, sExp_ap, sIf_ap, sFor_ap, oNx_s, sTgt_ap, fzE_s, sFz_ap, sRaise_ap, res_nx, res_rt, res_ex, st0, List.map_cons, List.map_nil, List.length_cons, List.length_nil, List.replicate_succ, List.replicate_zero, List.cons_append, List.nil_append, List.append_nil, List.getElem?_cons_zero, List.getElem?_cons_succ, List.set_cons_zero, List.set_cons_succ, Option.bind_some, Option.map_some, dTru, at_t0, at_t1, at_t2, at_t3, at_l0, at_l1, at_l2, at_l3, eq_int, ne_int, lt_int, gt_int, le_int, ge_int, add_int, sub_int, int_int, int_bool, len_l, len_t, len_scr, dListOf, dTupOf, decide_eq_true_eq, List.length_map, Nat.reduceAdd, Nat.reduceSub, Nat.reduceLeDiff, Nat.zero_add, if_true, if_false, ↓reduceIte, Bool.false_eq_true, Bool.not_true, Bool.not_false, fIn_ap, fGet_ap, inT_f, inT_t, gtT_s, key_i, isS_s, isS_n, map_none, sum_int, all_b, any_b, isi_int, isi_intb, isi_list, sTry_ap, tryE_ex, tryE_nx, tryE_rt, tryC_nx, tryC_rt, tryC_f, if_pos, l1, l2, l3, l4, and_self, hsub, e1, e2, a0, hmax, hcnt, htot, e, e5, e6]
  · have hlen : cs.length = cnt := by omega
    refine ⟨rfl, by omega, by rw [hlen]; exact q2, q3, by rw [List.length_map, List.length_range], by omega, by rw [List.length_map, List.length_range]; omega, fun y hy => ?_⟩
    obtain ⟨z, _, rfl⟩ := List.mem_map.mp hy
    rw [hlen]
    exact ⟨Int.emod_nonneg _ (by omega), by have := Int.emod_lt_of_pos (h2 + (z : Nat) * h3) (show 0 < ((n + cnt : Nat) : Int) by omega); rw [htot]; exact this⟩

theorem bits_turn (m : Int) (bs : List Int) (c : D) (k : Int) (kv : Option Va) (h : bs.length < 100) : lb_law_bits_1 [some (.z, .int m), some (.z, c), some (.l .z, L bs), some (.z, .int k)] = .nx [some (.z, .int (m / 2)), some (.z, c), some (.l .z, L (bs ++ [m % 2])), some (.z, .int k)] := by
  unfold lb_law_bits_1
  simp (disch := omega) only [runD_ap, seq_eq, then_nx, then_rt, then_ex, then_ct, then_bk, sB_ok, sB_ex, bind_ok, bind_ex, of_some, gZ_z, gB_s, gBl_l, gBl_z, gF_s, gM_s, fC_ap, fN_ap, fZ_ap, vMv_ap, fV_ap, vF_ap, oF_f, oF_l, oB_f, oB_l, osN_f, osN_l, osC_f, osC_l, o2_ap, fB_ap, fsN_ap, fsC_ap, fLst_ap, fTup_ap, fMt_ap, mtS_l, mtE_l, bB_b, bV_ap, bBo_b, bF_ap, bO_ap, bNot_ap, bAnd_ap, bOr_ap, vIf_ap, vA_b, vO_b, vAnd_ap, vOr_ap, dNot_b, fNot_ap, dNg_i, fNeg_ap, fPN_ap, dPs_i, fPS_ap, vCut_ap, fIsi_ap, rOut_ok, rOut_ex, fCall_ap, fDct0_ap, dIterL_l, dIterL_t, iLT_ap, iR1_ap, iR2_ap, iEn_ap, iZp_ap, vLR1_ap, sNx_ap, sAsg_ap, sRet_ap, sExp_ap, sIf_ap, sFor_ap, oNx_s, sTgt_ap, fzE_s, sFz_ap, sRaise_ap, res_nx, res_rt, res_ex, st0, List.map_cons, List.map_nil, List.length_cons, List.length_nil, List.replicate_succ, List.replicate_zero, List.cons_append, List.nil_append, List.append_nil, List.getElem?_cons_zero, List.getElem?_cons_succ, List.set_cons_zero, List.set_cons_succ, Option.bind_some, Option.map_some, dTru, at_t0, at_t1, at_t2, at_t3, at_l0, at_l1, at_l2, at_l3, eq_int, ne_int, lt_int, gt_int, le_int, ge_int, add_int, sub_int, int_int, int_bool, len_l, len_t, len_scr, dListOf, dTupOf, decide_eq_true_eq, List.length_map, Nat.reduceAdd, Nat.reduceSub, Nat.reduceLeDiff, Nat.zero_add, if_true, if_false, ↓reduceIte, Bool.false_eq_true, Bool.not_true, Bool.not_false, fIn_ap, fGet_ap, inT_f, inT_t, gtT_s, key_i, isS_s, isS_n, map_none, sum_int, all_b, any_b, isi_int, isi_intb, isi_list, sTry_ap, tryE_ex, tryE_nx, tryE_rt, tryC_nx, tryC_rt, tryC_f, app_int, mod_ok, div_ok]
theorem bits_ok (n : Int) (c : Nat) (hc : c ≤ 50) : ∃ bs : List Int, F_law_bits [.int n, .int c] = .ok (.l .z, L bs) ∧ bs.length = c ∧ ∀ b ∈ bs, b = 0 ∨ b = 1 := by
  have hh : ∃ Γ', sForL (gN 3) lb_law_bits_1 (rangeL 0 c) [some (.z, .int n), some (.z, .int c), some (.l .z, .list []), none] = .nx Γ' ∧ ∃ (m : Int) (bs : List Int) (kv : Option Va), Γ' = [some (.z, .int m), some (.z, .int c), some (.l .z, L bs), kv] ∧ bs.length = 0 + (rangeL 0 c).length ∧ ∀ b ∈ bs, b = 0 ∨ b = 1 :=
    forL_inv (fun i Γ => ∃ (m : Int) (bs : List Int) (kv : Option Va), Γ = [some (.z, .int m), some (.z, .int c), some (.l .z, L bs), kv] ∧ bs.length = i ∧ ∀ b ∈ bs, b = 0 ∨ b = 1) (rangeL 0 c) 0 _ ⟨n, [], none, rfl, rfl, by simp⟩ (by
      rintro i d Γ hd ⟨m, bs, kv, rfl, h1, h2⟩
      obtain ⟨hi, rfl⟩ := range_get hd
      refine ⟨_, _, rfl, .inl (bits_turn m bs _ _ kv (by omega)), _, _, _, rfl, by simp only [List.length_append, List.length_cons, List.length_nil]; omega, fun b hb => ?_⟩
      rcases List.mem_append.mp hb with hb | hb
      · exact h2 b hb
      · rw [List.mem_singleton.mp hb]; omega)
  obtain ⟨Γ', e, m, bs, kv, rfl, h1, h2⟩ := hh
  refine ⟨bs, ?_, by rw [h1, range_len]; omega, h2⟩
  unfold F_law_bits fb_law_bits
  simp (disch := omega) only [runD_ap, seq_eq, then_nx, then_rt, then_ex, then_ct, then_bk, sB_ok, sB_ex, bind_ok, bind_ex, of_some, gZ_z, gB_s, gBl_l, gBl_z, gF_s, gM_s, fC_ap, fN_ap, fZ_ap, vMv_ap, fV_ap, vF_ap, oF_f, oF_l, oB_f, oB_l, osN_f, osN_l, osC_f, osC_l, o2_ap, fB_ap, fsN_ap, fsC_ap, fLst_ap, fTup_ap, fMt_ap, mtS_l, mtE_l, bB_b, bV_ap, bBo_b, bF_ap, bO_ap, bNot_ap, bAnd_ap, bOr_ap, vIf_ap, vA_b, vO_b, vAnd_ap, vOr_ap, dNot_b, fNot_ap, dNg_i, fNeg_ap, fPN_ap, dPs_i, fPS_ap, vCut_ap, fIsi_ap, rOut_ok, rOut_ex, fCall_ap, fDct0_ap, dIterL_l, dIterL_t, iLT_ap, iR1_ap, iR2_ap, iEn_ap, iZp_ap, vLR1_ap, sNx_ap, sAsg_ap, sRet_ap, sExp_ap, sIf_ap, sFor_ap, oNx_s, sTgt_ap, fzE_s, sFz_ap, sRaise_ap, res_nx, res_rt, res_ex, st0, List.map_cons, List.map_nil, List.length_cons, List.length_nil, List.replicate_succ, List.replicate_zero, List.cons_append, List.nil_append, List.append_nil, List.getElem?_cons_zero, List.getElem?_cons_succ, List.set_cons_zero, List.set_cons_succ, Option.bind_some, Option.map_some, dTru, at_t0, at_t1, at_t2, at_t3, at_l0, at_l1, at_l2, at_l3, eq_int, ne_int, lt_int, gt_int, le_int, ge_int, add_int, sub_int, int_int, int_bool, len_l, len_t, len_scr, dListOf, dTupOf, decide_eq_true_eq, List.length_map, Nat.reduceAdd, Nat.reduceSub, Nat.reduceLeDiff, Nat.zero_add, if_true, if_false, ↓reduceIte, Bool.false_eq_true, Bool.not_true, Bool.not_false, fIn_ap, fGet_ap, inT_f, inT_t, gtT_s, key_i, isS_s, isS_n, map_none, sum_int, all_b, any_b, isi_int, isi_intb, isi_list, sTry_ap, tryE_ex, tryE_nx, tryE_rt, tryC_nx, tryC_rt, tryC_f, if_pos, Int.toNat_natCast, e]
theorem lt_turn (s : D) (n lat : Nat) (w outs h4 : D) (ps bs ins st : List Int) (p0 k : Int) (x5 x6 x7 : Option Va) (a0 : dAt (L ps) (.int 0) = some (.z, .int p0)) (hb : F_law_bits [.int (p0 + k), .int 10] = .ok (.l .z, L bs)) (hl : n + lat ≤ bs.length)
    (e1 : (bs.map PyData.int).take n = ins.map .int) (e2 : ((bs.map PyData.int).drop n).take lat = st.map .int) (hr : F_law_right_case [.tuple [.int n, w, outs, h4], L ins, L st] = .ok (.z, .bool true)) :
    lb_law_1 [some (.z, s), some (.z, .tuple [.int n, w, outs, h4]), some (.z, .int lat), some (.z, L ps), some (.z, .int k), x5, x6, x7] = .nx [some (.z, s), some (.z, .tuple [.int n, w, outs, h4]), some (.z, .int lat), some (.z, L ps), some (.z, .int k), some (.z, L bs), some (.z, L ins), some (.z, L st)] := by
  unfold lb_law_1
  simp (disch := first | omega | (simp only [List.length_map]; omega)) only [runD_ap, seq_eq, then_nx, then_rt, then_ex, then_ct, then_bk, sB_ok, sB_ex, bind_ok, bind_ex, of_some, gZ_z, gB_s, gBl_l, gBl_z, gF_s, gM_s, fC_ap, fN_ap, fZ_ap, vMv_ap, fV_ap, vF_ap, oF_f, oF_l, oB_f, oB_l, osN_f, osN_l, osC_f, osC_l, o2_ap, fB_ap, fsN_ap, fsC_ap, fLst_ap, fTup_ap, fMt_ap, mtS_l, mtE_l, bB_b, bV_ap, bBo_b, bF_ap, bO_ap, bNot_ap, bAnd_ap, bOr_ap, vIf_ap, vA_b, vO_b, vAnd_ap, vOr_ap, dNot_b, fNot_ap, dNg_i, fNeg_ap, fPN_ap, dPs_i, fPS_ap, vCut_ap, fIsi_ap, rOut_ok, rOut_ex, fCall_ap, fDct0_ap, dIterL_l, dIterL_t, iLT_ap, iR1_ap, iR2_ap, iEn_ap, iZp_ap, vLR1_ap, sNx_ap, sAsg_ap, sRet_ap, sExp_ap, sIf_ap, sFor_ap, oNx_s, sTgt_ap, fzE_s, sFz_ap, sRaise_ap, res_nx, res_rt, res_ex, st0, List.map_cons, List.map_nil, List.length_cons, List.length_nil, List.replicate_succ, List.replicate_zero, List.cons_append, List.nil_append, List.append_nil, List.getElem?_cons_zero, List.getElem?_cons_succ, List.set_cons_zero, List.set_cons_succ, Option.bind_some, Option.map_some, dTru, at_t0, at_t1, at_t2, at_t3, at_l0, at_l1, at_l2, at_l3, eq_int, ne_int, lt_int, gt_int, le_int, ge_int, add_int, sub_int, int_int, int_bool, len_l, len_t, len_scr, dListOf, dTupOf, decide_eq_true_eq, List.length_map, Nat.reduceAdd, Nat.reduceSub, Nat.reduceLeDiff, Nat.zero_add, if_true, if_false, ↓reduceIte, Bool.false_eq_true, Bool.not_true, Bool.not_false, fIn_ap, fGet_ap, inT_f, inT_t, gtT_s, key_i, isS_s, isS_n, map_none, sum_int, all_b, any_b, isi_int, isi_intb, isi_list, sTry_ap, tryE_ex, tryE_nx, tryE_rt, tryC_nx, tryC_rt, tryC_f, a0, hb, cut_l, cut_to, cut_mid, e1, e2, hr]
theorem law_ev (s d : D) (n lat : Nat) (cell : Int) (c0 w outs h4 : D) (hs ps ins st ws : List Int) (p0 p1 p2 : Int) (x4 x5 : Option Va) (hh4 : List D) (e0 : F_law_circuit [s, .int 40] = .ok (.z, c0)) (e1 : F_law_bare [s, c0] = .ok (.z, .tuple [.int n, w, outs, .tuple hh4])) (hlat : hh4.length = lat)
    (e2 : F_law_cell [s, .int 1] = .ok (.z, .int cell)) (e3 : F_law_parts [.int cell, L [1024, 2, 120]] = .ok (.l .z, L ps)) (a1 : dAt (L ps) (.int 1) = some (.z, .int p1)) (a2 : dAt (L ps) (.int 2) = some (.z, .int p2))
    (el : sForL (gN 4) lb_law_1 (rangeL 0 8) [some (.z, s), some (.z, .tuple [.int n, w, outs, .tuple hh4]), some (.z, .int lat), some (.z, L ps), none, none, none, none] = .nx [some (.z, s), some (.z, .tuple [.int n, w, outs, .tuple hh4]), some (.z, .int lat), some (.z, L ps), x4, x5, some (.z, L ins), some (.z, L st)])
    (hr0 : ∃ ws : List Int, F_law_wrong [L ins, .int p2] = .ok (.l .z, L ws) ∧ F_law_refuses [.tuple [.int n, w, outs, .tuple hh4], L ws, L st] = .ok (.z, .bool true))
    (hr1 : ∃ ws : List Int, F_law_wrong [L st, .int p2] = .ok (.l .z, L ws) ∧ F_law_refuses [.tuple [.int n, w, outs, .tuple hh4], L ins, L ws] = .ok (.z, .bool true)) : F_law [s] = .ok (.z, .bool true) := by
  obtain ⟨w0, r0, r0'⟩ := hr0
  obtain ⟨w1, r1, r1'⟩ := hr1
  simp only [L, List.map_cons, List.map_nil] at e3
  have h8 : (8 : Int).toNat = 8 := id rfl
  unfold F_law fb_law
  by_cases c : p1 = 0
  · simp (disch := decide) only [runD_ap, seq_eq, then_nx, then_rt, then_ex, then_ct, then_bk, sB_ok, sB_ex, bind_ok, bind_ex, of_some, gZ_z, gB_s, gBl_l, gBl_z, gF_s, gM_s, fC_ap, fN_ap, fZ_ap, vMv_ap, fV_ap, vF_ap, oF_f, oF_l, oB_f, oB_l, osN_f, osN_l, osC_f, osC_l, o2_ap, fB_ap, fsN_ap, fsC_ap, fLst_ap, fTup_ap, fMt_ap, mtS_l, mtE_l, bB_b, bV_ap, bBo_b, bF_ap, bO_ap, bNot_ap, bAnd_ap, bOr_ap, vIf_ap, vA_b, vO_b, vAnd_ap, vOr_ap, dNot_b, fNot_ap, dNg_i, fNeg_ap, fPN_ap, dPs_i, fPS_ap, vCut_ap, fIsi_ap, rOut_ok, rOut_ex, fCall_ap, fDct0_ap, dIterL_l, dIterL_t, iLT_ap, iR1_ap, iR2_ap, iEn_ap, iZp_ap, vLR1_ap, sNx_ap, sAsg_ap, sRet_ap, sExp_ap, sIf_ap, sFor_ap, oNx_s, sTgt_ap, fzE_s, sFz_ap, sRaise_ap, res_nx, res_rt, res_ex, st0, List.map_cons, List.map_nil, List.length_cons, List.length_nil, List.replicate_succ, List.replicate_zero, List.cons_append, List.nil_append, List.append_nil, List.getElem?_cons_zero, List.getElem?_cons_succ, List.set_cons_zero, List.set_cons_succ, Option.bind_some, Option.map_some, dTru, at_t0, at_t1, at_t2, at_t3, at_l0, at_l1, at_l2, at_l3, eq_int, ne_int, lt_int, gt_int, le_int, ge_int, add_int, sub_int, int_int, int_bool, len_l, len_t, len_scr, dListOf, dTupOf, decide_eq_true_eq, List.length_map, Nat.reduceAdd, Nat.reduceSub, Nat.reduceLeDiff, Nat.zero_add, if_true, if_false, ↓reduceIte, Bool.false_eq_true, Bool.not_true, Bool.not_false, fIn_ap, fGet_ap, inT_f, inT_t, gtT_s, key_i, isS_s, isS_n, map_none, sum_int, all_b, any_b, isi_int, isi_intb, isi_list, sTry_ap, tryE_ex, tryE_nx, tryE_rt, tryC_nx, tryC_rt, tryC_f, if_pos, e0, e1, e2, e3, hlat, h8, el, a1, a2, decide_eq_true c, r0, r0', r1, r1']
  · simp (disch := decide) only [runD_ap, seq_eq, then_nx, then_rt, then_ex, then_ct, then_bk, sB_ok, sB_ex, bind_ok, bind_ex, of_some, gZ_z, gB_s, gBl_l, gBl_z, gF_s, gM_s, fC_ap, fN_ap, fZ_ap, vMv_ap, fV_ap, vF_ap, oF_f, oF_l, oB_f, oB_l, osN_f, osN_l, osC_f, osC_l, o2_ap, fB_ap, fsN_ap, fsC_ap, fLst_ap, fTup_ap, fMt_ap, mtS_l, mtE_l, bB_b, bV_ap, bBo_b, bF_ap, bO_ap, bNot_ap, bAnd_ap, bOr_ap, vIf_ap, vA_b, vO_b, vAnd_ap, vOr_ap, dNot_b, fNot_ap, dNg_i, fNeg_ap, fPN_ap, dPs_i, fPS_ap, vCut_ap, fIsi_ap, rOut_ok, rOut_ex, fCall_ap, fDct0_ap, dIterL_l, dIterL_t, iLT_ap, iR1_ap, iR2_ap, iEn_ap, iZp_ap, vLR1_ap, sNx_ap, sAsg_ap, sRet_ap, sExp_ap, sIf_ap, sFor_ap, oNx_s, sTgt_ap, fzE_s, sFz_ap, sRaise_ap, res_nx, res_rt, res_ex, st0, List.map_cons, List.map_nil, List.length_cons, List.length_nil, List.replicate_succ, List.replicate_zero, List.cons_append, List.nil_append, List.append_nil, List.getElem?_cons_zero, List.getElem?_cons_succ, List.set_cons_zero, List.set_cons_succ, Option.bind_some, Option.map_some, dTru, at_t0, at_t1, at_t2, at_t3, at_l0, at_l1, at_l2, at_l3, eq_int, ne_int, lt_int, gt_int, le_int, ge_int, add_int, sub_int, int_int, int_bool, len_l, len_t, len_scr, dListOf, dTupOf, decide_eq_true_eq, List.length_map, Nat.reduceAdd, Nat.reduceSub, Nat.reduceLeDiff, Nat.zero_add, if_true, if_false, ↓reduceIte, Bool.false_eq_true, Bool.not_true, Bool.not_false, fIn_ap, fGet_ap, inT_f, inT_t, gtT_s, key_i, isS_s, isS_n, map_none, sum_int, all_b, any_b, isi_int, isi_intb, isi_list, sTry_ap, tryE_ex, tryE_nx, tryE_rt, tryC_nx, tryC_rt, tryC_f, if_pos, e0, e1, e2, e3, hlat, h8, el, a1, a2, decide_eq_false c, r0, r0', r1, r1']
theorem law_true (ns : List Int) (hns : ns.length ≤ 63) : F_law [scr ns] = .ok (.z, .bool true) := by
  obtain ⟨d0, n0, cs0, outs0, h40, e0, wf0⟩ := circuit_ok ns hns
  obtain ⟨d, cs, outs, h4, e1, wf⟩ := bare_ok ns wf0
  obtain ⟨cell, e2⟩ := cell_ok ns 1 (by omega)
  obtain ⟨ps, e3, hpl, hps⟩ := parts_ok cell [1024, 2, 120] (by simp) (by intro s hs; simp only [List.mem_cons, List.not_mem_nil, or_false] at hs; omega)
  have hpl : ps.length = 3 := hpl
  obtain ⟨p0, p1, p2, rfl⟩ : ∃ p0 p1 p2, ps = [p0, p1, p2] := by
    match ps, hpl with
    | [a, b, c], _ => exact ⟨a, b, c, rfl⟩
  have b2 := hps 2 p2 120 rfl rfl
  have a0 : dAt (L [p0, p1, p2]) (.int 0) = some (.z, .int p0) := at_l0
  have a1 : dAt (L [p0, p1, p2]) (.int 1) = some (.z, .int p1) := at_l1
  have a2 : dAt (L [p0, p1, p2]) (.int 2) = some (.z, .int p2) := at_l2
  generalize [p0, p1, p2] = ps at *
  have hd : d = .tuple [.int n0, .tuple (cs.map cellD), T outs, .tuple h4] := wf.eq
  have n6 := wf.n6
  have l4 := wf.l4
  have hh : ∃ Γ', sForL (gN 4) lb_law_1 (rangeL 0 8) [some (.z, scr ns), some (.z, d), some (.z, .int (nlat cs : Nat)), some (.z, L ps), none, none, none, none] = .nx Γ' ∧ ∃ x4 x5 x6 x7 : Option Va, Γ' = [some (.z, scr ns), some (.z, d), some (.z, .int (nlat cs : Nat)), some (.z, L ps), x4, x5, x6, x7] ∧ (0 < 0 + (rangeL 0 8).length → ∃ ins st : List Int, x6 = some (.z, L ins) ∧ x7 = some (.z, L st) ∧ ins.length = n0 ∧ st.length = nlat cs ∧ B01 ins ∧ B01 st) :=
    forL_inv (fun j Γ => ∃ x4 x5 x6 x7 : Option Va, Γ = [some (.z, scr ns), some (.z, d), some (.z, .int (nlat cs : Nat)), some (.z, L ps), x4, x5, x6, x7] ∧ (0 < j → ∃ ins st : List Int, x6 = some (.z, L ins) ∧ x7 = some (.z, L st) ∧ ins.length = n0 ∧ st.length = nlat cs ∧ B01 ins ∧ B01 st)) (rangeL 0 8) 0 _ ⟨none, none, none, none, rfl, fun h => absurd h (by decide)⟩ (by
      rintro i dd Γ hd' ⟨x4, x5, x6, x7, rfl, -⟩
      obtain ⟨hi, rfl⟩ := range0_get hd'
      obtain ⟨bs, eb, hbl, hb01⟩ := bits_ok (p0 + i) 10 (by decide)
      have hil : (bs.take n0).length = n0 := by rw [List.length_take]; omega
      have hsl : ((bs.drop n0).take (nlat cs)).length = nlat cs := by rw [List.length_take, List.length_drop]; omega
      have i01 : B01 (bs.take n0) := fun b hb => hb01 b (List.mem_of_mem_take hb)
      have s01 : B01 ((bs.drop n0).take (nlat cs)) := fun b hb => hb01 b (List.mem_of_mem_drop (List.mem_of_mem_take hb))
      have hr := right_ok wf _ _ hil hsl i01 s01
      rw [hd] at hr
      have et := lt_turn (scr ns) n0 (nlat cs) (.tuple (cs.map cellD)) (T outs) (.tuple h4) ps bs (bs.take n0) ((bs.drop n0).take (nlat cs)) p0 (i : Nat) x5 x6 x7 a0 eb (by omega) (by rw [List.map_take]) (by rw [List.map_take, List.map_drop]) hr
      rw [← hd] at et
      exact ⟨_, _, rfl, .inl et, _, _, _, _, rfl, fun _ => ⟨_, _, rfl, rfl, hil, hsl, i01, s01⟩⟩)
  obtain ⟨Γ', el, x4, x5, x6, x7, rfl, hx⟩ := hh
  obtain ⟨ins, st, rfl, rfl, hil, hsl, i01, s01⟩ := hx (by rw [range_len]; omega)
  obtain ⟨w0, r0, r0'⟩ := wrong_ok ins p2 b2.1 (by omega)
  obtain ⟨w1, r1, r1'⟩ := wrong_ok st p2 b2.1 (by omega)
  have f0 := refuses_ok wf w0 st (.inl (by rw [hil] at r0'; exact r0'))
  have f1 := refuses_ok wf ins w1 (.inr (by rw [hsl] at r1'; exact r1'))
  rw [hd] at el f0 f1 e1
  exact law_ev (scr ns) d n0 (nlat cs) cell d0 (.tuple (cs.map cellD)) (T outs) (.tuple h4) ns ps ins st [] p0 p1 p2 x4 x5 h4 e0 e1 wf.h4 e2 e3 a1 a2 el ⟨w0, r0, f0⟩ ⟨w1, r1, f1⟩
end K31
namespace K31
open PySem PySem.Spec PyProof.Rows L2 PV
theorem law_ok {P : Program} {w : World} {K : PySem.W.Frag} {mg : Str → Option Value} {base : Heap} (T : Tx K mg w) : FnOk P w K mg base (L2.CX P w) 6 T.f_law T.fd_law ["script"] (spTop K) := top_ok (ok_law T) law_true
theorem all_mk {P : Program} {w : World} {K : PySem.W.Frag} {h : Heap} {mg : Str → Option Value} {fa : Addr}
    {f_cell_value : Addr} {od_cell_value an_cell_value : Option Addr} {sl_cell_value : Array (Option Value)} {oc_cell_value kV_cell_value dc_cell_value pm_cell_value cd_cell_value ct_cell_value : Value}
    {f_check_bits : Addr} {od_check_bits an_check_bits : Option Addr} {sl_check_bits : Array (Option Value)} {oc_check_bits kV_check_bits dc_check_bits pm_check_bits cd_check_bits ct_check_bits : Value}
    {f_latch_cells : Addr} {od_latch_cells an_latch_cells : Option Addr} {sl_latch_cells : Array (Option Value)} {oc_latch_cells kV_latch_cells dc_latch_cells pm_latch_cells cd_latch_cells ct_latch_cells : Value}
    {f_settled_values : Addr} {od_settled_values an_settled_values : Option Addr} {sl_settled_values : Array (Option Value)} {oc_settled_values kV_settled_values dc_settled_values pm_settled_values cd_settled_values ct_settled_values : Value}
    {f_cell_values : Addr} {od_cell_values an_cell_values : Option Addr} {sl_cell_values : Array (Option Value)} {oc_cell_values kV_cell_values dc_cell_values pm_cell_values cd_cell_values ct_cell_values : Value}
    {f_circuit_outputs : Addr} {od_circuit_outputs an_circuit_outputs : Option Addr} {sl_circuit_outputs : Array (Option Value)} {oc_circuit_outputs kV_circuit_outputs dc_circuit_outputs pm_circuit_outputs cd_circuit_outputs ct_circuit_outputs : Value}
    {f_circuit_next : Addr} {od_circuit_next an_circuit_next : Option Addr} {sl_circuit_next : Array (Option Value)} {oc_circuit_next kV_circuit_next dc_circuit_next pm_circuit_next cd_circuit_next ct_circuit_next : Value}
    {f_law_cell : Addr} {od_law_cell an_law_cell : Option Addr} {sl_law_cell : Array (Option Value)} {oc_law_cell kV_law_cell dc_law_cell pm_law_cell cd_law_cell ct_law_cell : Value}
    {f_law_parts : Addr} {od_law_parts an_law_parts : Option Addr} {sl_law_parts : Array (Option Value)} {oc_law_parts kV_law_parts dc_law_parts pm_law_parts cd_law_parts ct_law_parts : Value}
    {f_law_is_integer : Addr} {od_law_is_integer an_law_is_integer : Option Addr} {sl_law_is_integer : Array (Option Value)} {oc_law_is_integer kV_law_is_integer dc_law_is_integer pm_law_is_integer cd_law_is_integer ct_law_is_integer : Value}
    {f_law_is_bits : Addr} {od_law_is_bits an_law_is_bits : Option Addr} {sl_law_is_bits : Array (Option Value)} {oc_law_is_bits kV_law_is_bits dc_law_is_bits pm_law_is_bits cd_law_is_bits ct_law_is_bits : Value}
    {f_law_bits : Addr} {od_law_bits an_law_bits : Option Addr} {sl_law_bits : Array (Option Value)} {oc_law_bits kV_law_bits dc_law_bits pm_law_bits cd_law_bits ct_law_bits : Value}
    {f_law_wrong : Addr} {od_law_wrong an_law_wrong : Option Addr} {sl_law_wrong : Array (Option Value)} {oc_law_wrong kV_law_wrong dc_law_wrong pm_law_wrong cd_law_wrong ct_law_wrong : Value}
    {f_law_kind : Addr} {od_law_kind an_law_kind : Option Addr} {sl_law_kind : Array (Option Value)} {oc_law_kind kV_law_kind dc_law_kind pm_law_kind cd_law_kind ct_law_kind : Value}
    {f_law_drawn : Addr} {od_law_drawn an_law_drawn : Option Addr} {sl_law_drawn : Array (Option Value)} {oc_law_drawn kV_law_drawn dc_law_drawn pm_law_drawn cd_law_drawn ct_law_drawn : Value}
    {f_law_circuit : Addr} {od_law_circuit an_law_circuit : Option Addr} {sl_law_circuit : Array (Option Value)} {oc_law_circuit kV_law_circuit dc_law_circuit pm_law_circuit cd_law_circuit ct_law_circuit : Value}
    {f_law_value : Addr} {od_law_value an_law_value : Option Addr} {sl_law_value : Array (Option Value)} {oc_law_value kV_law_value dc_law_value pm_law_value cd_law_value ct_law_value : Value}
    {f_law_values : Addr} {od_law_values an_law_values : Option Addr} {sl_law_values : Array (Option Value)} {oc_law_values kV_law_values dc_law_values pm_law_values cd_law_values ct_law_values : Value}
    {f_law_refuses : Addr} {od_law_refuses an_law_refuses : Option Addr} {sl_law_refuses : Array (Option Value)} {oc_law_refuses kV_law_refuses dc_law_refuses pm_law_refuses cd_law_refuses ct_law_refuses : Value}
    {f_law_right_case : Addr} {od_law_right_case an_law_right_case : Option Addr} {sl_law_right_case : Array (Option Value)} {oc_law_right_case kV_law_right_case dc_law_right_case pm_law_right_case cd_law_right_case ct_law_right_case : Value}
    {f_law_bare : Addr} {od_law_bare an_law_bare : Option Addr} {sl_law_bare : Array (Option Value)} {oc_law_bare kV_law_bare dc_law_bare pm_law_bare cd_law_bare ct_law_bare : Value}
    {f_law : Addr} {od_law an_law : Option Addr} {sl_law : Array (Option Value)} {oc_law kV_law dc_law pm_law cd_law ct_law : Value}
    {c_InvalidValues : Addr}
    {a_CONSTANTS : Addr} {es_CONSTANTS : Array DictEntry} {n_CONSTANTS : Nat}
    {u0_CONSTANTS : Value}
    {u1_CONSTANTS : Value}
    {u_NANDS : Value}
    {ta_dv_NANDS : Addr} {to_dv_NANDS : Option Addr} {ts_dv_NANDS : Array Value} {tn_dv_NANDS : Nat} {tl_dv_NANDS : Array (Option Value)} (X : K.In h) (G : h.Ns mainGlobals mg) (hfa : mg "law" = some (.ref fa))
    (a_cell_value : PySem.W.nsIn K mainGlobals "cell_value" = some (some (.ref f_cell_value)))
    (l_cell_value : K.lookup f_cell_value = some ⟨oc_cell_value, od_cell_value, .func (PySem.W.fnOf "cell_value" "cell_value" (defArgs s_cell_value) (defBody s_cell_value) (defScope s_cell_value) .none kV_cell_value dc_cell_value pm_cell_value an_cell_value cd_cell_value ct_cell_value), sl_cell_value⟩)
    (c_cell_value : PySem.W.codeIn K cd_cell_value "cell_value" = true)
    (k_cell_value : PySem.W.keepIn K (.ref f_cell_value) = true)
    (a_check_bits : PySem.W.nsIn K mainGlobals "check_bits" = some (some (.ref f_check_bits)))
    (l_check_bits : K.lookup f_check_bits = some ⟨oc_check_bits, od_check_bits, .func (PySem.W.fnOf "check_bits" "check_bits" (defArgs s_check_bits) (defBody s_check_bits) (defScope s_check_bits) .none kV_check_bits dc_check_bits pm_check_bits an_check_bits cd_check_bits ct_check_bits), sl_check_bits⟩)
    (c_check_bits : PySem.W.codeIn K cd_check_bits "check_bits" = true)
    (k_check_bits : PySem.W.keepIn K (.ref f_check_bits) = true)
    (a_latch_cells : PySem.W.nsIn K mainGlobals "latch_cells" = some (some (.ref f_latch_cells)))
    (l_latch_cells : K.lookup f_latch_cells = some ⟨oc_latch_cells, od_latch_cells, .func (PySem.W.fnOf "latch_cells" "latch_cells" (defArgs s_latch_cells) (defBody s_latch_cells) (defScope s_latch_cells) .none kV_latch_cells dc_latch_cells pm_latch_cells an_latch_cells cd_latch_cells ct_latch_cells), sl_latch_cells⟩)
    (c_latch_cells : PySem.W.codeIn K cd_latch_cells "latch_cells" = true)
    (k_latch_cells : PySem.W.keepIn K (.ref f_latch_cells) = true)
    (a_settled_values : PySem.W.nsIn K mainGlobals "settled_values" = some (some (.ref f_settled_values)))
    (l_settled_values : K.lookup f_settled_values = some ⟨oc_settled_values, od_settled_values, .func (PySem.W.fnOf "settled_values" "settled_values" (defArgs s_settled_values) (defBody s_settled_values) (defScope s_settled_values) .none kV_settled_values dc_settled_values pm_settled_values an_settled_values cd_settled_values ct_settled_values), sl_settled_values⟩)
    (c_settled_values : PySem.W.codeIn K cd_settled_values "settled_values" = true)
    (k_settled_values : PySem.W.keepIn K (.ref f_settled_values) = true)
    (a_cell_values : PySem.W.nsIn K mainGlobals "cell_values" = some (some (.ref f_cell_values)))
    (l_cell_values : K.lookup f_cell_values = some ⟨oc_cell_values, od_cell_values, .func (PySem.W.fnOf "cell_values" "cell_values" (defArgs s_cell_values) (defBody s_cell_values) (defScope s_cell_values) .none kV_cell_values dc_cell_values pm_cell_values an_cell_values cd_cell_values ct_cell_values), sl_cell_values⟩)
    (c_cell_values : PySem.W.codeIn K cd_cell_values "cell_values" = true)
    (k_cell_values : PySem.W.keepIn K (.ref f_cell_values) = true)
    (a_circuit_outputs : PySem.W.nsIn K mainGlobals "circuit_outputs" = some (some (.ref f_circuit_outputs)))
    (l_circuit_outputs : K.lookup f_circuit_outputs = some ⟨oc_circuit_outputs, od_circuit_outputs, .func (PySem.W.fnOf "circuit_outputs" "circuit_outputs" (defArgs s_circuit_outputs) (defBody s_circuit_outputs) (defScope s_circuit_outputs) .none kV_circuit_outputs dc_circuit_outputs pm_circuit_outputs an_circuit_outputs cd_circuit_outputs ct_circuit_outputs), sl_circuit_outputs⟩)
    (c_circuit_outputs : PySem.W.codeIn K cd_circuit_outputs "circuit_outputs" = true)
    (k_circuit_outputs : PySem.W.keepIn K (.ref f_circuit_outputs) = true)
    (a_circuit_next : PySem.W.nsIn K mainGlobals "circuit_next" = some (some (.ref f_circuit_next)))
    (l_circuit_next : K.lookup f_circuit_next = some ⟨oc_circuit_next, od_circuit_next, .func (PySem.W.fnOf "circuit_next" "circuit_next" (defArgs s_circuit_next) (defBody s_circuit_next) (defScope s_circuit_next) .none kV_circuit_next dc_circuit_next pm_circuit_next an_circuit_next cd_circuit_next ct_circuit_next), sl_circuit_next⟩)
    (c_circuit_next : PySem.W.codeIn K cd_circuit_next "circuit_next" = true)
    (k_circuit_next : PySem.W.keepIn K (.ref f_circuit_next) = true)
    (a_law_cell : PySem.W.nsIn K mainGlobals "_law_cell" = some (some (.ref f_law_cell)))
    (l_law_cell : K.lookup f_law_cell = some ⟨oc_law_cell, od_law_cell, .func (PySem.W.fnOf "_law_cell" "_law_cell" (defArgs s_law_cell) (defBody s_law_cell) (defScope s_law_cell) .none kV_law_cell dc_law_cell pm_law_cell an_law_cell cd_law_cell ct_law_cell), sl_law_cell⟩)
    (c_law_cell : PySem.W.codeIn K cd_law_cell "_law_cell" = true)
    (k_law_cell : PySem.W.keepIn K (.ref f_law_cell) = true)
    (a_law_parts : PySem.W.nsIn K mainGlobals "_law_parts" = some (some (.ref f_law_parts)))
    (l_law_parts : K.lookup f_law_parts = some ⟨oc_law_parts, od_law_parts, .func (PySem.W.fnOf "_law_parts" "_law_parts" (defArgs s_law_parts) (defBody s_law_parts) (defScope s_law_parts) .none kV_law_parts dc_law_parts pm_law_parts an_law_parts cd_law_parts ct_law_parts), sl_law_parts⟩)
    (c_law_parts : PySem.W.codeIn K cd_law_parts "_law_parts" = true)
    (k_law_parts : PySem.W.keepIn K (.ref f_law_parts) = true)
    (a_law_is_integer : PySem.W.nsIn K mainGlobals "_law_is_integer" = some (some (.ref f_law_is_integer)))
    (l_law_is_integer : K.lookup f_law_is_integer = some ⟨oc_law_is_integer, od_law_is_integer, .func (PySem.W.fnOf "_law_is_integer" "_law_is_integer" (defArgs s_law_is_integer) (defBody s_law_is_integer) (defScope s_law_is_integer) .none kV_law_is_integer dc_law_is_integer pm_law_is_integer an_law_is_integer cd_law_is_integer ct_law_is_integer), sl_law_is_integer⟩)
    (c_law_is_integer : PySem.W.codeIn K cd_law_is_integer "_law_is_integer" = true)
    (k_law_is_integer : PySem.W.keepIn K (.ref f_law_is_integer) = true)
    (a_law_is_bits : PySem.W.nsIn K mainGlobals "_law_is_bits" = some (some (.ref f_law_is_bits)))
    (l_law_is_bits : K.lookup f_law_is_bits = some ⟨oc_law_is_bits, od_law_is_bits, .func (PySem.W.fnOf "_law_is_bits" "_law_is_bits" (defArgs s_law_is_bits) (defBody s_law_is_bits) (defScope s_law_is_bits) .none kV_law_is_bits dc_law_is_bits pm_law_is_bits an_law_is_bits cd_law_is_bits ct_law_is_bits), sl_law_is_bits⟩)
    (c_law_is_bits : PySem.W.codeIn K cd_law_is_bits "_law_is_bits" = true)
    (k_law_is_bits : PySem.W.keepIn K (.ref f_law_is_bits) = true)
    (a_law_bits : PySem.W.nsIn K mainGlobals "_law_bits" = some (some (.ref f_law_bits)))
    (l_law_bits : K.lookup f_law_bits = some ⟨oc_law_bits, od_law_bits, .func (PySem.W.fnOf "_law_bits" "_law_bits" (defArgs s_law_bits) (defBody s_law_bits) (defScope s_law_bits) .none kV_law_bits dc_law_bits pm_law_bits an_law_bits cd_law_bits ct_law_bits), sl_law_bits⟩)
    (c_law_bits : PySem.W.codeIn K cd_law_bits "_law_bits" = true)
    (k_law_bits : PySem.W.keepIn K (.ref f_law_bits) = true)
    (a_law_wrong : PySem.W.nsIn K mainGlobals "_law_wrong" = some (some (.ref f_law_wrong)))
    (l_law_wrong : K.lookup f_law_wrong = some ⟨oc_law_wrong, od_law_wrong, .func (PySem.W.fnOf "_law_wrong" "_law_wrong" (defArgs s_law_wrong) (defBody s_law_wrong) (defScope s_law_wrong) .none kV_law_wrong dc_law_wrong pm_law_wrong an_law_wrong cd_law_wrong ct_law_wrong), sl_law_wrong⟩)
    (c_law_wrong : PySem.W.codeIn K cd_law_wrong "_law_wrong" = true)
    (k_law_wrong : PySem.W.keepIn K (.ref f_law_wrong) = true)
    (a_law_kind : PySem.W.nsIn K mainGlobals "_law_kind" = some (some (.ref f_law_kind)))
    (l_law_kind : K.lookup f_law_kind = some ⟨oc_law_kind, od_law_kind, .func (PySem.W.fnOf "_law_kind" "_law_kind" (defArgs s_law_kind) (defBody s_law_kind) (defScope s_law_kind) .none kV_law_kind dc_law_kind pm_law_kind an_law_kind cd_law_kind ct_law_kind), sl_law_kind⟩)
    (c_law_kind : PySem.W.codeIn K cd_law_kind "_law_kind" = true)
    (k_law_kind : PySem.W.keepIn K (.ref f_law_kind) = true)
    (a_law_drawn : PySem.W.nsIn K mainGlobals "_law_drawn" = some (some (.ref f_law_drawn)))
    (l_law_drawn : K.lookup f_law_drawn = some ⟨oc_law_drawn, od_law_drawn, .func (PySem.W.fnOf "_law_drawn" "_law_drawn" (defArgs s_law_drawn) (defBody s_law_drawn) (defScope s_law_drawn) .none kV_law_drawn dc_law_drawn pm_law_drawn an_law_drawn cd_law_drawn ct_law_drawn), sl_law_drawn⟩)
    (c_law_drawn : PySem.W.codeIn K cd_law_drawn "_law_drawn" = true)
    (k_law_drawn : PySem.W.keepIn K (.ref f_law_drawn) = true)
    (a_law_circuit : PySem.W.nsIn K mainGlobals "_law_circuit" = some (some (.ref f_law_circuit)))
    (l_law_circuit : K.lookup f_law_circuit = some ⟨oc_law_circuit, od_law_circuit, .func (PySem.W.fnOf "_law_circuit" "_law_circuit" (defArgs s_law_circuit) (defBody s_law_circuit) (defScope s_law_circuit) .none kV_law_circuit dc_law_circuit pm_law_circuit an_law_circuit cd_law_circuit ct_law_circuit), sl_law_circuit⟩)
    (c_law_circuit : PySem.W.codeIn K cd_law_circuit "_law_circuit" = true)
    (k_law_circuit : PySem.W.keepIn K (.ref f_law_circuit) = true)
    (a_law_value : PySem.W.nsIn K mainGlobals "_law_value" = some (some (.ref f_law_value)))
    (l_law_value : K.lookup f_law_value = some ⟨oc_law_value, od_law_value, .func (PySem.W.fnOf "_law_value" "_law_value" (defArgs s_law_value) (defBody s_law_value) (defScope s_law_value) .none kV_law_value dc_law_value pm_law_value an_law_value cd_law_value ct_law_value), sl_law_value⟩)
    (c_law_value : PySem.W.codeIn K cd_law_value "_law_value" = true)
    (k_law_value : PySem.W.keepIn K (.ref f_law_value) = true)
    (a_law_values : PySem.W.nsIn K mainGlobals "_law_values" = some (some (.ref f_law_values)))
    (l_law_values : K.lookup f_law_values = some ⟨oc_law_values, od_law_values, .func (PySem.W.fnOf "_law_values" "_law_values" (defArgs s_law_values) (defBody s_law_values) (defScope s_law_values) .none kV_law_values dc_law_values pm_law_values an_law_values cd_law_values ct_law_values), sl_law_values⟩)
    (c_law_values : PySem.W.codeIn K cd_law_values "_law_values" = true)
    (k_law_values : PySem.W.keepIn K (.ref f_law_values) = true)
    (a_law_refuses : PySem.W.nsIn K mainGlobals "_law_refuses" = some (some (.ref f_law_refuses)))
    (l_law_refuses : K.lookup f_law_refuses = some ⟨oc_law_refuses, od_law_refuses, .func (PySem.W.fnOf "_law_refuses" "_law_refuses" (defArgs s_law_refuses) (defBody s_law_refuses) (defScope s_law_refuses) .none kV_law_refuses dc_law_refuses pm_law_refuses an_law_refuses cd_law_refuses ct_law_refuses), sl_law_refuses⟩)
    (c_law_refuses : PySem.W.codeIn K cd_law_refuses "_law_refuses" = true)
    (k_law_refuses : PySem.W.keepIn K (.ref f_law_refuses) = true)
    (a_law_right_case : PySem.W.nsIn K mainGlobals "_law_right_case" = some (some (.ref f_law_right_case)))
    (l_law_right_case : K.lookup f_law_right_case = some ⟨oc_law_right_case, od_law_right_case, .func (PySem.W.fnOf "_law_right_case" "_law_right_case" (defArgs s_law_right_case) (defBody s_law_right_case) (defScope s_law_right_case) .none kV_law_right_case dc_law_right_case pm_law_right_case an_law_right_case cd_law_right_case ct_law_right_case), sl_law_right_case⟩)
    (c_law_right_case : PySem.W.codeIn K cd_law_right_case "_law_right_case" = true)
    (k_law_right_case : PySem.W.keepIn K (.ref f_law_right_case) = true)
    (a_law_bare : PySem.W.nsIn K mainGlobals "_law_bare" = some (some (.ref f_law_bare)))
    (l_law_bare : K.lookup f_law_bare = some ⟨oc_law_bare, od_law_bare, .func (PySem.W.fnOf "_law_bare" "_law_bare" (defArgs s_law_bare) (defBody s_law_bare) (defScope s_law_bare) .none kV_law_bare dc_law_bare pm_law_bare an_law_bare cd_law_bare ct_law_bare), sl_law_bare⟩)
    (c_law_bare : PySem.W.codeIn K cd_law_bare "_law_bare" = true)
    (k_law_bare : PySem.W.keepIn K (.ref f_law_bare) = true)
    (a_law : PySem.W.nsIn K mainGlobals "law" = some (some (.ref f_law)))
    (l_law : K.lookup f_law = some ⟨oc_law, od_law, .func (PySem.W.fnOf "law" "law" (defArgs s_law) (defBody s_law) (defScope s_law) .none kV_law dc_law pm_law an_law cd_law ct_law), sl_law⟩)
    (c_law : PySem.W.codeIn K cd_law "law" = true)
    (k_law : PySem.W.keepIn K (.ref f_law) = true)
    (z_all : PySem.W.nsIn K mainGlobals "all" = some none)
    (z_any : PySem.W.nsIn K mainGlobals "any" = some none)
    (z_bool : PySem.W.nsIn K mainGlobals "bool" = some none)
    (z_enumerate : PySem.W.nsIn K mainGlobals "enumerate" = some none)
    (z_int : PySem.W.nsIn K mainGlobals "int" = some none)
    (z_isinstance : PySem.W.nsIn K mainGlobals "isinstance" = some none)
    (z_len : PySem.W.nsIn K mainGlobals "len" = some none)
    (z_list : PySem.W.nsIn K mainGlobals "list" = some none)
    (z_max : PySem.W.nsIn K mainGlobals "max" = some none)
    (z_min : PySem.W.nsIn K mainGlobals "min" = some none)
    (z_range : PySem.W.nsIn K mainGlobals "range" = some none)
    (z_sum : PySem.W.nsIn K mainGlobals "sum" = some none)
    (z_tuple : PySem.W.nsIn K mainGlobals "tuple" = some none)
    (e1_InvalidValues : PySem.W.nsIn K mainGlobals "InvalidValues" = some (some (.ref c_InvalidValues)))
    (e2_InvalidValues : PySem.W.excIn K c_InvalidValues [.type "ValueError", .type "Exception", .type "BaseException", .type "object"] "ValueError.__new__" = true)
    (e3_InvalidValues : PySem.W.keepIn K (.ref c_InvalidValues) = true)
    (e4_InvalidValues : PySem.W.subIn K (.ref c_InvalidValues) (.type "BaseException") = some true)
    (e5_InvalidValues : PySem.W.typeIn K (.ref c_InvalidValues) = some (.type "type"))
    (e6_InvalidValues : PySem.W.isClsIn K c_InvalidValues = true)
    (e7_InvalidValues : PySem.W.subIn K (.ref c_InvalidValues) (.ref c_InvalidValues) = some true)
    (d1_CONSTANTS : PySem.W.nsIn K mainGlobals "CONSTANTS" = some (some (.ref a_CONSTANTS)))
    (d2_CONSTANTS : K.lookup a_CONSTANTS = some ⟨.type "dict", none, .dict es_CONSTANTS n_CONSTANTS, #[]⟩)
    (d3_CONSTANTS : PySem.W.KeysLit w.params es_CONSTANTS.toList)
    (d4_CONSTANTS : (a_CONSTANTS == sysModules) = false)
    (dn0_CONSTANTS : PySem.W.nsIn K a_CONSTANTS "not" = some none)
    (dn1_CONSTANTS : PySem.W.nsIn K a_CONSTANTS "nand2" = some none)
    (dn2_CONSTANTS : PySem.W.nsIn K a_CONSTANTS "nand3" = some none)
    (dn3_CONSTANTS : PySem.W.nsIn K a_CONSTANTS "nor2" = some none)
    (dn4_CONSTANTS : PySem.W.nsIn K a_CONSTANTS "nor3" = some none)
    (dy0_CONSTANTS : PySem.W.nsIn K a_CONSTANTS "tie0" = some (some u0_CONSTANTS))
    (r_dv0_CONSTANTS : RelV (.int 0) u0_CONSTANTS)
    (dy1_CONSTANTS : PySem.W.nsIn K a_CONSTANTS "tie1" = some (some u1_CONSTANTS))
    (r_dv1_CONSTANTS : RelV (.int 1) u1_CONSTANTS)
    (d1_NANDS : PySem.W.nsIn K mainGlobals "NANDS" = some (some u_NANDS))
    (r_dv_NANDS : RelV (.ref ta_dv_NANDS) u_NANDS)
    (tk_dv_NANDS : K.lookup ta_dv_NANDS = some ⟨.type "tuple", to_dv_NANDS, .seq ts_dv_NANDS tn_dv_NANDS, tl_dv_NANDS⟩)
    (tv_dv_NANDS : Vals [V.str (S "not"), V.str (S "nand2"), V.str (S "nand3")] ts_dv_NANDS.toList)
    (tz_dv_NANDS : ts_dv_NANDS.size ≤ sizeLine) :
    ∃ fd : FuncData, (∀ (s : Shared) (v : Value), BindsTo s fd ⟨[v], []⟩ [("script", v)]) ∧ ∀ base : Heap, K.In base → base.Ns mainGlobals mg → FnOk P w K mg base (L2.CX P w) 6 fa fd ["script"] (spTop K) := by
  have e := hfa.symm.trans (PySem.W.mg_of X G a_law)
  cases e
  have F_cell_value := fun_mk (st := s_cell_value) l_cell_value c_cell_value k_cell_value
  have b_cell_value := F_cell_value.binds (ps := ["kind", "values"]) fun _ _ _ _ _ _ us hl => match us, hl with | [_, _], _ => rfl
  have F_check_bits := fun_mk (st := s_check_bits) l_check_bits c_check_bits k_check_bits
  have b_check_bits := F_check_bits.binds (ps := ["bits", "count"]) fun _ _ _ _ _ _ us hl => match us, hl with | [_, _], _ => rfl
  have F_latch_cells := fun_mk (st := s_latch_cells) l_latch_cells c_latch_cells k_latch_cells
  have b_latch_cells := F_latch_cells.binds (ps := ["circuit"]) fun _ _ _ _ _ _ us hl => match us, hl with | [_], _ => rfl
  have F_settled_values := fun_mk (st := s_settled_values) l_settled_values c_settled_values k_settled_values
  have b_settled_values := F_settled_values.binds (ps := ["circuit", "inputs", "states", "stuck"]) fun _ _ _ _ _ _ us hl => match us, hl with | [_, _, _, _], _ => rfl
  have F_cell_values := fun_mk (st := s_cell_values) l_cell_values c_cell_values k_cell_values
  have b_cell_values := F_cell_values.binds (ps := ["circuit", "inputs", "states"]) fun _ _ _ _ _ _ us hl => match us, hl with | [_, _, _], _ => rfl
  have F_circuit_outputs := fun_mk (st := s_circuit_outputs) l_circuit_outputs c_circuit_outputs k_circuit_outputs
  have b_circuit_outputs := F_circuit_outputs.binds (ps := ["circuit", "inputs", "states"]) fun _ _ _ _ _ _ us hl => match us, hl with | [_, _, _], _ => rfl
  have F_circuit_next := fun_mk (st := s_circuit_next) l_circuit_next c_circuit_next k_circuit_next
  have b_circuit_next := F_circuit_next.binds (ps := ["circuit", "inputs", "states"]) fun _ _ _ _ _ _ us hl => match us, hl with | [_, _, _], _ => rfl
  have F_law_cell := fun_mk (st := s_law_cell) l_law_cell c_law_cell k_law_cell
  have b_law_cell := F_law_cell.binds (ps := ["script", "k"]) fun _ _ _ _ _ _ us hl => match us, hl with | [_, _], _ => rfl
  have F_law_parts := fun_mk (st := s_law_parts) l_law_parts c_law_parts k_law_parts
  have b_law_parts := F_law_parts.binds (ps := ["cell", "sizes"]) fun _ _ _ _ _ _ us hl => match us, hl with | [_, _], _ => rfl
  have F_law_is_integer := fun_mk (st := s_law_is_integer) l_law_is_integer c_law_is_integer k_law_is_integer
  have b_law_is_integer := F_law_is_integer.binds (ps := ["actual"]) fun _ _ _ _ _ _ us hl => match us, hl with | [_], _ => rfl
  have F_law_is_bits := fun_mk (st := s_law_is_bits) l_law_is_bits c_law_is_bits k_law_is_bits
  have b_law_is_bits := F_law_is_bits.binds (ps := ["actual", "count"]) fun _ _ _ _ _ _ us hl => match us, hl with | [_, _], _ => rfl
  have F_law_bits := fun_mk (st := s_law_bits) l_law_bits c_law_bits k_law_bits
  have b_law_bits := F_law_bits.binds (ps := ["number", "count"]) fun _ _ _ _ _ _ us hl => match us, hl with | [_, _], _ => rfl
  have F_law_wrong := fun_mk (st := s_law_wrong) l_law_wrong c_law_wrong k_law_wrong
  have b_law_wrong := F_law_wrong.binds (ps := ["bits", "choice"]) fun _ _ _ _ _ _ us hl => match us, hl with | [_, _], _ => rfl
  have F_law_kind := fun_mk (st := s_law_kind) l_law_kind c_law_kind k_law_kind
  have b_law_kind := F_law_kind.binds (ps := ["parts", "nets", "latches"]) fun _ _ _ _ _ _ us hl => match us, hl with | [_, _, _], _ => rfl
  have F_law_drawn := fun_mk (st := s_law_drawn) l_law_drawn c_law_drawn k_law_drawn
  have b_law_drawn := F_law_drawn.binds (ps := ["parts", "count", "nets"]) fun _ _ _ _ _ _ us hl => match us, hl with | [_, _, _], _ => rfl
  have F_law_circuit := fun_mk (st := s_law_circuit) l_law_circuit c_law_circuit k_law_circuit
  have b_law_circuit := F_law_circuit.binds (ps := ["script", "most"]) fun _ _ _ _ _ _ us hl => match us, hl with | [_, _], _ => rfl
  have F_law_value := fun_mk (st := s_law_value) l_law_value c_law_value k_law_value
  have b_law_value := F_law_value.binds (ps := ["kind", "bits"]) fun _ _ _ _ _ _ us hl => match us, hl with | [_, _], _ => rfl
  have F_law_values := fun_mk (st := s_law_values) l_law_values c_law_values k_law_values
  have b_law_values := F_law_values.binds (ps := ["circuit", "inputs", "states"]) fun _ _ _ _ _ _ us hl => match us, hl with | [_, _, _], _ => rfl
  have F_law_refuses := fun_mk (st := s_law_refuses) l_law_refuses c_law_refuses k_law_refuses
  have b_law_refuses := F_law_refuses.binds (ps := ["circuit", "inputs", "states"]) fun _ _ _ _ _ _ us hl => match us, hl with | [_, _, _], _ => rfl
  have F_law_right_case := fun_mk (st := s_law_right_case) l_law_right_case c_law_right_case k_law_right_case
  have b_law_right_case := F_law_right_case.binds (ps := ["circuit", "inputs", "states"]) fun _ _ _ _ _ _ us hl => match us, hl with | [_, _, _], _ => rfl
  have F_law_bare := fun_mk (st := s_law_bare) l_law_bare c_law_bare k_law_bare
  have b_law_bare := F_law_bare.binds (ps := ["script", "circuit"]) fun _ _ _ _ _ _ us hl => match us, hl with | [_, _], _ => rfl
  have F_law := fun_mk (st := s_law) l_law c_law k_law
  have b_law := F_law.binds (ps := ["script"]) fun _ _ _ _ _ _ us hl => match us, hl with | [_], _ => rfl
  have T : ∃ T : Tx K mg w, T.f_law = fa ∧ T.fd_law = PySem.W.fnOf "law" "law" (defArgs s_law) (defBody s_law) (defScope s_law) .none kV_law dc_law pm_law an_law cd_law ct_law := ⟨{
    f_cell_value := f_cell_value,
    fd_cell_value := _,
    F_cell_value := F_cell_value,
    g_cell_value := PySem.W.mg_of X G a_cell_value,
    kp_cell_value := k_cell_value,
    b_cell_value := b_cell_value,
    f_check_bits := f_check_bits,
    fd_check_bits := _,
    F_check_bits := F_check_bits,
    g_check_bits := PySem.W.mg_of X G a_check_bits,
    kp_check_bits := k_check_bits,
    b_check_bits := b_check_bits,
    f_latch_cells := f_latch_cells,
    fd_latch_cells := _,
    F_latch_cells := F_latch_cells,
    g_latch_cells := PySem.W.mg_of X G a_latch_cells,
    kp_latch_cells := k_latch_cells,
    b_latch_cells := b_latch_cells,
    f_settled_values := f_settled_values,
    fd_settled_values := _,
    F_settled_values := F_settled_values,
    g_settled_values := PySem.W.mg_of X G a_settled_values,
    kp_settled_values := k_settled_values,
    b_settled_values := b_settled_values,
    f_cell_values := f_cell_values,
    fd_cell_values := _,
    F_cell_values := F_cell_values,
    g_cell_values := PySem.W.mg_of X G a_cell_values,
    kp_cell_values := k_cell_values,
    b_cell_values := b_cell_values,
    f_circuit_outputs := f_circuit_outputs,
    fd_circuit_outputs := _,
    F_circuit_outputs := F_circuit_outputs,
    g_circuit_outputs := PySem.W.mg_of X G a_circuit_outputs,
    kp_circuit_outputs := k_circuit_outputs,
    b_circuit_outputs := b_circuit_outputs,
    f_circuit_next := f_circuit_next,
    fd_circuit_next := _,
    F_circuit_next := F_circuit_next,
    g_circuit_next := PySem.W.mg_of X G a_circuit_next,
    kp_circuit_next := k_circuit_next,
    b_circuit_next := b_circuit_next,
    f_law_cell := f_law_cell,
    fd_law_cell := _,
    F_law_cell := F_law_cell,
    g_law_cell := PySem.W.mg_of X G a_law_cell,
    kp_law_cell := k_law_cell,
    b_law_cell := b_law_cell,
    f_law_parts := f_law_parts,
    fd_law_parts := _,
    F_law_parts := F_law_parts,
    g_law_parts := PySem.W.mg_of X G a_law_parts,
    kp_law_parts := k_law_parts,
    b_law_parts := b_law_parts,
    f_law_is_integer := f_law_is_integer,
    fd_law_is_integer := _,
    F_law_is_integer := F_law_is_integer,
    g_law_is_integer := PySem.W.mg_of X G a_law_is_integer,
    kp_law_is_integer := k_law_is_integer,
    b_law_is_integer := b_law_is_integer,
    f_law_is_bits := f_law_is_bits,
    fd_law_is_bits := _,
    F_law_is_bits := F_law_is_bits,
    g_law_is_bits := PySem.W.mg_of X G a_law_is_bits,
    kp_law_is_bits := k_law_is_bits,
    b_law_is_bits := b_law_is_bits,
    f_law_bits := f_law_bits,
    fd_law_bits := _,
    F_law_bits := F_law_bits,
    g_law_bits := PySem.W.mg_of X G a_law_bits,
    kp_law_bits := k_law_bits,
    b_law_bits := b_law_bits,
    f_law_wrong := f_law_wrong,
    fd_law_wrong := _,
    F_law_wrong := F_law_wrong,
    g_law_wrong := PySem.W.mg_of X G a_law_wrong,
    kp_law_wrong := k_law_wrong,
    b_law_wrong := b_law_wrong,
    f_law_kind := f_law_kind,
    fd_law_kind := _,
    F_law_kind := F_law_kind,
    g_law_kind := PySem.W.mg_of X G a_law_kind,
    kp_law_kind := k_law_kind,
    b_law_kind := b_law_kind,
    f_law_drawn := f_law_drawn,
    fd_law_drawn := _,
    F_law_drawn := F_law_drawn,
    g_law_drawn := PySem.W.mg_of X G a_law_drawn,
    kp_law_drawn := k_law_drawn,
    b_law_drawn := b_law_drawn,
    f_law_circuit := f_law_circuit,
    fd_law_circuit := _,
    F_law_circuit := F_law_circuit,
    g_law_circuit := PySem.W.mg_of X G a_law_circuit,
    kp_law_circuit := k_law_circuit,
    b_law_circuit := b_law_circuit,
    f_law_value := f_law_value,
    fd_law_value := _,
    F_law_value := F_law_value,
    g_law_value := PySem.W.mg_of X G a_law_value,
    kp_law_value := k_law_value,
    b_law_value := b_law_value,
    f_law_values := f_law_values,
    fd_law_values := _,
    F_law_values := F_law_values,
    g_law_values := PySem.W.mg_of X G a_law_values,
    kp_law_values := k_law_values,
    b_law_values := b_law_values,
    f_law_refuses := f_law_refuses,
    fd_law_refuses := _,
    F_law_refuses := F_law_refuses,
    g_law_refuses := PySem.W.mg_of X G a_law_refuses,
    kp_law_refuses := k_law_refuses,
    b_law_refuses := b_law_refuses,
    f_law_right_case := f_law_right_case,
    fd_law_right_case := _,
    F_law_right_case := F_law_right_case,
    g_law_right_case := PySem.W.mg_of X G a_law_right_case,
    kp_law_right_case := k_law_right_case,
    b_law_right_case := b_law_right_case,
    f_law_bare := f_law_bare,
    fd_law_bare := _,
    F_law_bare := F_law_bare,
    g_law_bare := PySem.W.mg_of X G a_law_bare,
    kp_law_bare := k_law_bare,
    b_law_bare := b_law_bare,
    f_law := fa,
    fd_law := _,
    F_law := F_law,
    g_law := PySem.W.mg_of X G a_law,
    kp_law := k_law,
    b_law := b_law,
    m_all := PySem.W.mg_none_of X G z_all,
    m_any := PySem.W.mg_none_of X G z_any,
    m_bool := PySem.W.mg_none_of X G z_bool,
    m_enumerate := PySem.W.mg_none_of X G z_enumerate,
    m_int := PySem.W.mg_none_of X G z_int,
    m_isinstance := PySem.W.mg_none_of X G z_isinstance,
    m_len := PySem.W.mg_none_of X G z_len,
    m_list := PySem.W.mg_none_of X G z_list,
    m_max := PySem.W.mg_none_of X G z_max,
    m_min := PySem.W.mg_none_of X G z_min,
    m_range := PySem.W.mg_none_of X G z_range,
    m_sum := PySem.W.mg_none_of X G z_sum,
    m_tuple := PySem.W.mg_none_of X G z_tuple,
    c_InvalidValues := c_InvalidValues,
    g_InvalidValues := PySem.W.mg_of X G e1_InvalidValues,
    x_InvalidValues := e2_InvalidValues,
    kp_InvalidValues := e3_InvalidValues,
    sb_InvalidValues := e4_InvalidValues,
    ty_InvalidValues := e5_InvalidValues,
    em_InvalidValues := exm_of e4_InvalidValues e6_InvalidValues e5_InvalidValues e7_InvalidValues,
    a_CONSTANTS := a_CONSTANTS,
    g_CONSTANTS := PySem.W.mg_of X G d1_CONSTANTS,
    t_CONSTANTS := ktab_mk ⟨_, _, d2_CONSTANTS, d3_CONSTANTS, d4_CONSTANTS⟩ (⟨⟨_, _, dy0_CONSTANTS, r_dv0_CONSTANTS, fun _ => .int _⟩, ⟨⟨_, _, dy1_CONSTANTS, r_dv1_CONSTANTS, fun _ => .int _⟩, ⟨dn0_CONSTANTS, ⟨dn1_CONSTANTS, ⟨dn2_CONSTANTS, ⟨dn3_CONSTANTS, ⟨dn4_CONSTANTS, trivial⟩⟩⟩⟩⟩⟩⟩),
    a_NANDS := .ref ta_dv_NANDS,
    u_NANDS := _,
    g_NANDS := PySem.W.mg_of X G d1_NANDS,
    r_NANDS := r_dv_NANDS,
    k_NANDS := fun _ => .tup (.inr ⟨_, _, _, tk_dv_NANDS, rfl, rfl, tz_dv_NANDS, tv_dv_NANDS⟩) (.cons (.str _) (.cons (.str _) (.cons (.str _) (.nil)))) }, rfl, rfl⟩
  obtain ⟨T, e1, e2⟩ := T
  refine ⟨PySem.W.fnOf "law" "law" (defArgs s_law) (defBody s_law) (defScope s_law) .none kV_law dc_law pm_law an_law cd_law ct_law, fun s v => .of_eq rfl, fun base _ _ => ?_⟩
  have z := law_ok (P := P) (base := base) T
  rw [e1, e2] at z
  exact z
end K31
open PySem PySem.W PyProof.Rows
theorem PySem.Challenge.cw_pinsalone_k31_values_of_any_circuit_holds : PySem.Challenge.rw_pinsalone_k31_values_of_any_circuit.Holds := by
  w_on; o_law; k_head; (case hw => w_witness2)
  k_fill
  refine L2.walk_of (l := PySem.Challenge.rw_pinsalone_k31_values_of_any_circuit) (n := 63) (k := 6) (x := "script") (CX := fun w => L2.CX PySem.Challenge.rw_pinsalone_k31_values_of_any_circuit.prog w) (sp := fun w => PV.spTop _) rfl (by decide) rfl ⟨rfl, by decide, by decide⟩ (fun w h Y => PySem.W.kIn_of Y) ?F (fun _ _ a ns hl _ hS => ⟨a, ns, rfl, hS, hl, fun _ => rfl⟩) (fun w H s e s' h => PV.cx_false h)
  case F =>
    intro w mg fa h KX G hmg
    refine' K31.all_mk KX G hmg ?a_cell_value ?l_cell_value ?c_cell_value ?k_cell_value ?a_check_bits ?l_check_bits ?c_check_bits ?k_check_bits ?a_latch_cells ?l_latch_cells ?c_latch_cells ?k_latch_cells ?a_settled_values ?l_settled_values ?c_settled_values ?k_settled_values ?a_cell_values ?l_cell_values ?c_cell_values ?k_cell_values ?a_circuit_outputs ?l_circuit_outputs ?c_circuit_outputs ?k_circuit_outputs ?a_circuit_next ?l_circuit_next ?c_circuit_next ?k_circuit_next ?a_law_cell ?l_law_cell ?c_law_cell ?k_law_cell ?a_law_parts ?l_law_parts ?c_law_parts ?k_law_parts ?a_law_is_integer ?l_law_is_integer ?c_law_is_integer ?k_law_is_integer ?a_law_is_bits ?l_law_is_bits ?c_law_is_bits ?k_law_is_bits ?a_law_bits ?l_law_bits ?c_law_bits ?k_law_bits ?a_law_wrong ?l_law_wrong ?c_law_wrong ?k_law_wrong ?a_law_kind ?l_law_kind ?c_law_kind ?k_law_kind ?a_law_drawn ?l_law_drawn ?c_law_drawn ?k_law_drawn ?a_law_circuit ?l_law_circuit ?c_law_circuit ?k_law_circuit ?a_law_value ?l_law_value ?c_law_value ?k_law_value ?a_law_values ?l_law_values ?c_law_values ?k_law_values ?a_law_refuses ?l_law_refuses ?c_law_refuses ?k_law_refuses ?a_law_right_case ?l_law_right_case ?c_law_right_case ?k_law_right_case ?a_law_bare ?l_law_bare ?c_law_bare ?k_law_bare ?a_law ?l_law ?c_law ?k_law ?z_all ?z_any ?z_bool ?z_enumerate ?z_int ?z_isinstance ?z_len ?z_list ?z_max ?z_min ?z_range ?z_sum ?z_tuple ?e1_InvalidValues ?e2_InvalidValues ?e3_InvalidValues ?e4_InvalidValues ?e5_InvalidValues ?e6_InvalidValues ?e7_InvalidValues ?d1_CONSTANTS ?d2_CONSTANTS ?d3_CONSTANTS ?d4_CONSTANTS ?dn0_CONSTANTS ?dn1_CONSTANTS ?dn2_CONSTANTS ?dn3_CONSTANTS ?dn4_CONSTANTS ?dy0_CONSTANTS ?r_dv0_CONSTANTS ?dy1_CONSTANTS ?r_dv1_CONSTANTS ?d1_NANDS ?r_dv_NANDS ?tk_dv_NANDS ?tv_dv_NANDS ?tz_dv_NANDS
    (case a_cell_value => k_is)
    (case l_cell_value => k_is)
    (case c_cell_value => k_is)
    (case k_cell_value => k_is)
    (case a_check_bits => k_is)
    (case l_check_bits => k_is)
    (case c_check_bits => k_is)
    (case k_check_bits => k_is)
    (case a_latch_cells => k_is)
    (case l_latch_cells => k_is)
    (case c_latch_cells => k_is)
    (case k_latch_cells => k_is)
    (case a_settled_values => k_is)
    (case l_settled_values => k_is)
    (case c_settled_values => k_is)
    (case k_settled_values => k_is)
    (case a_cell_values => k_is)
    (case l_cell_values => k_is)
    (case c_cell_values => k_is)
    (case k_cell_values => k_is)
    (case a_circuit_outputs => k_is)
    (case l_circuit_outputs => k_is)
    (case c_circuit_outputs => k_is)
    (case k_circuit_outputs => k_is)
    (case a_circuit_next => k_is)
    (case l_circuit_next => k_is)
    (case c_circuit_next => k_is)
    (case k_circuit_next => k_is)
    (case a_law_cell => k_is)
    (case l_law_cell => k_is)
    (case c_law_cell => k_is)
    (case k_law_cell => k_is)
    (case a_law_parts => k_is)
    (case l_law_parts => k_is)
    (case c_law_parts => k_is)
    (case k_law_parts => k_is)
    (case a_law_is_integer => k_is)
    (case l_law_is_integer => k_is)
    (case c_law_is_integer => k_is)
    (case k_law_is_integer => k_is)
    (case a_law_is_bits => k_is)
    (case l_law_is_bits => k_is)
    (case c_law_is_bits => k_is)
    (case k_law_is_bits => k_is)
    (case a_law_bits => k_is)
    (case l_law_bits => k_is)
    (case c_law_bits => k_is)
    (case k_law_bits => k_is)
    (case a_law_wrong => k_is)
    (case l_law_wrong => k_is)
    (case c_law_wrong => k_is)
    (case k_law_wrong => k_is)
    (case a_law_kind => k_is)
    (case l_law_kind => k_is)
    (case c_law_kind => k_is)
    (case k_law_kind => k_is)
    (case a_law_drawn => k_is)
    (case l_law_drawn => k_is)
    (case c_law_drawn => k_is)
    (case k_law_drawn => k_is)
    (case a_law_circuit => k_is)
    (case l_law_circuit => k_is)
    (case c_law_circuit => k_is)
    (case k_law_circuit => k_is)
    (case a_law_value => k_is)
    (case l_law_value => k_is)
    (case c_law_value => k_is)
    (case k_law_value => k_is)
    (case a_law_values => k_is)
    (case l_law_values => k_is)
    (case c_law_values => k_is)
    (case k_law_values => k_is)
    (case a_law_refuses => k_is)
    (case l_law_refuses => k_is)
    (case c_law_refuses => k_is)
    (case k_law_refuses => k_is)
    (case a_law_right_case => k_is)
    (case l_law_right_case => k_is)
    (case c_law_right_case => k_is)
    (case k_law_right_case => k_is)
    (case a_law_bare => k_is)
    (case l_law_bare => k_is)
    (case c_law_bare => k_is)
    (case k_law_bare => k_is)
    (case a_law => k_is)
    (case l_law => k_is)
    (case c_law => k_is)
    (case k_law => k_is)
    (case z_all => k_is)
    (case z_any => k_is)
    (case z_bool => k_is)
    (case z_enumerate => k_is)
    (case z_int => k_is)
    (case z_isinstance => k_is)
    (case z_len => k_is)
    (case z_list => k_is)
    (case z_max => k_is)
    (case z_min => k_is)
    (case z_range => k_is)
    (case z_sum => k_is)
    (case z_tuple => k_is)
    (case e1_InvalidValues => k_is)
    (case e2_InvalidValues => k_exc)
    (case e3_InvalidValues => k_is)
    (case e4_InvalidValues => k_is)
    (case e5_InvalidValues => k_is)
    (case e6_InvalidValues => k_is)
    (case e7_InvalidValues => first | rfl | k_is)
    (case d1_CONSTANTS => k_is)
    (case d2_CONSTANTS => k_is)
    (case d3_CONSTANTS => k_keys)
    (case d4_CONSTANTS => decide)
    (case dn0_CONSTANTS => k_is)
    (case dn1_CONSTANTS => k_is)
    (case dn2_CONSTANTS => k_is)
    (case dn3_CONSTANTS => k_is)
    (case dn4_CONSTANTS => k_is)
    (case dy0_CONSTANTS => k_is)
    (case r_dv0_CONSTANTS => exact ⟨_, rfl⟩)
    (case dy1_CONSTANTS => k_is)
    (case r_dv1_CONSTANTS => exact ⟨_, rfl⟩)
    (case d1_NANDS => k_is)
    (case r_dv_NANDS => rfl)
    (case tk_dv_NANDS => k_is)
    (case tv_dv_NANDS => exact .cons ⟨_, rfl⟩ (.cons ⟨_, rfl⟩ (.cons ⟨_, rfl⟩ (.nil))))
    (case tz_dv_NANDS => decide)
