import PyProof.Rows.All
import HandS.ForMost
import HandS.Exc
import HandS.TryOnly
import HandS.ExcOwn
import HandS.WordsExc
import HandS.TupAny
import HandS.IsInst
import HandS.Deep
import HandS.Wide
import HandS.More
import HandS.Conv
import HandS.ExcIs
import HandS.DictComp
import PySem.Challenge.RW_pinsalone_k10_tests_show_all_flaws
set_option Elab.async false
set_option linter.all false
set_option maxRecDepth 100000
set_option maxHeartbeats 4000000
namespace PV
open PySem PySem.Spec PyProof.Rows L2

abbrev D := PyData
/-- a reference, nothing more -/
def rawD (a : Addr) : PyData := .dict [(.none, .int (a : Nat))]
abbrev Hp := L2.Hp
abbrev St := L2.St

def kD : Key → D
  | .inl i => .int i
  | .inr x => .str x
def kT (ks : List Key) : D := .tuple (ks.map kD)
/-- the rows of a dict whose keys are tuples -/
def tRows (kvs : List (List Key × V)) (ds : List D) : List (D × D) := (.bool true, .none) :: (kvs.map fun p => kT p.1).zip ds

/-! ### data that stands still -/
mutual
inductive Fz (K : PySem.W.Frag) (H : Hp) : V → D → Prop
  | non : Fz K H .non .none
  | bl (b : Bool) : Fz K H (.bl b) (.bool b)
  | int (i : Int) : Fz K H (.int i) (.int i)
  | str (x : Str) : Fz K H (.str x) (.str x)
  | lst {a : Addr} {xs : List V} {ds : List D} : H a = some (.lst xs) → FzAll K H xs ds → Fz K H (.ref a) (.list ds)
  /-- the script -/
  | scr {a : Addr} (ns : List Int) : SqL K H a (ns.map V.int) → Fz K H (.ref a) (.dict [(.none, .list (ns.map .int))])
  | tup {a : Addr} {xs : List V} {ds : List D} : H a = some (.tup xs) → FzAll K H xs ds → Fz K H (.ref a) (.tuple ds)
  /-- a tuple that the module has written -/
  | kt {a : Addr} {xs : List V} {ds : List D} : SqT K H a xs → FzAll K H xs ds → Fz K H (.ref a) (.dict [(.none, .tuple ds)])
  | raw (a : Addr) : Fz K H (.ref a) (rawD a)
  | dK {a : Addr} {kvs : List (Key × V)} {ds : List D} : H a = some (.dK kvs) → FzAll K H (kvs.map (·.2)) ds → Fz K H (.ref a) (.dict ((kvs.map fun p => kD p.1).zip ds))
  | dT {a : Addr} {kvs : List (List Key × V)} {ds : List D} : H a = some (.dT kvs) → FzAll K H (kvs.map (·.2)) ds → Fz K H (.ref a) (.dict (tRows kvs ds))
inductive FzAll (K : PySem.W.Frag) (H : Hp) : List V → List D → Prop
  | nil : FzAll K H [] []
  | cons {v : V} {vs : List V} {d : D} {ds : List D} : Fz K H v d → FzAll K H vs ds → FzAll K H (v :: vs) (d :: ds)
end

theorem Same.rd {H H' : Hp} {a : Addr} {u : HO} (e : Same H H') (h : Rd H a u) : Rd H' a u := by
  rcases h with h | ⟨o, h⟩
  · exact .inl (e _ _ h)
  · exact .inr ⟨o, e _ _ h⟩
theorem Same.seqT {K : PySem.W.Frag} {H H' : Hp} {a : Addr} {xs : List V} (e : Same H H') (h : SqT K H a xs) : SqT K H' a xs := by
  rcases h with (h | ⟨o, h⟩) | h
  · exact .inl (.inl (e _ _ h))
  · exact .inl (.inr ⟨o, e _ _ h⟩)
  · exact .inr h
mutual
theorem Fz.mono {K : PySem.W.Frag} {H H' : Hp} (s : Same H H') : ∀ {v : V} {d : D}, Fz K H v d → Fz K H' v d
  | _, _, .non => .non
  | _, _, .bl b => .bl b
  | _, _, .int i => .int i
  | _, _, .str x => .str x
  | _, _, .lst h r => .lst (s _ _ h) (FzAll.mono s r)
  | _, _, .scr ns h => .scr ns (s.seq h)
  | _, _, .tup h r => .tup (s _ _ h) (FzAll.mono s r)
  | _, _, .kt h r => .kt (Same.seqT s h) (FzAll.mono s r)
  | _, _, .raw a => .raw a
  | _, _, .dK h r => .dK (s _ _ h) (FzAll.mono s r)
  | _, _, .dT h r => .dT (s _ _ h) (FzAll.mono s r)
theorem FzAll.mono {K : PySem.W.Frag} {H H' : Hp} (s : Same H H') : ∀ {v : List V} {d : List D}, FzAll K H v d → FzAll K H' v d
  | _, _, .nil => .nil
  | _, _, .cons h r => .cons (Fz.mono s h) (FzAll.mono s r)
end
theorem FzAll.length {K : PySem.W.Frag} {H : Hp} : ∀ {vs : List V} {ds : List D}, FzAll K H vs ds → vs.length = ds.length
  | _, _, .nil => rfl
  | _, _, .cons _ r => congrArg (· + 1) r.length
theorem FzAll.get {K : PySem.W.Frag} {H : Hp} : ∀ {vs : List V} {ds : List D} {i : Nat} {d : D}, FzAll K H vs ds → ds[i]? = some d → ∃ v, vs[i]? = some v ∧ Fz K H v d
  | _, _, _, _, .nil, e => by simp at e
  | _, _, 0, _, .cons h _, e => by
    simp at e
    subst e
    exact ⟨_, rfl, h⟩
  | _, _, i + 1, _, .cons _ r, e => r.get (i := i) (by simpa using e)
theorem FzAll.append {K : PySem.W.Frag} {H : Hp} : ∀ {vs ws : List V} {ds es : List D}, FzAll K H vs ds → FzAll K H ws es → FzAll K H (vs ++ ws) (ds ++ es)
  | _, _, _, _, .nil, s => s
  | _, _, _, _, .cons h r, s => .cons h (r.append s)
theorem FzAll.take {K : PySem.W.Frag} {H : Hp} : ∀ {vs : List V} {ds : List D} (n : Nat), FzAll K H vs ds → FzAll K H (vs.take n) (ds.take n)
  | _, _, 0, _ => .nil
  | _, _, _ + 1, .nil => .nil
  | _, _, n + 1, .cons h r => .cons h (r.take n)
theorem FzAll.drop {K : PySem.W.Frag} {H : Hp} : ∀ {vs : List V} {ds : List D} (n : Nat), FzAll K H vs ds → FzAll K H (vs.drop n) (ds.drop n)
  | _, _, 0, r => r
  | _, _, _ + 1, .nil => .nil
  | _, _, n + 1, .cons _ r => r.drop n
theorem FzAll.eraseIdx {K : PySem.W.Frag} {H : Hp} : ∀ {vs : List V} {ds : List D} (i : Nat), FzAll K H vs ds → FzAll K H (vs.eraseIdx i) (ds.eraseIdx i)
  | _, _, _, .nil => .nil
  | _, _, 0, .cons _ t => t
  | _, _, i + 1, .cons r t => .cons r (t.eraseIdx i)
theorem FzAll.set {K : PySem.W.Frag} {H : Hp} {v : V} {d : D} (h : Fz K H v d) : ∀ {vs : List V} {ds : List D} (i : Nat), FzAll K H vs ds → FzAll K H (vs.set i v) (ds.set i d)
  | _, _, _, .nil => .nil
  | _, _, 0, .cons _ t => .cons h t
  | _, _, i + 1, .cons r t => .cons r (FzAll.set h i t)
theorem FzAll.reverse {K : PySem.W.Frag} {H : Hp} {vs : List V} {ds : List D} (h : FzAll K H vs ds) : FzAll K H vs.reverse ds.reverse := by
  induction vs generalizing ds with
  | nil => cases h; exact .nil
  | cons v vs ih =>
    cases h with
    | cons h r => rw [List.reverse_cons, List.reverse_cons]; exact (ih r).append (.cons h .nil)
theorem FzAll.ints {K : PySem.W.Frag} {H : Hp} : ∀ {vs : List V} {ns : List Int}, FzAll K H vs (ns.map .int) → vs = ns.map V.int
  | _, [], .nil => rfl
  | _, _ :: _, .cons (.int _) r => by rw [List.map_cons, r.ints]
theorem FzAll.of_ints {K : PySem.W.Frag} {H : Hp} : ∀ (ns : List Int), FzAll K H (ns.map V.int) (ns.map .int)
  | [] => .nil
  | n :: ns => .cons (.int n) (of_ints ns)
theorem FzAll.bools {K : PySem.W.Frag} {H : Hp} : ∀ {vs : List V} {ns : List Bool}, FzAll K H vs (ns.map .bool) → vs = ns.map V.bl
  | _, [], .nil => rfl
  | _, _ :: _, .cons (.bl _) r => by rw [List.map_cons, r.bools]
theorem FzAll.strs {K : PySem.W.Frag} {H : Hp} : ∀ {vs : List V} {ns : List Str}, FzAll K H vs (ns.map .str) → vs = ns.map V.str
  | _, [], .nil => rfl
  | _, _ :: _, .cons (.str _) r => by rw [List.map_cons, r.strs]
mutual
theorem Fz.dp {K : PySem.W.Frag} {H : Hp} : ∀ {v : V} {d : D}, Fz K H v d → d.canLay0 = true → Dp K H v d
  | _, _, .non, _ => .non
  | _, _, .bl b, _ => .bl b
  | _, _, .int i, _ => .int i
  | _, _, .str x, _ => .str x
  | _, _, .lst h r, c => .lst (.inl (.inl h)) (FzAll.dp r c)
  | _, _, .scr _ _, c => nomatch c
  | _, _, .tup h r, c => .tup (SqT.of h) (FzAll.dp r c)
  | _, _, .kt _ _, c => nomatch c
  | _, _, .raw _, c => nomatch c
  | _, _, .dK _ _, c => nomatch c
  | _, _, .dT _ _, c => nomatch c
theorem FzAll.dp {K : PySem.W.Frag} {H : Hp} : ∀ {v : List V} {d : List D}, FzAll K H v d → PyData.canLayAll0 d = true → DpAll K H v d
  | _, _, .nil, _ => .nil
  | _, _, .cons h r, c => by
    have c' := Bool.and_eq_true_iff.mp (show (_ && _) = true from c)
    exact .cons (Fz.dp h c'.1) (FzAll.dp r c'.2)
end

/-! ### owned data -/
inductive Sh where
  | z | l (s : Sh) | d (s : Sh) | e (s : Sh)
  deriving DecidableEq
inductive OwnL (R : V → D → List Addr → Prop) : List V → List D → List Addr → Prop
  | nil : OwnL R [] [] []
  | cons {v : V} {d : D} {A : List Addr} {vs : List V} {ds : List D} {B : List Addr} : R v d A → OwnL R vs ds B → OwnL R (v :: vs) (d :: ds) (A ++ B)
def Own (K : PySem.W.Frag) (Hf H : Hp) : Sh → V → D → List Addr → Prop
  | .z, v, d, A => A = [] ∧ Fz K Hf v d
  | .l s, v, d, A => ∃ a vs ds B, v = .ref a ∧ d = .list ds ∧ H a = some (.lst vs) ∧ OwnL (Own K Hf H s) vs ds B ∧ A = a :: B
  | .d s, v, d, A => ∃ a kvs ds B, v = .ref a ∧ d = .dict ((kvs.map fun p => kD p.1).zip ds) ∧ H a = some (.dK kvs) ∧ OwnL (Own K Hf H s) (kvs.map (·.2)) ds B ∧ A = a :: B
  | .e s, v, d, A => ∃ a kvs ds B, v = .ref a ∧ d = .dict (tRows kvs ds) ∧ H a = some (.dT kvs) ∧ OwnL (Own K Hf H s) (kvs.map (·.2)) ds B ∧ A = a :: B
section
variable {K : PySem.W.Frag} {Hf Hf' H H' : Hp}
theorem OwnL.imp {R R' : V → D → List Addr → Prop} : ∀ {vs : List V} {ds : List D} {A : List Addr}, OwnL R vs ds A → (∀ v d B, (∀ a ∈ B, a ∈ A) → R v d B → R' v d B) → OwnL R' vs ds A
  | _, _, _, .nil, _ => .nil
  | _, _, _, .cons h r, f => .cons (f _ _ _ (fun a ha => List.mem_append_left _ ha) h) (r.imp fun v d B hB => f v d B fun a ha => List.mem_append_right _ (hB a ha))
theorem OwnL.append {R : V → D → List Addr → Prop} : ∀ {vs ws : List V} {ds es : List D} {A B : List Addr}, OwnL R vs ds A → OwnL R ws es B → OwnL R (vs ++ ws) (ds ++ es) (A ++ B)
  | _, _, _, _, _, _, .nil, s => s
  | _, _, _, _, _, _, .cons h r, s => by rw [List.append_assoc]; exact .cons h (r.append s)
theorem OwnL.length {R : V → D → List Addr → Prop} : ∀ {vs : List V} {ds : List D} {A : List Addr}, OwnL R vs ds A → vs.length = ds.length
  | _, _, _, .nil => rfl
  | _, _, _, .cons _ r => congrArg (· + 1) r.length
/-- what is owned stands as long as its footprint does -/
theorem Own.keep (sf : Same Hf Hf') : ∀ {s : Sh} {v : V} {d : D} {A : List Addr}, Own K Hf H s v d A → (∀ a ∈ A, H' a = H a) → Own K Hf' H' s v d A
  | .z, _, _, _, h, _ => ⟨h.1, h.2.mono sf⟩
  | .l s, _, _, _, ⟨a, vs, ds, B, e1, e2, e3, r, e4⟩, k =>
    ⟨a, vs, ds, B, e1, e2, (k a (by rw [e4]; exact List.mem_cons_self)).trans e3, r.imp fun v d C hC h => Own.keep sf h fun b hb => k b (by rw [e4]; exact List.mem_cons_of_mem _ (hC b hb)), e4⟩
  | .d s, _, _, _, ⟨a, kvs, ds, B, e1, e2, e3, r, e4⟩, k =>
    ⟨a, kvs, ds, B, e1, e2, (k a (by rw [e4]; exact List.mem_cons_self)).trans e3, r.imp fun v d C hC h => Own.keep sf h fun b hb => k b (by rw [e4]; exact List.mem_cons_of_mem _ (hC b hb)), e4⟩
  | .e s, _, _, _, ⟨a, kvs, ds, B, e1, e2, e3, r, e4⟩, k =>
    ⟨a, kvs, ds, B, e1, e2, (k a (by rw [e4]; exact List.mem_cons_self)).trans e3, r.imp fun v d C hC h => Own.keep sf h fun b hb => k b (by rw [e4]; exact List.mem_cons_of_mem _ (hC b hb)), e4⟩
mutual
/-- frozen -/
theorem Own.fz (sf : Same Hf Hf') : ∀ {s : Sh} {v : V} {d : D} {A : List Addr}, Own K Hf H s v d A → (∀ a ∈ A, Hf' a = H a) → Fz K Hf' v d
  | .z, _, _, _, h, _ => h.2.mono sf
  | .l s, _, _, _, ⟨a, vs, ds, B, e1, e2, e3, r, e4⟩, k => by
    subst e1 e2
    exact .lst ((k a (by rw [e4]; exact List.mem_cons_self)).trans e3) (OwnL.fz sf r fun b hb => k b (by rw [e4]; exact List.mem_cons_of_mem _ hb))
  | .d s, _, _, _, ⟨a, kvs, ds, B, e1, e2, e3, r, e4⟩, k => by
    subst e1 e2
    exact .dK ((k a (by rw [e4]; exact List.mem_cons_self)).trans e3) (OwnL.fz sf r fun b hb => k b (by rw [e4]; exact List.mem_cons_of_mem _ hb))
  | .e s, _, _, _, ⟨a, kvs, ds, B, e1, e2, e3, r, e4⟩, k => by
    subst e1 e2
    exact .dT ((k a (by rw [e4]; exact List.mem_cons_self)).trans e3) (OwnL.fz sf r fun b hb => k b (by rw [e4]; exact List.mem_cons_of_mem _ hb))
theorem OwnL.fz (sf : Same Hf Hf') {s : Sh} : ∀ {vs : List V} {ds : List D} {A : List Addr}, OwnL (Own K Hf H s) vs ds A → (∀ a ∈ A, Hf' a = H a) → FzAll K Hf' vs ds
  | _, _, _, .nil, _ => .nil
  | _, _, _, .cons h r, k => .cons (Own.fz sf h fun a ha => k a (List.mem_append_left _ ha)) (OwnL.fz sf r fun a ha => k a (List.mem_append_right _ ha))
end
theorem OwnL.zs : ∀ {vs : List V} {ds : List D} {A : List Addr}, OwnL (Own K Hf H .z) vs ds A → A = [] ∧ FzAll K Hf vs ds
  | _, _, _, .nil => ⟨rfl, .nil⟩
  | _, _, _, .cons h r => by
    obtain ⟨e, q⟩ := OwnL.zs r
    refine ⟨?_, .cons h.2 q⟩
    rw [h.1, e]
    rfl
theorem OwnL.of_zs : ∀ {vs : List V} {ds : List D}, FzAll K Hf vs ds → OwnL (Own K Hf H .z) vs ds []
  | _, _, .nil => .nil
  | _, _, .cons h r => .cons (A := []) ⟨rfl, h⟩ (OwnL.of_zs r)
theorem OwnL.thereL {R : V → D → List Addr → Prop} (hR : ∀ {v : V} {d : D} {A : List Addr}, R v d A → ∀ a ∈ A, H a ≠ none) : ∀ {vs : List V} {ds : List D} {A : List Addr}, OwnL R vs ds A → ∀ b ∈ A, H b ≠ none
  | _, _, _, .nil, _, hb => nomatch hb
  | _, _, _, .cons h r, b, hb => (List.mem_append.mp hb).elim (hR h b) (OwnL.thereL hR r b)
theorem Own.there : ∀ {s : Sh} {v : V} {d : D} {A : List Addr}, Own K Hf H s v d A → ∀ a ∈ A, H a ≠ none
  | .z, _, _, _, h, a, ha => by rw [h.1] at ha; cases ha
  | .l s, _, _, _, ⟨a, vs, ds, B, e1, e2, e3, r, e4⟩, b, hb => by
    rw [e4] at hb
    rcases List.mem_cons.mp hb with rfl | hb
    · rw [e3]; exact fun z => by cases z
    · exact OwnL.thereL (fun h => Own.there h) r b hb
  | .d s, _, _, _, ⟨a, kvs, ds, B, e1, e2, e3, r, e4⟩, b, hb => by
    rw [e4] at hb
    rcases List.mem_cons.mp hb with rfl | hb
    · rw [e3]; exact fun z => by cases z
    · exact OwnL.thereL (fun h => Own.there h) r b hb
  | .e s, _, _, _, ⟨a, kvs, ds, B, e1, e2, e3, r, e4⟩, b, hb => by
    rw [e4] at hb
    rcases List.mem_cons.mp hb with rfl | hb
    · rw [e3]; exact fun z => by cases z
    · exact OwnL.thereL (fun h => Own.there h) r b hb
end

/-! ### the state of a def -/
abbrev Va := Sh × D
abbrev Ev := List (Option Va)
structure Exc where
  c : Str
  fs : List (Str × D)
inductive Out (α : Type) where
  | ok (a : α) (Γ : Ev)
  | ex (e : Exc) (Γ : Ev)
  | st
inductive SO where
  | nx (Γ : Ev)
  | rt (x : Va) (Γ : Ev)
  | bk (Γ : Ev)
  | ct (Γ : Ev)
  | ex (e : Exc) (Γ : Ev)
  | st
inductive Res where
  | ok (x : Va)
  | ex (e : Exc)
  | st
/-- what is fixed while a def runs: what stood frozen and what was tracked at its entry, the wish about exceptions -/
structure Gh where
  K : PySem.W.Frag
  f0 : Hp
  h0 : Hp
abbrev Ow := Addr → Option (Nat ⊕ Nat)
def Has (g : Gh) (Hf H : Hp) (ω : Ow) (i : Nat ⊕ Nat) (v : V) (x : Va) : Prop := ∃ A, Own g.K Hf H x.1 v x.2 A ∧ A.Nodup ∧ ∀ a ∈ A, ω a = some i
def FrOk (g : Gh) (Hf H : Hp) (ω : Ow) : List (V × Va) → Prop
  | [] => True
  | p :: fr => Has g Hf H ω (.inr fr.length) p.1 p.2 ∧ FrOk g Hf H ω fr
structure StW (g : Gh) (Hf H : Hp) (σ : St) (Γ : Ev) (fr : List (V × Va)) (ω : Ow) : Prop where
  base : Same g.h0 H
  sub : Same Hf H
  old : Same g.f0 Hf
  new : ∀ a, Hf a ≠ none → g.f0 a ≠ none ∨ g.h0 a = none
  own : ∀ a i, ω a = some i → g.h0 a = none ∧ Hf a = none ∧ H a ≠ none
  len : Γ.length = σ.length
  slots : ∀ i x, Γ[i]? = some (some x) → ∃ v, σ[i]? = some (some v) ∧ Has g Hf H ω (.inl i) v x
  fr : FrOk g Hf H ω fr
def StOk (g : Gh) (Hf H : Hp) (σ : St) (Γ : Ev) (fr : List (V × Va)) : Prop := ∃ ω, StW g Hf H σ Γ fr ω
section
variable {g : Gh} {Hf Hf' H H' : Hp} {σ : St} {Γ : Ev} {fr : List (V × Va)} {ω ω' : Ow}
theorem Has.mono {i : Nat ⊕ Nat} {v : V} {x : Va} (h : Has g Hf H ω i v x) (sf : Same Hf Hf') (k : ∀ a, ω a = some i → H' a = H a ∧ ω' a = some i) : Has g Hf' H' ω' i v x := by
  obtain ⟨A, o, nd, q⟩ := h
  exact ⟨A, o.keep sf fun a ha => (k a (q a ha)).1, nd, fun a ha => (k a (q a ha)).2⟩
theorem FrOk.mono : ∀ {fr : List (V × Va)}, FrOk g Hf H ω fr → Same Hf Hf' → (∀ a j, j < fr.length → ω a = some (.inr j) → H' a = H a ∧ ω' a = some (.inr j)) → FrOk g Hf' H' ω' fr
  | [], _, _, _ => trivial
  | p :: fr, h, sf, k => ⟨h.1.mono sf fun a => k a _ (Nat.lt_succ_self _), FrOk.mono h.2 sf fun a j hj => k a j (Nat.lt_succ_of_lt hj)⟩
theorem FrOk.pop : ∀ {fr fr' : List (V × Va)}, FrOk g Hf H ω (fr ++ fr') → FrOk g Hf H ω fr'
  | [], _, h => h
  | _ :: fr, _, h => FrOk.pop (fr := fr) h.2
theorem StOk.pop {p : V × Va} (h : StOk g Hf H σ Γ (p :: fr)) : StOk g Hf H σ Γ fr := by
  obtain ⟨ω, h⟩ := h
  exact ⟨ω, { h with fr := h.fr.2 }⟩
theorem StOk.sub (h : StOk g Hf H σ Γ fr) : Same Hf H := h.choose_spec.sub
/-- the heap has grown -/
theorem StOk.grow (h : StOk g Hf H σ Γ fr) (s : Same H H') : StOk g Hf H' σ Γ fr := by
  obtain ⟨ω, h⟩ := h
  have k : ∀ a i, ω a = some i → H' a = H a := fun a i e => by
    have n := (h.own a i e).2.2
    cases q : H a with
    | none => exact absurd q n
    | some o => exact s a o q
  refine ⟨ω, fun b o e => s b o (h.base b o e), fun b o e => s b o (h.sub b o e), h.old, h.new, fun a i e => ⟨(h.own a i e).1, (h.own a i e).2.1, by rw [k a i e]; exact (h.own a i e).2.2⟩, h.len, fun i x e => ?_, h.fr.mono (Same.refl _) fun a j _ e => ⟨k a _ e, e⟩⟩
  obtain ⟨v, e1, q⟩ := h.slots i x e
  exact ⟨v, e1, q.mono (Same.refl _) fun a e => ⟨k a _ e, e⟩⟩
/-- the frozen part has grown by something new -/
theorem StOk.freeze (h : StOk g Hf H σ Γ fr) (s : Same H H') (f1 : Same Hf Hf') (f2 : Same Hf' H') (f3 : ∀ a, Hf' a ≠ none → Hf a ≠ none ∨ H a = none) : StOk g Hf' H' σ Γ fr := by
  obtain ⟨ω, h⟩ := h
  have k : ∀ a i, ω a = some i → H' a = H a := fun a i e => by
    have n := (h.own a i e).2.2
    cases q : H a with
    | none => exact absurd q n
    | some o => exact s a o q
  have kf : ∀ a i, ω a = some i → Hf' a = none := fun a i e => by
    cases q : Hf' a with
    | none => rfl
    | some o =>
      rcases f3 a (by rw [q]; exact fun z => nomatch z) with z | z
      · exact absurd (h.own a i e).2.1 z
      · exact absurd z (h.own a i e).2.2
  refine ⟨ω, fun b o e => s b o (h.base b o e), f2, fun b o e => f1 b o (h.old b o e), fun a n => ?_, fun a i e => ⟨(h.own a i e).1, kf a i e, by rw [k a i e]; exact (h.own a i e).2.2⟩, h.len, fun i x e => ?_, h.fr.mono f1 fun a j _ e => ⟨k a _ e, e⟩⟩
  · rcases f3 a n with z | z
    · exact h.new a z
    · exact .inr (Same.free h.base z)
  · obtain ⟨v, e1, q⟩ := h.slots i x e
    exact ⟨v, e1, q.mono f1 fun a e => ⟨k a _ e, e⟩⟩
/-- a value that stands frozen is pushed -/
theorem StOk.push (h : StOk g Hf H σ Γ fr) {v : V} {d : D} (q : Fz g.K Hf v d) : StOk g Hf H σ Γ ((v, .z, d) :: fr) := by
  obtain ⟨ω, h⟩ := h
  exact ⟨ω, { h with fr := ⟨⟨[], ⟨rfl, q⟩, List.nodup_nil, fun _ z => nomatch z⟩, h.fr⟩ }⟩
/-- the top of the frame is frozen data -/
theorem StOk.top (h : StOk g Hf H σ Γ ((v, .z, d) :: fr)) : Fz g.K Hf v d := by
  obtain ⟨ω, h⟩ := h
  obtain ⟨A, o, _⟩ := h.fr.1
  exact o.2
/-- what a value needs to be new: its owned part is new, its frozen part stands -/
structure NewV (K : PySem.W.Frag) (Hf H H' : Hp) (Hf' : Hp) (v : V) (x : Va) : Prop where
  s : Same H H'
  f1 : Same Hf Hf'
  f2 : Same Hf' H'
  f3 : ∀ a, Hf' a ≠ none → Hf a ≠ none ∨ H a = none
  o : ∃ A, Own K Hf' H' x.1 v x.2 A ∧ A.Nodup ∧ ∀ a ∈ A, H a = none ∧ Hf' a = none
/-- a new value is pushed -/
theorem StOk.pushN (h0 : StOk g Hf H σ Γ fr) {v : V} {x : Va} (n : NewV g.K Hf H H' Hf' v x) : StOk g Hf' H' σ Γ ((v, x) :: fr) := by
  obtain ⟨A, o, nd, hA⟩ := n.o
  have h1 : Same g.h0 H := by
    obtain ⟨ω, h⟩ := h0
    exact h.base
  obtain ⟨ω0, k0⟩ := id h0
  obtain ⟨ω, h⟩ := h0.freeze n.s n.f1 n.f2 n.f3
  have nA : ∀ a ∈ A, ω0 a = none := fun a ha => by
    cases q : ω0 a with
    | none => rfl
    | some i => exact absurd (hA a ha).1 (k0.own a i q).2.2
  have hw : StW g Hf' H' σ Γ fr ω0 := by
    have k : ∀ a i, ω0 a = some i → H' a = H a := fun a i e => by
      have z := (k0.own a i e).2.2
      cases q : H a with
      | none => exact absurd q z
      | some o => exact n.s a o q
    have kf : ∀ a i, ω0 a = some i → Hf' a = none := fun a i e => by
      cases q : Hf' a with
      | none => rfl
      | some o =>
        rcases n.f3 a (by rw [q]; exact fun z => nomatch z) with z | z
        · exact absurd (k0.own a i e).2.1 z
        · exact absurd z (k0.own a i e).2.2
    refine ⟨h.base, h.sub, h.old, h.new, fun a i e => ⟨(k0.own a i e).1, kf a i e, by rw [k a i e]; exact (k0.own a i e).2.2⟩, h.len, fun i x e => ?_, k0.fr.mono n.f1 fun a j _ e => ⟨k a _ e, e⟩⟩
    obtain ⟨v, e1, q⟩ := k0.slots i x e
    exact ⟨v, e1, q.mono n.f1 fun a e => ⟨k a _ e, e⟩⟩
  classical
  refine ⟨fun a => if a ∈ A then some (.inr fr.length) else ω0 a, hw.base, hw.sub, hw.old, hw.new, fun a i e => ?_, hw.len, fun i x e => ?_, ⟨⟨A, o, nd, fun a ha => if_pos ha⟩, hw.fr.mono (Same.refl _) fun a j _ e => ⟨rfl, ?_⟩⟩⟩
  · by_cases ha : a ∈ A
    · exact ⟨Same.free h1 (hA a ha).1, (hA a ha).2, o.there a ha⟩
    · simp only [if_neg ha] at e
      exact hw.own a i e
  · obtain ⟨v, e1, q⟩ := hw.slots i x e
    refine ⟨v, e1, q.mono (Same.refl _) fun a e => ⟨rfl, ?_⟩⟩
    by_cases ha : a ∈ A
    · rw [nA a ha] at e; cases e
    · simp only [if_neg ha]; exact e
  · by_cases ha : a ∈ A
    · rw [nA a ha] at e; cases e
    · simp only [if_neg ha]; exact e
/-- owner i is frozen -/
theorem StW.freezeAt (h : StW g Hf H σ Γ fr ω) (i : Nat ⊕ Nat) : ∃ (Hf' : Hp) (ω' : Ow), Same Hf Hf' ∧ (∀ a, ω a = some i → Hf' a = H a) ∧ Same Hf' H ∧ Same g.f0 Hf' ∧ (∀ a, Hf' a ≠ none → g.f0 a ≠ none ∨ g.h0 a = none) ∧ (∀ a j, ω' a = some j → g.h0 a = none ∧ Hf' a = none ∧ H a ≠ none) ∧ (∀ a j, j ≠ i → ω a = some j → ω' a = some j) := by
  classical
  refine ⟨fun a => if ω a = some i then H a else Hf a, fun a => if ω a = some i then none else ω a, fun a o e => ?_, fun a e => if_pos e, fun a o e => ?_, fun a o e => ?_, fun a n => ?_, fun a j e => ?_, fun a j hj e => ?_⟩
  · by_cases z : ω a = some i
    · rw [(h.own a i z).2.1] at e; cases e
    · simp only [if_neg z]; exact e
  · by_cases z : ω a = some i
    · simp only [if_pos z] at e; exact e
    · simp only [if_neg z] at e; exact h.sub a o e
  · by_cases z : ω a = some i
    · have := h.old a o e
      rw [(h.own a i z).2.1] at this; cases this
    · simp only [if_neg z]; exact h.old a o e
  · by_cases z : ω a = some i
    · exact .inr (h.own a i z).1
    · simp only [if_neg z] at n; exact h.new a n
  · by_cases z : ω a = some i
    · simp only [if_pos z] at e; cases e
    · simp only [if_neg z] at e
      simp only [if_neg z]
      exact h.own a j e
  · have z : ¬ ω a = some i := fun z => hj (Option.some.inj (e.symm.trans z))
    simp only [if_neg z]; exact e
/-- the top of the frame is frozen -/
theorem StOk.frz {v : V} {x : Va} (h : StOk g Hf H σ Γ ((v, x) :: fr)) : ∃ Hf', Same Hf Hf' ∧ StOk g Hf' H σ Γ ((v, .z, x.2) :: fr) := by
  obtain ⟨ω, h⟩ := h
  obtain ⟨Hf', ω', f1, f2, f3, f4, f5, f6, f7⟩ := h.freezeAt (.inr fr.length)
  obtain ⟨⟨A, o, nd, hA⟩, hr⟩ := h.fr
  refine ⟨Hf', f1, ω', h.base, f3, f4, f5, f6, h.len, fun i x e => ?_, ⟨⟨[], ⟨rfl, o.fz f1 fun a ha => f2 a (hA a ha)⟩, List.nodup_nil, fun _ z => nomatch z⟩, hr.mono f1 fun a j hj e => ⟨rfl, f7 a _ (fun z => by cases z; exact absurd hj (Nat.lt_irrefl _)) e⟩⟩⟩
  obtain ⟨v, e1, q⟩ := h.slots i x e
  exact ⟨v, e1, q.mono f1 fun a e => ⟨rfl, f7 a _ (fun z => nomatch z) e⟩⟩
/-- a slot is frozen -/
theorem StOk.frzSlot {i : Nat} {x : Va} (h : StOk g Hf H σ Γ fr) (hi : Γ[i]? = some (some x)) : ∃ Hf' v, Same Hf Hf' ∧ σ[i]? = some (some v) ∧ StOk g Hf' H σ (Γ.set i (some (.z, x.2))) ((v, .z, x.2) :: fr) := by
  obtain ⟨ω, h⟩ := h
  obtain ⟨Hf', ω', f1, f2, f3, f4, f5, f6, f7⟩ := h.freezeAt (.inl i)
  obtain ⟨v, e1, A, o, nd, hA⟩ := h.slots i x hi
  have fz : Fz g.K Hf' v x.2 := o.fz f1 fun a ha => f2 a (hA a ha)
  refine ⟨Hf', v, f1, e1, ω', h.base, f3, f4, f5, f6, by rw [List.length_set]; exact h.len, fun j y e => ?_, ⟨⟨[], ⟨rfl, fz⟩, List.nodup_nil, fun _ z => nomatch z⟩, h.fr.mono f1 fun a j _ e => ⟨rfl, f7 a _ (fun z => nomatch z) e⟩⟩⟩
  by_cases hj : i = j
  · subst hj
    rw [List.getElem?_set_self (List.getElem?_eq_some_iff.mp hi).1] at e
    cases e
    exact ⟨v, e1, [], ⟨rfl, fz⟩, List.nodup_nil, fun _ z => nomatch z⟩
  · rw [List.getElem?_set_ne hj] at e
    obtain ⟨w, e2, q⟩ := h.slots j y e
    exact ⟨w, e2, q.mono f1 fun a e => ⟨rfl, f7 a _ (fun z => by cases z; exact hj rfl) e⟩⟩
/-- the top of the frame is stored -/
theorem StOk.store {v : V} {x : Va} (h : StOk g Hf H σ Γ ((v, x) :: fr)) (i : Nat) : StOk g Hf H (σ.set i (some v)) (Γ.set i (some x)) fr := by
  obtain ⟨ω, h⟩ := h
  obtain ⟨⟨A, o, nd, hA⟩, hr⟩ := h.fr
  classical
  refine ⟨fun a => if ω a = some (.inr fr.length) then some (.inl i) else ω a, h.base, h.sub, h.old, h.new, fun a j e => ?_, by rw [List.length_set, List.length_set]; exact h.len, fun j y e => ?_, hr.mono (Same.refl _) fun a j hj e => ⟨rfl, ?_⟩⟩
  · by_cases z : ω a = some (.inr fr.length)
    · exact h.own a _ z
    · simp only [if_neg z] at e; exact h.own a j e
  · by_cases hj : i = j
    · subst hj
      have hi : i < Γ.length := by
        have := (List.getElem?_eq_some_iff.mp e).1
        simpa using this
      rw [List.getElem?_set_self hi] at e
      cases e
      refine ⟨v, List.getElem?_set_self (by rw [← h.len]; exact hi), A, o, nd, fun a ha => if_pos (hA a ha)⟩
    · rw [List.getElem?_set_ne hj] at e
      obtain ⟨w, e2, q⟩ := h.slots j y e
      refine ⟨w, by rw [List.getElem?_set_ne hj]; exact e2, q.mono (Same.refl _) fun a e => ⟨rfl, ?_⟩⟩
      have z : ¬ ω a = some (.inr fr.length) := fun z => by rw [e] at z; cases z
      simp only [if_neg z]; exact e
  · have z : ¬ ω a = some (.inr fr.length) := fun z => by
      rw [e] at z
      cases z
      exact absurd hj (Nat.lt_irrefl _)
    simp only [if_neg z]; exact e
/-- slots forgotten -/
theorem StOk.weak {σ' : St} {Γ' : Ev} (h : StOk g Hf H σ Γ fr) (hl : Γ'.length = σ'.length) (k : ∀ (i : Nat) (x : Va), Γ'[i]? = some (some x) → Γ[i]? = some (some x) ∧ σ'[i]? = σ[i]?) : StOk g Hf H σ' Γ' fr := by
  obtain ⟨ω, h⟩ := h
  refine ⟨ω, h.base, h.sub, h.old, h.new, h.own, hl, fun i x e => ?_, h.fr⟩
  obtain ⟨e1, e2⟩ := k i x e
  obtain ⟨v, q1, q2⟩ := h.slots i x e1
  exact ⟨v, by rw [e2]; exact q1, q2⟩
/-- what stands at a slot, frozen -/
theorem StOk.getZ {i : Nat} {d : D} (h : StOk g Hf H σ Γ fr) (hi : Γ[i]? = some (some (.z, d))) : ∃ v, σ[i]? = some (some v) ∧ Fz g.K Hf v d := by
  obtain ⟨ω, h⟩ := h
  obtain ⟨v, e, A, o, _⟩ := h.slots i _ hi
  exact ⟨v, e, o.2⟩
/-- the owned list at a slot -/
theorem StOk.getL {i : Nat} {s : Sh} {ds : List D} (h : StOk g Hf H σ Γ fr) (hi : Γ[i]? = some (some (.l s, .list ds))) : ∃ a vs, σ[i]? = some (some (.ref a)) ∧ H a = some (.lst vs) ∧ vs.length = ds.length := by
  obtain ⟨ω, h⟩ := h
  obtain ⟨v, e, A, o, _⟩ := h.slots i _ hi
  obtain ⟨a, vs, ds', B, e1, e2, e3, r, e4⟩ := o
  cases e2
  subst e1
  exact ⟨a, vs, e, e3, r.length⟩
/-- the owned list of frozen items at a slot is rewritten with frozen items -/
theorem StOk.mut {i : Nat} {ds ds' : List D} {a : Addr} {vs' : List V} (h : StOk g Hf H σ Γ fr) (hi : Γ[i]? = some (some (.l .z, .list ds))) (ha : σ[i]? = some (some (.ref a))) (hv : FzAll g.K Hf vs' ds') :
    StOk g Hf (upd H a (.lst vs')) σ (Γ.set i (some (.l .z, .list ds'))) fr := by
  obtain ⟨ω, h⟩ := h
  obtain ⟨v, e, A, o, nd, hA⟩ := h.slots i _ hi
  obtain ⟨a', vs, ds0, B, e1, e2, e3, r, e4⟩ := o
  rw [e] at ha
  cases ha
  cases e1
  have wa : ω a = some (.inl i) := hA a (by rw [e4]; exact List.mem_cons_self)
  have ow := h.own a _ wa
  have k : ∀ b j, j ≠ Sum.inl i → ω b = some j → upd H a (.lst vs') b = H b := fun b j hj e => upd_ne (fun z => hj (by rw [z, wa] at e; exact (Option.some.inj e).symm))
  refine ⟨ω, fun b o e => ?_, fun b o e => ?_, h.old, h.new, fun b j e => ⟨(h.own b j e).1, (h.own b j e).2.1, ?_⟩, by rw [List.length_set]; exact h.len, fun j y e' => ?_, h.fr.mono (Same.refl _) fun b j _ e => ⟨k b (.inr j) (fun z => nomatch z) e, e⟩⟩
  · rw [upd_ne (ne_of_none e ow.1)]; exact h.base b o e
  · rw [upd_ne (ne_of_none e ow.2.1)]; exact h.sub b o e
  · by_cases z : b = a
    · subst z; rw [upd_same]; exact fun z => nomatch z
    · rw [upd_ne z]; exact (h.own b j e).2.2
  · by_cases hj : i = j
    · subst hj
      rw [List.getElem?_set_self (List.getElem?_eq_some_iff.mp hi).1] at e'
      cases e'
      exact ⟨.ref a, e, [a], ⟨a, vs', ds', [], rfl, rfl, upd_same, OwnL.of_zs hv, rfl⟩, by simp, fun b hb => by rw [List.mem_singleton.mp hb]; exact wa⟩
    · rw [List.getElem?_set_ne hj] at e'
      obtain ⟨w, e2, q⟩ := h.slots j y e'
      exact ⟨w, e2, q.mono (Same.refl _) fun b e => ⟨k b _ (fun z => by cases z; exact hj rfl) e, e⟩⟩
end

/-! ### new values -/
section
variable {K : PySem.W.Frag} {Hf H : Hp}
theorem NewV.z {v : V} {d : D} (s : Same Hf H) (h : Fz K Hf v d) : NewV K Hf H H Hf v (.z, d) := ⟨Same.refl _, Same.refl _, s, fun _ n => .inl n, [], ⟨rfl, h⟩, List.nodup_nil, fun _ z => nomatch z⟩
theorem same_new {H : Hp} {p : Addr} {o : HO} (n : H p = none) : Same H (upd H p o) := fun b u e => by rw [upd_ne (ne_of_none e n)]; exact e
theorem NewV.lst {p : Addr} {vs : List V} {ds : List D} (s : Same Hf H) (n : H p = none) (h : FzAll K Hf vs ds) : NewV K Hf H (upd H p (.lst vs)) Hf (.ref p) (.l .z, .list ds) :=
  ⟨same_new n, Same.refl _, s.trans (same_new n), fun _ n => .inl n, [p], ⟨p, vs, ds, [], rfl, rfl, upd_same, OwnL.of_zs h, rfl⟩, by simp, fun a ha => by rw [List.mem_singleton.mp ha]; exact ⟨n, Same.free s n⟩⟩
theorem NewV.tup {p : Addr} {vs : List V} {ds : List D} (s : Same Hf H) (n : H p = none) (h : FzAll K Hf vs ds) : NewV K Hf H (upd H p (.tup vs)) (upd Hf p (.tup vs)) (.ref p) (.z, .tuple ds) := by
  have nf : Hf p = none := Same.free s n
  refine ⟨same_new n, same_new nf, fun b o e => ?_, fun b e => ?_, [], ⟨rfl, .tup upd_same (h.mono (same_new nf))⟩, List.nodup_nil, fun _ z => nomatch z⟩
  · by_cases z : b = p
    · subst z; rw [upd_same] at e ⊢; exact e
    · rw [upd_ne z] at e ⊢; exact s b o e
  · by_cases z : b = p
    · subst z; exact .inr n
    · rw [upd_ne z] at e; exact .inl e
end
end PV
namespace PV
open PySem PySem.Spec PyProof.Rows L2

/-! ### what a def computes, as plain functions -/
def Out.bind {α β : Type} (o : Out α) (k : α → Ev → Out β) : Out β := match o with
  | .ok a Γ => k a Γ
  | .ex e Γ => .ex e Γ
  | .st => .st
def Out.of {α : Type} (o : Option α) (Γ : Ev) : Out α := match o with
  | some a => .ok a Γ
  | none => .st
/-- an operand: what it gives when it is asked, and what stands there when it is used -/
structure Opn where
  f : Ev → Out D
  l : Ev → D → Option D
structure Opns where
  f : Ev → Out (List D)
  l : Ev → List D → Option (List D)
/-- the top node is read in H, what is below stands frozen -/
def Fz1 (K : PySem.W.Frag) (Hf H : Hp) (v : V) (d : D) : Prop := Fz K Hf v d ∨ ∃ a vs ds, v = .ref a ∧ d = .list ds ∧ H a = some (.lst vs) ∧ FzAll K Hf vs ds
inductive Fz1All (K : PySem.W.Frag) (Hf H : Hp) : List V → List D → Prop
  | nil : Fz1All K Hf H [] []
  | cons {v : V} {vs : List V} {d : D} {ds : List D} : Fz1 K Hf H v d → Fz1All K Hf H vs ds → Fz1All K Hf H (v :: vs) (d :: ds)
/-- .. and the module's names, the wish about exceptions -/
structure GW where
  h : Gh
  mg : Str → Option Value
  W : WX
def ExOk (g : GW) (Hf : Hp) (e : Exc) (cls : Value) (dx : Option Addr) : Prop :=
  g.mg e.c = some cls ∧ ((e.fs = [] ∧ dx = none) ∨ ∃ a fv, dx = some a ∧ Hf a = some (.xd fv) ∧ fv.map (·.1) = e.fs.map (·.1) ∧ FzAll g.h.K Hf (fv.map (·.2)) (e.fs.map (·.2)) ∧ e.fs ≠ [])
def PEx (g : GW) (Hf : Hp) (σ : St) (fr : List (V × Va)) (e : Exc) (Γ' : Ev) : Prop :=
  ∀ cls dx H' Hf', Same Hf Hf' → ExOk g Hf' e cls dx → StOk g.h Hf' H' σ Γ' fr → g.W cls dx σ H'
def Late (g : GW) (Hf : Hp) (σ : St) (v : V) (L : Ev → Option D) : Prop :=
  ∀ Γ2 Hf2 H2 fr2, Same Hf Hf2 → StOk g.h Hf2 H2 σ Γ2 fr2 → ∀ d, L Γ2 = some d → Fz1 g.h.K Hf2 H2 v d
def Lates (g : GW) (Hf : Hp) (σ : St) (v : List V) (L : Ev → Option (List D)) : Prop :=
  ∀ Γ2 Hf2 H2 fr2, Same Hf Hf2 → StOk g.h Hf2 H2 σ Γ2 fr2 → ∀ d, L Γ2 = some d → Fz1All g.h.K Hf2 H2 v d
/-- generic ends -/
def Post {α β : Type} (g : GW) (σ : St) (fr : List (V × Va)) (R : Hp → Hp → α → Ev → β → Prop) (Hf : Hp) (Q : β → Hp → Prop) : Out α → Prop
  | .ok a Γ' => ∀ b H' Hf', Same Hf Hf' → R Hf' H' a Γ' b → Q b H'
  | .ex e Γ' => PEx g Hf σ fr e Γ'
  | .st => False
def RV (g : GW) (σ : St) (fr : List (V × Va)) : Hp → Hp → Va → Ev → V → Prop := fun Hf H x Γ v => StOk g.h Hf H σ Γ ((v, x) :: fr)
def RO (g : GW) (σ : St) (fr : List (V × Va)) (l : Ev → D → Option D) : Hp → Hp → D → Ev → V → Prop := fun Hf H d Γ v => StOk g.h Hf H σ Γ fr ∧ Late g Hf σ v fun Γ2 => l Γ2 d
def RA (g : GW) (σ : St) (fr : List (V × Va)) (l : Ev → List D → Option (List D)) : Hp → Hp → List D → Ev → List V → Prop := fun Hf H d Γ v => StOk g.h Hf H σ Γ fr ∧ Lates g Hf σ v fun Γ2 => l Γ2 d
def RT (g : GW) (σ : St) (fr : List (V × Va)) : Hp → Hp → Bool → Ev → Bool → Prop := fun Hf H b Γ c => StOk g.h Hf H σ Γ fr ∧ c = b
def tV (g : GW) (f : Ev → Out Va) : TE := fun σ H Q => ∃ Hf Γ fr, StOk g.h Hf H σ Γ fr ∧ Post g σ fr (RV g σ fr) Hf Q (f Γ)
def tO (g : GW) (o : Opn) : TE := fun σ H Q => ∃ Hf Γ fr, StOk g.h Hf H σ Γ fr ∧ Post g σ fr (RO g σ fr o.l) Hf Q (o.f Γ)
def tA (g : GW) (o : Opns) : TA := fun σ H Q => ∃ Hf Γ fr, StOk g.h Hf H σ Γ fr ∧ Post g σ fr (RA g σ fr o.l) Hf Q (o.f Γ)
def tT (g : GW) (c : Ev → Out Bool) : TT := fun σ H Q => ∃ Hf Γ fr, StOk g.h Hf H σ Γ fr ∧ Post g σ fr (RT g σ fr) Hf Q (c Γ)
abbrev gh (X : Cx) (W : WX) (f0 h0 : Hp) : GW := ⟨⟨X.K, f0, h0⟩, X.mg, W⟩
structure PV (X : Cx) (W : WX) (e : Expr) (f : Ev → Out Va) : Prop where
  run : ∀ f0 h0, PE X e (tV (gh X W f0 h0) f)
structure PZ (X : Cx) (W : WX) (e : Expr) (o : Opn) : Prop where
  run : ∀ f0 h0, PE X e (tO (gh X W f0 h0) o)
structure PZs (X : Cx) (W : WX) (es : List Expr) (o : Opns) : Prop where
  run : ∀ f0 h0, PA X es (tA (gh X W f0 h0) o)
structure PB (X : Cx) (W : WX) (e : Expr) (c : Ev → Out Bool) : Prop where
  run : ∀ f0 h0, PT X e (tT (gh X W f0 h0) c)
/-- and, or: a test whatever its whole is -/
structure PBw (X : Cx) (W : WX) (e : Expr) (c : Ev → Out Bool) : Prop where
  run : ∀ f0 h0, L2.PW X e (tT (gh X W f0 h0) c)

theorem _root_.L2.PE.imp {X : Cx} {e : Expr} {t t' : TE} (h : PE X e t) (k : ∀ σ H Q, t' σ H Q → t σ H Q) : PE X e t' := ⟨fun pins s σ H Q I q => h.run pins s σ H Q I (k σ H Q q)⟩
theorem _root_.L2.PT.imp {X : Cx} {e : Expr} {t t' : TT} (h : PT X e t) (k : ∀ σ H Q, t' σ H Q → t σ H Q) : PT X e t' := ⟨fun pins s σ H Q I q => h.run pins s σ H Q I (k σ H Q q)⟩
theorem _root_.L2.PW.imp {X : Cx} {e : Expr} {t t' : TT} (h : L2.PW X e t) (k : ∀ σ H Q, t' σ H Q → t σ H Q) : L2.PW X e t' := ⟨fun wh pins s σ H Q I q => h.run wh pins s σ H Q I (k σ H Q q)⟩
theorem _root_.L2.PA.imp {X : Cx} {e : List Expr} {t t' : TA} (h : PA X e t) (k : ∀ σ H Q, t' σ H Q → t σ H Q) : PA X e t' := ⟨fun p pins s σ H Q I q => h.run p pins s σ H Q I (k σ H Q q)⟩
theorem _root_.L2.PS.imp {X : Cx} {e : Stmt} {t t' : TS} (h : PS X e t) (k : ∀ D σ H, t' D σ H → t D σ H) : PS X e t' := ⟨fun pins s σ H Q I q => h.run pins s σ H Q I (k Q σ H q)⟩
theorem _root_.L2.PSs.imp {X : Cx} {e : List Stmt} {t t' : TS} (h : PSs X e t) (k : ∀ D σ H, t' D σ H → t D σ H) : PSs X e t' := ⟨fun pins s σ H Q I q => h.run pins s σ H Q I (k Q σ H q)⟩

section
variable {g : GW} {Hf Hf' H H' : Hp} {σ : St} {Γ Γ' : Ev} {fr fr' : List (V × Va)} {α β γ δ : Type}
theorem PEx.mono {e : Exc} (h : PEx g Hf σ fr e Γ) (s : Same Hf Hf') : PEx g Hf' σ fr e Γ := fun cls dx H1 Hf1 s1 x st => h cls dx H1 Hf1 (s.trans s1) x st
theorem PEx.pop {e : Exc} {p : V × Va} (h : PEx g Hf σ fr e Γ) : PEx g Hf σ (p :: fr) e Γ := fun cls dx H1 Hf1 s1 x st => h cls dx H1 Hf1 s1 x st.pop
theorem Post.mono {R : Hp → Hp → α → Ev → β → Prop} {Q : β → Hp → Prop} {o : Out α} (h : Post g σ fr R Hf Q o) (s : Same Hf Hf') : Post g σ fr R Hf' Q o := by
  cases o with
  | ok a Γ' => exact fun b H1 Hf1 s1 r => h b H1 Hf1 (s.trans s1) r
  | ex e Γ' => exact PEx.mono h s
  | st => exact h
theorem Post.pop {R : Hp → Hp → α → Ev → β → Prop} {Q : β → Hp → Prop} {p : V × Va} {o : Out α} {R' : Hp → Hp → α → Ev → β → Prop} (h : Post g σ fr R Hf Q o) (hr : ∀ Hf H a Γ b, R' Hf H a Γ b → R Hf H a Γ b) : Post g σ (p :: fr) R' Hf Q o := by
  cases o with
  | ok a Γ' => exact fun b H1 Hf1 s1 r => h b H1 Hf1 s1 (hr _ _ _ _ _ r)
  | ex e Γ' => exact PEx.pop h
  | st => exact h
/-- the first of two steps -/
theorem Post.bind {o : Out α} {k : α → Ev → Out γ} {R : Hp → Hp → γ → Ev → δ → Prop} {Q : δ → Hp → Prop} {R1 : Hp → Hp → α → Ev → β → Prop} {Q1 : β → Hp → Prop} (h : Post g σ fr R Hf Q (o.bind k))
    (h1 : ∀ a Γ1, o = .ok a Γ1 → ∀ b H1 Hf1, Same Hf Hf1 → R1 Hf1 H1 a Γ1 b → Post g σ fr R Hf1 Q (k a Γ1) → Q1 b H1) : Post g σ fr R1 Hf Q1 o := by
  cases o with
  | ok a Γ1 => exact fun b H1 Hf1 s1 r => h1 a Γ1 rfl b H1 Hf1 s1 r (Post.mono (show Post g σ fr R Hf Q (k a Γ1) from h) s1)
  | ex e Γ1 => exact h
  | st => exact h
theorem Post.of {R : Hp → Hp → α → Ev → β → Prop} {Q : β → Hp → Prop} {o : Option α} (h : Post g σ fr R Hf Q (.of o Γ)) : ∃ a, o = some a ∧ ∀ b H' Hf', Same Hf Hf' → R Hf' H' a Γ b → Q b H' := by
  cases o with
  | none => exact h.elim
  | some a => exact ⟨a, rfl, h⟩
theorem Late.mono {v : V} {L : Ev → Option D} (h : Late g Hf σ v L) (s : Same Hf Hf') : Late g Hf' σ v L := fun Γ2 Hf2 H2 fr2 s2 => h Γ2 Hf2 H2 fr2 (s.trans s2)
theorem Late.fz {v : V} {d : D} (h : Fz g.h.K Hf v d) : Late g Hf σ v fun _ => some d := fun Γ2 Hf2 H2 fr2 s2 st d' e => by
  cases e
  exact .inl (h.mono s2)
theorem Fz1All.length {K : PySem.W.Frag} : ∀ {vs : List V} {ds : List D}, Fz1All K Hf H vs ds → vs.length = ds.length
  | _, _, .nil => rfl
  | _, _, .cons _ r => congrArg (· + 1) r.length
end

/-! ### operands -/
def RF (g : GW) (σ : St) (fr : List (V × Va)) : Hp → Hp → D → Ev → V → Prop := fun Hf H d Γ v => StOk g.h Hf H σ Γ fr ∧ Fz g.h.K Hf v d
def tF (g : GW) (f : Ev → Out D) : TE := fun σ H Q => ∃ Hf Γ fr, StOk g.h Hf H σ Γ fr ∧ Post g σ fr (RF g σ fr) Hf Q (f Γ)
/-- frozen data -/
structure PF (X : Cx) (W : WX) (e : Expr) (f : Ev → Out D) : Prop where
  run : ∀ f0 h0, PE X e (tF (gh X W f0 h0) f)
def fC (d : D) : Ev → Out D := fun Γ => .ok d Γ
def fN (i : Nat) : Ev → Out D := fun Γ => match Γ[i]? with | some (some (.z, d)) => .ok d Γ | _ => .st
def fZ (i : Nat) : Ev → Out D := fun Γ => match Γ[i]? with | some (some x) => .ok x.2 (Γ.set i (some (.z, x.2))) | _ => .st
def fV (f : Ev → Out Va) : Ev → Out D := fun Γ => (f Γ).bind fun x Γ1 => .ok x.2 Γ1
def vF (f : Ev → Out D) : Ev → Out Va := fun Γ => (f Γ).bind fun d Γ1 => .ok (.z, d) Γ1
def oF (f : Ev → Out D) : Opn := ⟨f, fun _ d => some d⟩
/-- a slot whose list is read when it is used -/
def oB (i : Nat) : Opn := ⟨fun Γ => match Γ[i]? with | some (some _) => .ok .none Γ | _ => .st, fun Γ _ => match Γ[i]? with | some (some (.l .z, .list ds)) => some (.list ds) | some (some (.z, d)) => some d | _ => none⟩
def osN : Opns := ⟨fun Γ => .ok [] Γ, fun _ ds => some ds⟩
def osC (o : Opn) (os : Opns) : Opns := ⟨fun Γ => (o.f Γ).bind fun d Γ1 => (os.f Γ1).bind fun ds Γ2 => .ok (d :: ds) Γ2, fun Γ ds => match ds with | d :: ds => (o.l Γ d).bind fun d => (os.l Γ ds).bind fun ds => some (d :: ds) | [] => none⟩
section
variable {X : Cx} {W : WX} {e : Expr} {pos : Pos}
theorem pf_c {v : V} {d : D} (h : PE X e (tC v)) (q : ∀ K Hf, Fz K Hf v d) : PF X W e (fC d) := ⟨fun f0 h0 => h.imp fun σ H Q ⟨Hf, Γ, fr, st, p⟩ => p v H Hf (Same.refl _) ⟨st, q _ _⟩⟩
theorem pf_int {i j} : PF X W (.Constant (.int i) j pos) (fC (.int i)) := pf_c pe_int fun _ _ => .int i
theorem pf_bl {b j} : PF X W (.Constant (.bool b) j pos) (fC (.bool b)) := pf_c pe_bl fun _ _ => .bl b
theorem pf_non {j} : PF X W (.Constant .none j pos) (fC .none) := pf_c pe_non fun _ _ => .non
theorem pf_str {x j} : PF X W (.Constant (.str x) j pos) (fC (.str x)) := pf_c pe_str fun _ _ => .str x
theorem pf_v {f : Ev → Out Va} (h : PV X W e f) : PF X W e (fV f) := ⟨fun f0 h0 => (h.run f0 h0).imp fun σ H Q ⟨Hf, Γ, fr, st, p⟩ => ⟨Hf, Γ, fr, st, Post.bind p fun x Γ1 _ v H1 Hf1 s1 st1 q => by
  obtain ⟨Hf2, s2, st2⟩ := StOk.frz st1
  exact q v H1 Hf2 s2 ⟨st2.pop, st2.top⟩⟩⟩
theorem pv_f {f : Ev → Out D} (h : PF X W e f) : PV X W e (vF f) := ⟨fun f0 h0 => (h.run f0 h0).imp fun σ H Q ⟨Hf, Γ, fr, st, p⟩ => ⟨Hf, Γ, fr, st, Post.bind p fun x Γ1 _ v H1 Hf1 s1 ⟨st1, z⟩ q => q v H1 Hf1 (Same.refl _) (st1.push z)⟩⟩
theorem pz_f {f : Ev → Out D} (h : PF X W e f) : PZ X W e (oF f) := ⟨fun f0 h0 => (h.run f0 h0).imp fun σ H Q ⟨Hf, Γ, fr, st, p⟩ => by
  refine ⟨Hf, Γ, fr, st, ?_⟩
  have p' : Post (gh X W f0 h0) σ fr (RO (gh X W f0 h0) σ fr (oF f).l) Hf Q (f Γ) := p
  cases hf : f Γ with
  | ok d Γ1 =>
    rw [hf] at p'
    exact fun v H1 Hf1 s1 ⟨st1, z⟩ => p' v H1 Hf1 s1 ⟨st1, .fz z⟩
  | ex e Γ1 => rw [hf] at p'; exact p'
  | st => rw [hf] at p'; exact p'⟩
theorem pf_n (i : Nat) {x : Str} (hN : X.N[i]? = some x := by rfl) (hv : Vis X.env.scope x := by first | exact Or.inl rfl | exact Or.inr (Or.inl rfl) | exact Or.inr (Or.inr rfl)) (hd : (x == ("__debug__" : Str)) = false := by decide)
    (hcd : (x == ("__classdict__" : Str)) = false := by decide) : PF X W (.Name x pos) (fN i) := ⟨fun f0 h0 => (pe_var hN hv hd hcd).imp fun σ H Q ⟨Hf, Γ, fr, st, p⟩ => by
  unfold fN at p
  split at p
  · rename_i d e'
    obtain ⟨v, e1, fz⟩ := st.getZ e'
    exact ⟨v, e1, p v H Hf (Same.refl _) ⟨st, fz⟩⟩
  · exact p.elim⟩
theorem pf_z (i : Nat) {x : Str} (hN : X.N[i]? = some x := by rfl) (hv : Vis X.env.scope x := by first | exact Or.inl rfl | exact Or.inr (Or.inl rfl) | exact Or.inr (Or.inr rfl)) (hd : (x == ("__debug__" : Str)) = false := by decide)
    (hcd : (x == ("__classdict__" : Str)) = false := by decide) : PF X W (.Name x pos) (fZ i) := ⟨fun f0 h0 => (pe_var hN hv hd hcd).imp fun σ H Q ⟨Hf, Γ, fr, st, p⟩ => by
  unfold fZ at p
  split at p
  · rename_i x e
    obtain ⟨Hf1, v, s1, e1, st1⟩ := st.frzSlot e
    exact ⟨v, e1, p v H Hf1 s1 ⟨st1.pop, st1.top⟩⟩
  · exact p.elim⟩
theorem pz_b (i : Nat) {x : Str} (hN : X.N[i]? = some x := by rfl) (hv : Vis X.env.scope x := by first | exact Or.inl rfl | exact Or.inr (Or.inl rfl) | exact Or.inr (Or.inr rfl)) (hd : (x == ("__debug__" : Str)) = false := by decide)
    (hcd : (x == ("__classdict__" : Str)) = false := by decide) : PZ X W (.Name x pos) (oB i) := ⟨fun f0 h0 => (pe_var hN hv hd hcd).imp fun σ H Q ⟨Hf, Γ, fr, st, p⟩ => by
  unfold oB at p
  dsimp only at p
  split at p
  · rename_i x e
    have : ∃ v, σ[i]? = some (some v) := by
      obtain ⟨ω, st⟩ := st
      obtain ⟨v, e, _⟩ := st.slots i _ e
      exact ⟨v, e⟩
    obtain ⟨v, e1⟩ := this
    refine ⟨v, e1, p v H Hf (Same.refl _) ⟨st, fun Γ2 Hf2 H2 fr2 s2 st2 d h => ?_⟩⟩
    dsimp only at h
    split at h
    · rename_i ds q
      cases h
      obtain ⟨ω, st2⟩ := st2
      obtain ⟨v', e2, A, o, _⟩ := st2.slots i _ q
      rw [e1] at e2
      cases e2
      obtain ⟨a, vs, ds', B, rfl, e4, e5, e6, _⟩ := o
      cases e4
      exact .inr ⟨a, vs, ds, rfl, rfl, e5, e6.zs.2⟩
    · rename_i d' q
      cases h
      obtain ⟨v', e2, fz⟩ := st2.getZ q
      rw [e1] at e2
      cases e2
      exact .inl fz
    · cases h
  · exact p.elim⟩
theorem pzs_n : PZs X W [] osN := ⟨fun f0 h0 => pa_nil.imp fun σ H Q ⟨Hf, Γ, fr, st, p⟩ => p [] H Hf (Same.refl _) ⟨st, fun Γ2 Hf2 H2 fr2 s2 st2 d e => by
  cases e
  exact .nil⟩⟩
theorem pzs_c {es : List Expr} {o : Opn} {os : Opns} (h : PZ X W e o) (hs : PZs X W es os) (hst : starEach (e :: es) X.env = (false, eval e X.env) :: starEach es X.env := by rfl) : PZs X W (e :: es) (osC o os) :=
  ⟨fun f0 h0 => (pa_cons (h.run f0 h0) (hs.run f0 h0) hst).imp fun σ H Q ⟨Hf, Γ, fr, st, p⟩ => ⟨Hf, Γ, fr, st, Post.bind p fun d Γ1 _ v H1 Hf1 s1 ⟨st1, l1⟩ q => ⟨Hf1, Γ1, fr, st1, Post.bind q fun ds Γ2 _ vs H2 Hf2 s2 ⟨st2, l2⟩ q => q (v :: vs) H2 Hf2 (Same.refl _)
    ⟨st2, fun Γ3 Hf3 H3 fr3 s3 st3 r e => by
      cases h1 : o.l Γ3 d with
      | none => simp [osC, h1] at e
      | some d1 =>
        cases h2 : os.l Γ3 ds with
        | none => simp [osC, h1, h2] at e
        | some ds1 =>
          have e' : d1 :: ds1 = r := by simpa [osC, h1, h2] using e
          subst e'
          exact .cons (l1 Γ3 Hf3 H3 fr3 (s2.trans s3) st3 d1 h1) (l2 Γ3 Hf3 H3 fr3 s3 st3 ds1 h2)⟩⟩⟩⟩
end

/-! ### operators -/
/-- what a two-place operation gives, by the data -/
def OpS (K : PySem.W.Frag) (r : R2) (op : D → D → Option Va) : Prop := ∀ (Hf H : Hp) (x y : V) (dx dy : D) (z : Va) (Q : VK), Same Hf H → Fz1 K Hf H x dx → Fz1 K Hf H y dy → op dx dy = some z → (∀ v H' Hf', NewV K Hf H H' Hf' v z → Q v H') → r x y H Q
def o2 (op : D → D → Option Va) (a b : Opn) : Ev → Out Va := fun Γ => (a.f Γ).bind fun x Γ1 => (b.f Γ1).bind fun y Γ2 => .of ((a.l Γ2 x).bind fun x => (b.l Γ2 y).bind fun y => op x y) Γ2
theorem OpS.or {K : PySem.W.Frag} {r r' : R2} {op : D → D → Option Va} (h : OpS K r op) : OpS K (fun x y H Q => r x y H Q ∨ r' x y H Q) op := fun Hf H x y dx dy z Q s h1 h2 e q => .inl (h Hf H x y dx dy z Q s h1 h2 e q)
section
variable {X : Cx} {W : WX} {a b : Expr} {oa ob : Opn} {pos : Pos}
theorem bind2 {α β γ : Type} {x : Option α} {y : Option β} {f : α → β → Option γ} {z : γ} (h : (x.bind fun x => y.bind fun y => f x y) = some z) : ∃ a b, x = some a ∧ y = some b ∧ f a b = some z := by
  cases x with
  | none => cases h
  | some a =>
    cases y with
    | none => cases h
    | some b => exact ⟨a, b, rfl, rfl, h⟩
theorem tOp_of {g : GW} {r : R2} {op : D → D → Option Va} (hs : OpS g.h.K r op) {σ : St} {H : Hp} {Q : VK} (h : tV g (o2 op oa ob) σ H Q) : tOp r (tO g oa) (tO g ob) σ H Q := by
  obtain ⟨Hf, Γ, fr, st, p⟩ := h
  refine ⟨Hf, Γ, fr, st, Post.bind p fun x Γ1 _ v H1 Hf1 s1 ⟨st1, l1⟩ q => ⟨Hf1, Γ1, fr, st1, Post.bind q fun y Γ2 _ u H2 Hf2 s2 ⟨st2, l2⟩ q => ?_⟩⟩
  obtain ⟨z, e, q⟩ := Post.of q
  obtain ⟨x', y', e1, e2, e3⟩ := bind2 e
  exact hs Hf2 H2 v u x' y' z Q st2.sub (l1 Γ2 Hf2 H2 fr s2 st2 x' e1) (l2 Γ2 Hf2 H2 fr (Same.refl _) st2 y' e2) e3 fun v' H' Hf' n => q v' H' Hf' n.f1 (st2.pushN n)
theorem pv_bin {op : Operator} {r : R2} {f : D → D → Option Va} (ho : OpR X (binaryOp op) r) (hs : OpS X.K r f) (ha : PZ X W a oa) (hb : PZ X W b ob) : PV X W (.BinOp a op b pos) (o2 f oa ob) :=
  ⟨fun f0 h0 => (pe_op ho (ha.run f0 h0) (hb.run f0 h0)).imp fun σ H Q h => tOp_of hs h⟩
theorem pv_cmp {op : CmpOp} {r : R2} {f : D → D → Option Va} (ho : OpR X (compareOp op) r) (hs : OpS X.K r f) (ha : PZ X W a oa) (hb : PZ X W b ob) (hm : behindInMarks op b = false) : PV X W (.Compare a [op] [b] pos) (o2 f oa ob) :=
  ⟨fun f0 h0 => (pe_cmpR ho (ha.run f0 h0) (hb.run f0 h0) hm).imp fun σ H Q h => tOp_of hs h⟩
theorem pv_ix {r : R2} {f : D → D → Option Va} (ho : IxR X r) (hs : OpS X.K r f) (ha : PZ X W a oa) (hb : PZ X W b ob) (hp : PlainIx b) : PV X W (.Subscript a b pos) (o2 f oa ob) :=
  ⟨fun f0 h0 => (pe_ix ho (ha.run f0 h0) (hb.run f0 h0) hp).imp fun σ H Q h => tOp_of hs h⟩
/-- a value as a test -/
def bV (f : Ev → Out Va) : Ev → Out Bool := fun Γ => (f Γ).bind fun x Γ1 => .of (match x.2 with | .bool c => some c | _ => none) Γ1
theorem tTest_of {g : GW} {t : TE} {f : Ev → Out Va} {σ : St} {H : Hp} {Q : Bool → Hp → Prop} (hv : ∀ Q, tV g f σ H Q → t σ H Q) (h : tT g (bV f) σ H Q) : tTest t σ H Q := by
  obtain ⟨Hf, Γ, fr, st, p⟩ := h
  refine hv _ ⟨Hf, Γ, fr, st, Post.bind p fun x Γ1 _ v H1 Hf1 s1 st1 q => ?_⟩
  obtain ⟨c, e, q⟩ := Post.of q
  obtain ⟨s, d⟩ := x
  cases d with
  | bool k =>
    have e' : k = c := Option.some.inj e
    subst e'
    obtain ⟨Hf2, s2, st2⟩ := StOk.frz st1
    have z := st2.top
    cases z
    exact ⟨k, rfl, q k H1 Hf2 s2 ⟨st2.pop, rfl⟩⟩
  | _ => cases e
theorem pb_cmp {op : CmpOp} {r : R2} {f : D → D → Option Va} (ho : OpR X (compareOp op) r) (hs : OpS X.K r f) (ha : PZ X W a oa) (hb : PZ X W b ob) (hm : behindInMarks op b = false) : PB X W (.Compare a [op] [b] pos) (bV (o2 f oa ob)) :=
  ⟨fun f0 h0 => (pt_cmpR ho (ha.run f0 h0) (hb.run f0 h0) hm).imp fun σ H Q h => tTest_of (f := o2 f oa ob) (fun Q h => tOp_of hs h) h⟩
end
/-! ### the data's own operations -/
def b2 (o : Option Bool) : Option Va := o.map fun b => (.z, .bool b)
def mulOk (i j : Int) : Bool := decide (i.natAbs < 2 ^ 64) || decide (j.natAbs < 2 ^ 64)
def dAdd : D → D → Option Va
  | .int i, .int j => some (.z, .int (i + j))
  | .str i, .str j => if i.length + j.length ≤ 16777216 then some (.z, .str (i ++ j)) else none
  | .list i, .list j => if i.length + j.length ≤ 16777216 then some (.l .z, .list (i ++ j)) else none
  | .tuple i, .tuple j => if i.length + j.length ≤ 16777216 then some (.z, .tuple (i ++ j)) else none
  | _, _ => none
def dSub : D → D → Option Va
  | .int i, .int j => some (.z, .int (i - j))
  | _, _ => none
def dMul : D → D → Option Va
  | .int i, .int j => if mulOk i j then some (.z, .int (i * j)) else none
  | .list i, .int j => if 0 ≤ j ∧ j < 2 ^ 63 ∧ i.length * j.toNat ≤ 16777216 then some (.l .z, .list (List.replicate j.toNat i).flatten) else none
  | _, _ => none
def dDiv : D → D → Option Va
  | .int i, .int j => if 0 < j ∧ j < 2 ^ 64 then some (.z, .int (i / j)) else none
  | _, _ => none
def dMod : D → D → Option Va
  | .int i, .int j => if 0 < j then some (.z, .int (i % j)) else none
  | _, _ => none
def dPow : D → D → Option Va
  | .int i, .int j => if 0 ≤ j ∧ j ≤ 1000000 ∧ i.natAbs < 2 ^ 64 then some (.z, .int (i ^ j.toNat)) else none
  | _, _ => none
def dShl : D → D → Option Va
  | .int i, .int j => if 0 ≤ j ∧ j ≤ 1000000 ∧ i.natAbs < 2 ^ 64 then some (.z, .int (i * 2 ^ j.toNat)) else none
  | _, _ => none
def dShr : D → D → Option Va
  | .int i, .int j => if 0 ≤ j then some (.z, .int (i / 2 ^ j.toNat)) else none
  | _, _ => none
def dAnd : D → D → Option Va
  | .int i, .int j => some (.z, .int (Builtin.bitAnd i j))
  | _, _ => none
def dFlat : D → Bool
  | .none => true
  | .bool _ => true
  | .int _ => true
  | .str _ => true
  | _ => false
/-- == : of flat data, of data of a kind -/
def dEqv (a b : D) : Option Bool := if SeqAt.shaped a && SeqAt.shaped b then some (PyData.eqv a b) else none
def dSc : D → D → Option Bool
  | .none, .none => some true | .none, .int _ => some false | .int _, .none => some false | .none, .bool _ => some false | .bool _, .none => some false | .none, .str _ => some false | .str _, .none => some false
  | .int i, .int j => some (decide (i = j)) | .bool i, .bool j => some (decide (i = j)) | .str i, .str j => some (decide (i = j))
  | .int _, .str _ => some false | .str _, .int _ => some false | .bool _, .str _ => some false | .str _, .bool _ => some false
  | a, b => dEqv a b
def dEq (a b : D) : Option Va := b2 (dSc a b)
def dNe (a b : D) : Option Va := b2 ((dSc a b).map not)
def dLt : D → D → Option Va
  | .int i, .int j => some (.z, .bool (decide (i < j)))
  | .str i, .str j => some (.z, .bool (decide (i.cps.toList < j.cps.toList)))
  | _, _ => none
def dLe : D → D → Option Va
  | .int i, .int j => some (.z, .bool (decide (i ≤ j)))
  | _, _ => none
def dGt (a b : D) : Option Va := dLt b a
def dGe (a b : D) : Option Va := dLe b a
def dIs : D → D → Option Va
  | a, .none => some (.z, .bool (match a with | .none => true | _ => false))
  | _, _ => none
def dIsnt : D → D → Option Va
  | a, .none => some (.z, .bool (match a with | .none => false | _ => true))
  | _, _ => none
def dAt : D → D → Option Va
  | .list ds, .int i => (atI ds i).map fun d => (.z, d)
  | .tuple ds, .int i => (atI ds i).map fun d => (.z, d)
  | .str z, .int i => if z.length ≤ 16777216 then (atI z.cps.toList i).map fun c => (.z, .str ⟨#[c]⟩) else none
  | .dict [(.none, .list ds)], .int i => (atI ds i).map fun d => (.z, d)
  | .dict [(.none, .tuple ds)], .int i => (atI ds i).map fun d => (.z, d)
  | _, _ => none
section
variable {K : PySem.W.Frag} {Hf H : Hp}
theorem atI_map {α β : Type} (f : α → β) (xs : List α) (i : Int) : atI (xs.map f) i = (atI xs i).map f := by
  unfold atI
  rw [List.length_map]
  cases ixN xs.length i with
  | none => rfl
  | some j => simp
theorem FzAll.at {vs : List V} {ds : List D} {i : Int} {d : D} (h : FzAll K H vs ds) (e : atI ds i = some d) : ∃ v, atI vs i = some v ∧ Fz K H v d := by
  unfold atI at e ⊢
  rw [h.length]
  cases q : ixN ds.length i with
  | none => rw [q] at e; cases e
  | some j =>
    rw [q] at e
    exact h.get e
theorem Fz1.list {v : V} {ds : List D} (h : Fz1 K Hf H v (.list ds)) (s : Same Hf H) : ∃ a vs, v = .ref a ∧ H a = some (.lst vs) ∧ FzAll K Hf vs ds := by
  rcases h with h | ⟨a, vs, ds', rfl, e, h, r⟩
  · cases h with
    | lst h r => exact ⟨_, _, rfl, s _ _ h, r⟩
  · cases e
    exact ⟨a, vs, rfl, h, r⟩
theorem Fz1.tup {v : V} {ds : List D} (h : Fz1 K Hf H v (.tuple ds)) : ∃ a vs, v = .ref a ∧ SqT K Hf a vs ∧ FzAll K Hf vs ds := by
  rcases h with h | ⟨a, vs, ds', rfl, e, h, r⟩
  · cases h with
    | tup h r => exact ⟨_, _, rfl, SqT.of h, r⟩
  · cases e
/-- a tuple that was made while the program ran -/
theorem Fz1.tupZ {v : V} {ds : List D} (h : Fz1 K Hf H v (.tuple ds)) : ∃ a vs, v = .ref a ∧ Hf a = some (.tup vs) ∧ FzAll K Hf vs ds := by
  rcases h with h | ⟨a, vs, ds', rfl, e, h, r⟩
  · cases h with
    | tup h r => exact ⟨_, _, rfl, h, r⟩
  · cases e
theorem fz_kt {v : V} {ds : List D} (h : Fz K H v (.dict [(.none, .tuple ds)])) : ∃ a vs, v = .ref a ∧ SqT K H a vs ∧ FzAll K H vs ds := by
  generalize hd : PyData.dict [(.none, .tuple ds)] = d at h
  cases h with
  | kt h r =>
    injection hd with hd
    injection hd with hd _
    injection hd with _ hd
    injection hd with hd
    subst hd
    exact ⟨_, _, rfl, h, r⟩
  | @dK a kvs ds' h r =>
    injection hd with hd
    cases kvs with
    | nil => cases ds' <;> cases hd
    | cons p kvs =>
      cases ds' with
      | nil => cases hd
      | cons d' ds' =>
        rw [List.map_cons, List.zip_cons_cons] at hd
        injection hd with hd _
        injection hd with hd _
        obtain ⟨k, w⟩ := p
        cases k <;> cases hd
  | _ => cases hd
theorem Fz1.kt {v : V} {ds : List D} (h : Fz1 K Hf H v (.dict [(.none, .tuple ds)])) : ∃ a vs, v = .ref a ∧ SqT K Hf a vs ∧ FzAll K Hf vs ds := by
  rcases h with h | ⟨a, vs, ds', rfl, e, h, r⟩
  · exact fz_kt h
  · cases e
theorem Fz1.int {v : V} {i : Int} (h : Fz1 K Hf H v (.int i)) : v = .int i := by
  rcases h with h | ⟨a, vs, ds', rfl, e, h, r⟩
  · cases h; rfl
  · cases e
theorem Fz1.str {v : V} {i : Str} (h : Fz1 K Hf H v (.str i)) : v = .str i := by
  rcases h with h | ⟨a, vs, ds', rfl, e, h, r⟩
  · cases h; rfl
  · cases e
theorem Fz1.bool {v : V} {i : Bool} (h : Fz1 K Hf H v (.bool i)) : v = .bl i := by
  rcases h with h | ⟨a, vs, ds', rfl, e, h, r⟩
  · cases h; rfl
  · cases e
theorem Fz1.none {v : V} (h : Fz1 K Hf H v .none) : v = .non := by
  rcases h with h | ⟨a, vs, ds', rfl, e, h, r⟩
  · cases h; rfl
  · cases e
theorem Fz1.non_iff {v : V} {d : D} (h : Fz1 K Hf H v d) : decide (v = .non) = (match d with | .none => true | _ => false) := by
  rcases h with h | ⟨a, vs, ds', rfl, rfl, h, r⟩
  · cases h <;> rfl
  · rfl
theorem Fz1.scr {v : V} {ds : List D} (h : Fz1 K Hf H v (.dict [(.none, .list ds)])) (s : Same Hf H) : ∃ (a : Addr) (ns : List Int), v = .ref a ∧ SqL K H a (ns.map V.int) ∧ ds = ns.map .int := by
  rcases h with h | ⟨a, vs, ds', rfl, e, h, r⟩
  · generalize hd : PyData.dict [(.none, .list ds)] = d at h
    cases h with
    | scr ns h =>
      have hd' : ds = ns.map .int := by
        injection hd with hd
        injection hd with hd _
        injection hd with _ hd
        injection hd
      exact ⟨_, ns, rfl, s.seq h, hd'⟩
    | @dK a kvs ds' h r =>
      injection hd with hd
      cases kvs with
      | nil => cases ds' <;> cases hd
      | cons p kvs =>
        cases ds' with
        | nil => cases hd
        | cons d' ds' =>
          rw [List.map_cons, List.zip_cons_cons] at hd
          injection hd with hd _
          injection hd with hd _
          obtain ⟨k, w⟩ := p
          cases k <;> cases hd
    | _ => cases hd
  · cases e
theorem Fz1.dp {v : V} {d : D} (h : Fz1 K Hf H v d) (s : Same Hf H) (c : d.canLay0 = true) : Dp K H v d := by
  rcases h with h | ⟨a, vs, ds', rfl, rfl, h, r⟩
  · exact (h.mono s).dp c
  · exact .lst (.inl (.inl h)) ((r.mono s).dp c)
end
end PV
namespace PV
open PySem PySem.Spec PyProof.Rows L2

section
variable {X : Cx} {K : PySem.W.Frag}
def rI' (C : Int → Int → Prop) (g : Int → Int → V) : R2 := rI C g
/-- ints -/
theorem ops_int {C : Int → Int → Prop} {g : Int → Int → Int} {op : D → D → Option Va} (h : ∀ dx dy z, op dx dy = some z → ∃ i j, dx = .int i ∧ dy = .int j ∧ C i j ∧ z = (.z, .int (g i j))) : OpS K (rI C fun i j => .int (g i j)) op := fun Hf H x y dx dy z Q s h1 h2 e q => by
  obtain ⟨i, j, rfl, rfl, c, rfl⟩ := h dx dy z e
  exact ⟨i, j, h1.int, h2.int, c, q _ H Hf (.z s (.int _))⟩
theorem ops_int0 {g : Int → Int → Int} {op : D → D → Option Va} (h : ∀ dx dy z, op dx dy = some z → ∃ i j, dx = .int i ∧ dy = .int j ∧ z = (.z, .int (g i j))) : OpS K (rI0 fun i j => .int (g i j)) op := fun Hf H x y dx dy z Q s h1 h2 e q => by
  obtain ⟨i, j, rfl, rfl, rfl⟩ := h dx dy z e
  exact ⟨i, j, h1.int, h2.int, q _ H Hf (.z s (.int _))⟩
def rAddV (K : PySem.W.Frag) : R2 := fun x y H Q => (rI0 (fun i j => .int (i + j)) x y H Q ∨ ∃ i j, x = .str i ∧ y = .str j ∧ i.length + j.length ≤ sizeLine ∧ Q (.str (i ++ j)) H) ∨ rCat x y H Q ∨ rCatA K x y H Q
theorem op_addV : OpR X (binaryOp .Add) (rAddV X.K) := (op_add.or op_add_str).or (op_cat.or op_catA)
theorem ops_add : OpS K (rAddV K) dAdd := fun Hf H x y dx dy z Q s h1 h2 e q => by
  cases dx <;> cases dy <;> first
    | (cases e; done)
    | (cases e; exact .inl (.inl ⟨_, _, h1.int, h2.int, q _ H Hf (.z s (.int _))⟩))
    | (simp only [dAdd] at e; split at e <;> cases e <;> first
        | exact .inl (.inr ⟨_, _, h1.str, h2.str, ‹_›, q _ H Hf (.z s (.str _))⟩)
        | (obtain ⟨a, vs, rfl, r1, f1⟩ := h1.list s
           obtain ⟨b, ws, rfl, r2, f2⟩ := h2.list s
           exact .inr (.inl ⟨a, b, vs, ws, rfl, rfl, r1, r2, by rw [f1.length, f2.length]; assumption, fun p n => q _ _ Hf (.lst s n (f1.append f2))⟩))
        | (obtain ⟨a, vs, rfl, r1, f1⟩ := h1.tupZ
           obtain ⟨b, ws, rfl, r2, f2⟩ := h2.tupZ
           refine .inr (.inr ⟨a, b, vs, ws, rfl, rfl, Same.seqT s (SqT.of r1), Same.seqT s (SqT.of r2), by rw [f1.length, f2.length]; assumption, fun e => ?_, fun _ e => ?_, fun _ _ p n => q _ _ _ (.tup s n (f1.append f2))⟩)
           · subst e
             cases f1
             exact q _ H Hf (.z s (.tup r2 f2))
           · subst e
             cases f2
             rw [List.append_nil] at q
             exact q _ H Hf (.z s (.tup r1 f1))))
theorem ops_sub : OpS K (rI0 fun i j => .int (i - j)) dSub := ops_int0 fun dx dy z e => by
  cases dx <;> cases dy <;> cases e
  exact ⟨_, _, rfl, rfl, rfl⟩
def CMul' (i j : Int) : Prop := mulOk i j = true
theorem cmul_of {i j : Int} (h : CMul' i j) : CMul i j := by
  unfold CMul' mulOk at h
  rw [Bool.or_eq_true, decide_eq_true_eq, decide_eq_true_eq] at h
  unfold CMul
  omega
def rMulV : R2 := fun x y H Q => rI CMul (fun i j => .int (i * j)) x y H Q ∨ rRep x y H Q
theorem op_mulV : OpR X (binaryOp .Mult) rMulV := op_mul.or op_rep
theorem ops_mul : OpS K rMulV dMul := fun Hf H x y dx dy z Q s h1 h2 e q => by
  cases dx <;> cases dy <;> first
    | (cases e; done)
    | (simp only [dMul] at e; split at e <;> cases e <;> first
        | exact .inl ⟨_, _, h1.int, h2.int, cmul_of ‹_›, q _ H Hf (.z s (.int _))⟩
        | (obtain ⟨a, vs, rfl, r1, f1⟩ := h1.list s
           obtain ⟨c1, c2, c3⟩ := ‹_ ∧ _›
           refine .inr ⟨a, _, vs, rfl, h2.int, r1, by omega, c2, by rw [f1.length]; exact c3, fun p n => q _ _ Hf (.lst s n ?_)⟩
           rename_i k
           have : ∀ m : Nat, FzAll K Hf (List.replicate m vs).flatten (List.replicate m ‹List PyData›).flatten := fun m => by
             induction m with
             | zero => exact .nil
             | succ m ih =>
               rw [List.replicate_succ, List.replicate_succ, List.flatten_cons, List.flatten_cons]
               exact f1.append ih
           exact this _))
def CDiv' (i j : Int) : Prop := 0 < j ∧ j < 2 ^ 64
theorem op_divV : OpR X (binaryOp .FloorDiv) (rI CDiv' fun i j => .int (i / j)) := fun pins s σ H x y v u Q I rx ry h => by
  obtain ⟨i, j, e1, e2, c, q⟩ := h
  have c' : 0 < j ∧ j < 2 ^ 64 := c
  exact op_fdivW pins s σ H x y v u Q I rx ry ⟨i, j, e1, e2, wide_div (b := 64) c'.1 (by omega) (by decide) (by decide), q⟩
theorem ops_div : OpS K (rI CDiv' fun i j => .int (i / j)) dDiv := ops_int fun dx dy z e => by
  cases dx <;> cases dy <;> first
    | (cases e; done)
    | (simp only [dDiv] at e; split at e <;> cases e; exact ⟨_, _, rfl, rfl, ‹_›, rfl⟩)
theorem ops_mod : OpS K (rI (fun _ j => 0 < j) fun i j => .int (i % j)) dMod := ops_int fun dx dy z e => by
  cases dx <;> cases dy <;> first
    | (cases e; done)
    | (simp only [dMod] at e; split at e <;> cases e; exact ⟨_, _, rfl, rfl, ‹_›, rfl⟩)
theorem ops_pow : OpS K (rI CPow fun i j => .int (i ^ j.toNat)) dPow := ops_int fun dx dy z e => by
  cases dx <;> cases dy <;> first
    | (cases e; done)
    | (simp only [dPow] at e; split at e <;> cases e; exact ⟨_, _, rfl, rfl, ‹_›, rfl⟩)
theorem ops_shl : OpS K (rI CPow fun i j => .int (i * 2 ^ j.toNat)) dShl := ops_int fun dx dy z e => by
  cases dx <;> cases dy <;> first
    | (cases e; done)
    | (simp only [dShl] at e; split at e <;> cases e; exact ⟨_, _, rfl, rfl, ‹_›, rfl⟩)
theorem ops_shr : OpS K (rI (fun _ j => 0 ≤ j) fun i j => .int (i / 2 ^ j.toNat)) dShr := ops_int fun dx dy z e => by
  cases dx <;> cases dy <;> first
    | (cases e; done)
    | (simp only [dShr] at e; split at e <;> cases e; exact ⟨_, _, rfl, rfl, ‹_›, rfl⟩)
theorem ops_and : OpS K (rI0 fun i j => .int (Builtin.bitAnd i j)) dAnd := ops_int0 fun dx dy z e => by
  cases dx <;> cases dy <;> cases e
  exact ⟨_, _, rfl, rfl, rfl⟩
/-! comparisons -/
def rEqV (K : PySem.W.Frag) : R2 := fun x y H Q => rEq x y H Q ∨ rEqD K x y H Q
def rNeV (K : PySem.W.Frag) : R2 := fun x y H Q => rNe x y H Q ∨ rNeD K x y H Q
theorem op_eqV (hu : X.A.units + 64 < cLine) : OpR X (compareOp .Eq) (rEqV X.K) := op_eq.or (op_eqD hu)
theorem op_neV (hu : X.A.units + 64 < cLine) : OpR X (compareOp .NotEq) (rNeV X.K) := op_ne.or (op_neD hu)
theorem dEqv_some {a b : D} {c : Bool} (h : dEqv a b = some c) : SeqAt.shaped a = true ∧ SeqAt.shaped b = true ∧ PyData.eqv a b = c := by
  unfold dEqv at h
  split at h
  · rename_i q
    rw [Bool.and_eq_true] at q
    exact ⟨q.1, q.2, Option.some.inj h⟩
  · cases h
theorem dSc_ok {x y : V} {a b : D} {c : Bool} (s : Same Hf H) (h1 : Fz1 K Hf H x a) (h2 : Fz1 K Hf H y b) (e : dSc a b = some c) :
    (L2.scal x y = true ∧ decide (x = y) = c) ∨ ∃ d e, Dp K H x d ∧ Dp K H y e ∧ SeqAt.shaped d = true ∧ SeqAt.shaped e = true ∧ PyData.eqv d e = c := by
  have go : ∀ {a b : D}, Fz1 K Hf H x a → Fz1 K Hf H y b → dEqv a b = some c → ∃ d e, Dp K H x d ∧ Dp K H y e ∧ SeqAt.shaped d = true ∧ SeqAt.shaped e = true ∧ PyData.eqv d e = c := fun {a b} h1 h2 e => by
    obtain ⟨q1, q2, q3⟩ := dEqv_some e
    exact ⟨a, b, h1.dp s (SeqAt.canLay_of_shaped q1), h2.dp s (SeqAt.canLay_of_shaped q2), q1, q2, q3⟩
  cases a <;> cases b <;> first
    | exact .inr (go h1 h2 e)
    | (have e' := Option.some.inj e
       subst e'
       first
         | (cases h1.none; cases h2.none; exact .inl ⟨rfl, by simp⟩)
         | (cases h1.none; cases h2.int; exact .inl ⟨rfl, by simp⟩)
         | (cases h1.none; cases h2.bool; exact .inl ⟨rfl, by simp⟩)
         | (cases h1.none; cases h2.str; exact .inl ⟨rfl, by simp⟩)
         | (cases h1.int; cases h2.none; exact .inl ⟨rfl, by simp⟩)
         | (cases h1.bool; cases h2.none; exact .inl ⟨rfl, by simp⟩)
         | (cases h1.str; cases h2.none; exact .inl ⟨rfl, by simp⟩)
         | (cases h1.int; cases h2.int; exact .inl ⟨rfl, by simp⟩)
         | (cases h1.bool; cases h2.bool; exact .inl ⟨rfl, by simp⟩)
         | (cases h1.str; cases h2.str; exact .inl ⟨rfl, by simp⟩)
         | (cases h1.int; cases h2.str; exact .inl ⟨rfl, by simp⟩)
         | (cases h1.str; cases h2.int; exact .inl ⟨rfl, by simp⟩)
         | (cases h1.bool; cases h2.str; exact .inl ⟨rfl, by simp⟩)
         | (cases h1.str; cases h2.bool; exact .inl ⟨rfl, by simp⟩))
theorem ops_eq : OpS K (rEqV K) dEq := fun Hf H x y dx dy z Q s h1 h2 e q => by
  cases h : dSc dx dy with
  | none => rw [dEq, h] at e; cases e
  | some c =>
    rw [dEq, h] at e
    cases e
    rcases dSc_ok s h1 h2 h with ⟨a, b⟩ | ⟨d, e, a1, a2, a3, a4, a5⟩
    · exact .inl ⟨a, by rw [b]; exact q _ H Hf (.z s (.bl _))⟩
    · exact .inr ⟨d, e, a1, a2, a3, a4, by rw [a5]; exact q _ H Hf (.z s (.bl _))⟩
theorem ops_ne : OpS K (rNeV K) dNe := fun Hf H x y dx dy z Q s h1 h2 e q => by
  cases h : dSc dx dy with
  | none => rw [dNe, h] at e; cases e
  | some c =>
    rw [dNe, h] at e
    cases e
    rcases dSc_ok s h1 h2 h with ⟨a, b⟩ | ⟨d, e, a1, a2, a3, a4, a5⟩
    · exact .inl ⟨a, by rw [b]; exact q _ H Hf (.z s (.bl _))⟩
    · exact .inr ⟨d, e, a1, a2, a3, a4, by rw [a5]; exact q _ H Hf (.z s (.bl _))⟩
def rLtV : R2 := fun x y H Q => rI0 (fun i j => .bl (decide (i < j))) x y H Q ∨ ∃ i j, x = .str i ∧ y = .str j ∧ Q (.bl (decide (i.cps.toList < j.cps.toList))) H
def rGtV : R2 := fun x y H Q => rI0 (fun i j => .bl (decide (j < i))) x y H Q ∨ ∃ i j, x = .str i ∧ y = .str j ∧ Q (.bl (decide (j.cps.toList < i.cps.toList))) H
theorem op_ltV : OpR X (compareOp .Lt) rLtV := op_lt.or op_lt_str
theorem op_gtV : OpR X (compareOp .Gt) rGtV := op_gt.or op_gt_str
theorem ops_lt : OpS K rLtV dLt := fun Hf H x y dx dy z Q s h1 h2 e q => by
  cases dx <;> cases dy <;> first
    | (cases e; done)
    | (cases e; exact .inl ⟨_, _, h1.int, h2.int, q _ H Hf (.z s (.bl _))⟩)
    | (cases e; exact .inr ⟨_, _, h1.str, h2.str, q _ H Hf (.z s (.bl _))⟩)
theorem ops_gt : OpS K rGtV dGt := fun Hf H x y dx dy z Q s h1 h2 e q => by
  cases dx <;> cases dy <;> first
    | (cases e; done)
    | (cases e; exact .inl ⟨_, _, h1.int, h2.int, q _ H Hf (.z s (.bl _))⟩)
    | (cases e; exact .inr ⟨_, _, h1.str, h2.str, q _ H Hf (.z s (.bl _))⟩)
theorem ops_le : OpS K (rI0 fun i j => .bl (decide (i ≤ j))) dLe := fun Hf H x y dx dy z Q s h1 h2 e q => by
  cases dx <;> cases dy <;> first
    | (cases e; done)
    | (cases e; exact ⟨_, _, h1.int, h2.int, q _ H Hf (.z s (.bl _))⟩)
theorem ops_ge : OpS K (rI0 fun i j => .bl (decide (j ≤ i))) dGe := fun Hf H x y dx dy z Q s h1 h2 e q => by
  cases dx <;> cases dy <;> first
    | (cases e; done)
    | (cases e; exact ⟨_, _, h1.int, h2.int, q _ H Hf (.z s (.bl _))⟩)
def rIsN : R2 := fun x y H Q => y = .non ∧ Q (.bl (decide (x = .non))) H
def rNotN : R2 := fun x y H Q => y = .non ∧ Q (.bl (!decide (x = .non))) H
theorem op_isV : OpR X (compareOp .Is) rIsN := op_isN
theorem op_isntV : OpR X (compareOp .IsNot) rNotN := op_notN
theorem ops_is : OpS K rIsN dIs := fun Hf H x y dx dy z Q s h1 h2 e q => by
  cases dy <;> first
    | (cases dx <;> cases e; done)
    | (refine ⟨h2.none, ?_⟩; rw [h1.non_iff]; cases dx <;> cases e <;> exact q _ H Hf (.z s (.bl _)))
theorem ops_isnt : OpS K rNotN dIsnt := fun Hf H x y dx dy z Q s h1 h2 e q => by
  cases dy <;> first
    | (cases dx <;> cases e; done)
    | (refine ⟨h2.none, ?_⟩; rw [h1.non_iff]; cases dx <;> cases e <;> exact q _ H Hf (.z s (.bl _)))
/-! subscripts -/
theorem ops_at : OpS K (rIx K) dAt := fun Hf H x y dx dy z Q s h1 h2 e q => by
  unfold dAt at e
  split at e
  · cases h : atI ‹List D› ‹Int› with
    | none => rw [h] at e; cases e
    | some d =>
      rw [h] at e
      cases e
      obtain ⟨a, vs, rfl, r, f⟩ := h1.list s
      obtain ⟨v, e1, f1⟩ := f.at h
      exact .inl ⟨a, vs, _, v, rfl, h2.int, SqL.of r, e1, q _ H Hf (.z s f1)⟩
  · cases h : atI ‹List D› ‹Int› with
    | none => rw [h] at e; cases e
    | some d =>
      rw [h] at e
      cases e
      obtain ⟨a, vs, rfl, r, f⟩ := h1.tup
      obtain ⟨v, e1, f1⟩ := f.at h
      exact .inr (.inl ⟨a, vs, _, v, rfl, h2.int, Same.seqT s r, e1, q _ H Hf (.z s f1)⟩)
  · split at e
    · cases h : atI (‹Str› : Str).cps.toList ‹Int› with
      | none => rw [h] at e; cases e
      | some d =>
        rw [h] at e
        cases e
        exact .inr (.inr ⟨_, _, d, h1.str, h2.int, ‹_›, h, q _ H Hf (.z s (.str _))⟩)
    · cases e
  · cases h : atI ‹List D› ‹Int› with
    | none => rw [h] at e; cases e
    | some d =>
      rw [h] at e
      cases e
      obtain ⟨a, ns, rfl, r, rfl⟩ := h1.scr s
      rw [atI_map] at h
      cases h' : atI ns ‹Int› with
      | none => rw [h'] at h; cases h
      | some n =>
        rw [h'] at h
        cases h
        exact .inl ⟨a, _, _, .int n, rfl, h2.int, r, by rw [atI_map, h']; rfl, q _ H Hf (.z s (.int n))⟩
  · cases h : atI ‹List D› ‹Int› with
    | none => rw [h] at e; cases e
    | some d =>
      rw [h] at e
      cases e
      obtain ⟨a, vs, rfl, r, f⟩ := h1.kt
      obtain ⟨v, e1, f1⟩ := f.at h
      exact .inr (.inl ⟨a, vs, _, v, rfl, h2.int, Same.seqT s r, e1, q _ H Hf (.z s f1)⟩)
  · cases e
end
end PV
namespace PV
open PySem PySem.Spec PyProof.Rows L2

/-! ### lists of frozen items -/
def RFs (g : GW) (σ : St) (fr : List (V × Va)) : Hp → Hp → List D → Ev → List V → Prop := fun Hf H d Γ v => StOk g.h Hf H σ Γ fr ∧ FzAll g.h.K Hf v d
def tFs (g : GW) (f : Ev → Out (List D)) : TA := fun σ H Q => ∃ Hf Γ fr, StOk g.h Hf H σ Γ fr ∧ Post g σ fr (RFs g σ fr) Hf Q (f Γ)
structure PFs (X : Cx) (W : WX) (es : List Expr) (f : Ev → Out (List D)) : Prop where
  run : ∀ f0 h0, PA X es (tFs (gh X W f0 h0) f)
def fsN : Ev → Out (List D) := fun Γ => .ok [] Γ
def fsC (f : Ev → Out D) (fs : Ev → Out (List D)) : Ev → Out (List D) := fun Γ => (f Γ).bind fun d Γ1 => (fs Γ1).bind fun ds Γ2 => .ok (d :: ds) Γ2
section
variable {X : Cx} {W : WX} {e : Expr} {es : List Expr} {pos : Pos}
theorem pfs_n : PFs X W [] fsN := ⟨fun f0 h0 => pa_nil.imp fun σ H Q ⟨Hf, Γ, fr, st, p⟩ => p [] H Hf (Same.refl _) ⟨st, .nil⟩⟩
theorem pfs_c {f : Ev → Out D} {fs : Ev → Out (List D)} (h : PF X W e f) (hs : PFs X W es fs) (hst : starEach (e :: es) X.env = (false, eval e X.env) :: starEach es X.env := by rfl) : PFs X W (e :: es) (fsC f fs) :=
  ⟨fun f0 h0 => (pa_cons (h.run f0 h0) (hs.run f0 h0) hst).imp fun σ H Q ⟨Hf, Γ, fr, st, p⟩ => ⟨Hf, Γ, fr, st, Post.bind p fun d Γ1 _ v H1 Hf1 s1 ⟨st1, l1⟩ q => ⟨Hf1, Γ1, fr, st1, Post.bind q fun ds Γ2 _ vs H2 Hf2 s2 ⟨st2, l2⟩ q => q (v :: vs) H2 Hf2 (Same.refl _) ⟨st2, .cons (l1.mono s2) l2⟩⟩⟩⟩
/-- [a, b, ..], (a, b, ..) -/
def fLst (fs : Ev → Out (List D)) : Ev → Out Va := fun Γ => (fs Γ).bind fun ds Γ1 => .of (if ds.length ≤ 16777216 then some (.l .z, .list ds) else none) Γ1
def fTup (fs : Ev → Out (List D)) : Ev → Out D := fun Γ => (fs Γ).bind fun ds Γ1 => .of (if ds.length ≤ 16777216 then some (.tuple ds) else none) Γ1
theorem pv_lst {fs : Ev → Out (List D)} (h : PFs X W es fs) : PV X W (.List es pos) (fLst fs) :=
  ⟨fun f0 h0 => (pe_lst (h.run f0 h0)).imp fun σ H Q ⟨Hf, Γ, fr, st, p⟩ => ⟨Hf, Γ, fr, st, Post.bind p fun ds Γ1 _ vs H1 Hf1 s1 ⟨st1, l1⟩ q => by
    obtain ⟨x, e, q⟩ := Post.of q
    split at e <;> cases e
    refine ⟨by rw [l1.length, sizeLine_eq]; assumption, fun p n => ?_⟩
    exact q _ _ Hf1 (Same.refl _) (st1.pushN (.lst st1.sub n l1))⟩⟩
theorem pf_tup {fs : Ev → Out (List D)} {k} (h : PFs X W es fs) : PF X W (.Tuple es k pos) (fTup fs) :=
  ⟨fun f0 h0 => (pe_tup (h.run f0 h0)).imp fun σ H Q ⟨Hf, Γ, fr, st, p⟩ => ⟨Hf, Γ, fr, st, Post.bind p fun ds Γ1 _ vs H1 Hf1 s1 ⟨st1, l1⟩ q => by
    obtain ⟨x, e, q⟩ := Post.of q
    split at e <;> cases e
    refine ⟨by rw [l1.length, sizeLine_eq]; assumption, fun p n => ?_⟩
    have nv := NewV.tup (K := X.K) st1.sub n l1
    have st2 := st1.pushN nv
    exact q _ _ _ nv.f1 ⟨st2.pop, st2.top⟩⟩⟩
end

/-! ### calls of built-ins -/
def CallS (K : PySem.W.Frag) (r : List V → Hp → VK → Prop) (op : List D → Option Va) : Prop := ∀ (Hf H : Hp) (xs : List V) (ds : List D) (z : Va) (Q : VK), Same Hf H → Fz1All K Hf H xs ds → op ds = some z → (∀ v H' Hf', NewV K Hf H H' Hf' v z → Q v H') → r xs H Q
def fB (op : List D → Option Va) (os : Opns) : Ev → Out Va := fun Γ => (os.f Γ).bind fun ds Γ1 => .of ((os.l Γ1 ds).bind op) Γ1
section
variable {X : Cx} {W : WX} {e : Expr} {es : List Expr} {x : Str} {p pos : Pos} {id T : String} {r : List V → Hp → VK → Prop} {op : List D → Option Va} {os : Opns}
theorem tCB_of {g : GW} (hs : CallS g.h.K r op) {σ : St} {H : Hp} {Q : VK} (h : tV g (fB op os) σ H Q) : tCB r (tA g os) σ H Q := by
  obtain ⟨Hf, Γ, fr, st, p⟩ := h
  refine ⟨Hf, Γ, fr, st, Post.bind p fun ds Γ1 _ vs H1 Hf1 s1 ⟨st1, l1⟩ q => ?_⟩
  obtain ⟨z, e, q⟩ := Post.of q
  cases h : os.l Γ1 ds with
  | none => rw [h] at e; cases e
  | some ds' =>
    rw [h] at e
    exact hs Hf1 H1 vs ds' z Q st1.sub (l1 Γ1 Hf1 H1 fr (Same.refl _) st1 ds' h) e fun v' H' Hf' n => q v' H' Hf' n.f1 (st1.pushN n)
theorem pv_callB (hc : CallR X (.builtin id) r) (hs : CallS X.K r op) (hg : Gl X x) (hm : X.mg x = none) (hv : bootBuiltins x = some (.builtin id)) (ha : PZs X W (e :: es) os) (hn : x ≠ "__name__" := by decide) (hdb : (x == ("__debug__" : Str)) = false := by decide)
    (he : starEach (e :: es) X.env = (false, eval e X.env) :: starEach es X.env := by rfl) (hpl : (backTo pos (starEach es X.env)).any (·.1) = false := by rfl) : PV X W (.Call (.Name x p) (e :: es) [] pos) (fB op os) :=
  ⟨fun f0 h0 => (pe_callB hc hg hm hv (ha.run f0 h0) hn hdb he hpl).imp fun σ H Q h => tCB_of hs h⟩
theorem pv_callTy (hc : CallR X (.type T) r) (hs : CallS X.K r op) (hg : Gl X x) (hm : X.mg x = none) (hv : bootBuiltins x = some (.type T)) (ha : PZs X W (e :: es) os) (hn : x ≠ "__name__" := by decide) (hdb : (x == ("__debug__" : Str)) = false := by decide)
    (he : starEach (e :: es) X.env = (false, eval e X.env) :: starEach es X.env := by rfl) (hpl : (backTo pos (starEach es X.env)).any (·.1) = false := by rfl) : PV X W (.Call (.Name x p) (e :: es) [] pos) (fB op os) :=
  ⟨fun f0 h0 => (pe_callTy hc hg hm hv (ha.run f0 h0) hn hdb he hpl).imp fun σ H Q h => tCB_of hs h⟩
end
section
variable {X : Cx} {K : PySem.W.Frag}
theorem Fz1All.one {Hf H : Hp} {xs : List V} {d : D} (h : Fz1All K Hf H xs [d]) : ∃ v, xs = [v] ∧ Fz1 K Hf H v d := by
  cases h with
  | cons h r => cases r; exact ⟨_, rfl, h⟩
theorem Fz1All.two {Hf H : Hp} {xs : List V} {d e : D} (h : Fz1All K Hf H xs [d, e]) : ∃ v w, xs = [v, w] ∧ Fz1 K Hf H v d ∧ Fz1 K Hf H w e := by
  cases h with
  | cons h r =>
    cases r with
    | cons h2 r2 => cases r2; exact ⟨_, _, rfl, h, h2⟩
def dLen : List D → Option Va
  | [.list ds] => some (.z, .int ds.length)
  | [.tuple ds] => some (.z, .int ds.length)
  | [.str z] => if z.length ≤ 16777216 then some (.z, .int z.length) else none
  | [.dict [(.none, .list ds)]] => some (.z, .int ds.length)
  | _ => none
def rLenV (K : PySem.W.Frag) : List V → Hp → VK → Prop := fun xs H Q => (∃ p ys, xs = [.ref p] ∧ (SqL K H p ys ∨ SqT K H p ys) ∧ Q (.int ys.length) H) ∨ ∃ z, xs = [.str z] ∧ z.length ≤ sizeLine ∧ Q (.int z.length) H
theorem call_lenV : CallR X (.builtin "len") (rLenV X.K) := call_len_seq.or call_len_str
theorem cs_len : CallS K (rLenV K) dLen := fun Hf H xs ds z Q s h e q => by
  unfold dLen at e
  split at e
  · obtain ⟨v, rfl, hh⟩ := h.one
    cases e
    obtain ⟨a, vs, rfl, r, f⟩ := hh.list s
    exact .inl ⟨a, vs, rfl, .inl (SqL.of r), by rw [f.length]; exact q _ H Hf (.z s (.int _))⟩
  · obtain ⟨v, rfl, hh⟩ := h.one
    cases e
    obtain ⟨a, vs, rfl, r, f⟩ := hh.tup
    exact .inl ⟨a, vs, rfl, .inr (Same.seqT s r), by rw [f.length]; exact q _ H Hf (.z s (.int _))⟩
  · obtain ⟨v, rfl, hh⟩ := h.one
    split at e <;> cases e
    cases hh.str
    exact .inr ⟨_, rfl, by rw [sizeLine_eq]; assumption, q _ H Hf (.z s (.int _))⟩
  · obtain ⟨v, rfl, hh⟩ := h.one
    cases e
    obtain ⟨a, ns, rfl, r, rfl⟩ := hh.scr s
    refine .inl ⟨a, _, rfl, .inl r, ?_⟩
    rw [List.length_map] at q ⊢
    exact q _ H Hf (.z s (.int _))
  · cases e
/-- int(n), int(flag) -/
def dInt : List D → Option Va
  | [.int i] => some (.z, .int i)
  | [.bool b] => some (.z, .int (if b then 1 else 0))
  | _ => none
theorem cs_int : CallS K (fun xs H Q => (∃ i, xs = [.int i] ∧ Q (.int i) H) ∨ ∃ k, xs = [.bl k] ∧ Q (.int (if k then 1 else 0)) H) dInt := fun Hf H xs ds z Q s h e q => by
  unfold dInt at e
  split at e
  · obtain ⟨v, rfl, hh⟩ := h.one
    cases e
    cases hh.int
    exact .inl ⟨_, rfl, q _ H Hf (.z s (.int _))⟩
  · obtain ⟨v, rfl, hh⟩ := h.one
    cases e
    cases hh.bool
    exact .inr ⟨_, rfl, q _ H Hf (.z s (.int _))⟩
  · cases e
/-- list(xs), tuple(xs) -/
def dListOf : List D → Option Va
  | [.list ds] => some (.l .z, .list ds)
  | [.tuple ds] => some (.l .z, .list ds)
  | _ => none
theorem cs_list : CallS K (fun xs H Q => ∃ p ys, xs = [.ref p] ∧ (SqL K H p ys ∨ SqT K H p ys) ∧ ∀ l, H l = none → Q (.ref l) (upd H l (.lst ys))) dListOf := fun Hf H xs ds z Q s h e q => by
  unfold dListOf at e
  split at e
  · obtain ⟨v, rfl, hh⟩ := h.one
    cases e
    obtain ⟨a, vs, rfl, r, f⟩ := hh.list s
    exact ⟨a, vs, rfl, .inl (SqL.of r), fun l n => q _ _ Hf (.lst s n f)⟩
  · obtain ⟨v, rfl, hh⟩ := h.one
    cases e
    obtain ⟨a, vs, rfl, r, f⟩ := hh.tup
    exact ⟨a, vs, rfl, .inr (Same.seqT s r), fun l n => q _ _ Hf (.lst s n f)⟩
  · cases e
def dTupOf : List D → Option Va
  | [.list ds] => some (.z, .tuple ds)
  | [.tuple ds] => some (.z, .tuple ds)
  | _ => none
theorem cs_tuple : CallS K (fun xs H Q => ∃ p ys, xs = [.ref p] ∧ ((SqL K H p ys ∧ ∀ l, H l = none → Q (.ref l) (upd H l (.tup ys))) ∨ (SqT K H p ys ∧ Q (.ref p) H))) dTupOf := fun Hf H xs ds z Q s h e q => by
  unfold dTupOf at e
  split at e
  · obtain ⟨v, rfl, hh⟩ := h.one
    cases e
    obtain ⟨a, vs, rfl, r, f⟩ := hh.list s
    exact ⟨a, vs, rfl, .inl ⟨SqL.of r, fun l n => q _ _ _ (.tup s n f)⟩⟩
  · obtain ⟨v, rfl, hh⟩ := h.one
    cases e
    obtain ⟨a, vs, rfl, r, f⟩ := hh.tupZ
    exact ⟨a, vs, rfl, .inr ⟨Same.seqT s (SqT.of r), q _ H Hf (.z s (.tup r f))⟩⟩
  · cases e
/-- the dInts, the truth values of a list -/
def dInts : List D → Option (List Int)
  | [] => some []
  | .int i :: ds => (dInts ds).map (i :: ·)
  | _ => none
theorem ints_eq : ∀ {ds : List D} {ns : List Int}, dInts ds = some ns → ds = ns.map .int
  | [], ns, h => by cases h; rfl
  | .int i :: ds, ns, h => by
    cases q : dInts ds with
    | none => rw [dInts, q] at h; cases h
    | some ms =>
      rw [dInts, q] at h
      cases h
      rw [ints_eq q]
      rfl
  | .none :: _, _, h => nomatch h
  | .bool _ :: _, _, h => nomatch h
  | .str _ :: _, _, h => nomatch h
  | .list _ :: _, _, h => nomatch h
  | .tuple _ :: _, _, h => nomatch h
  | .dict _ :: _, _, h => nomatch h
theorem ints_map : ∀ (ns : List Int), dInts (ns.map .int) = some ns
  | [] => rfl
  | n :: ns => by rw [List.map_cons, dInts, ints_map ns]; rfl
def dBools : List D → Option (List Bool)
  | [] => some []
  | .bool i :: ds => (dBools ds).map (i :: ·)
  | _ => none
theorem bools_eq : ∀ {ds : List D} {ns : List Bool}, dBools ds = some ns → ds = ns.map .bool
  | [], ns, h => by cases h; rfl
  | .bool i :: ds, ns, h => by
    cases q : dBools ds with
    | none => rw [dBools, q] at h; cases h
    | some ms =>
      rw [dBools, q] at h
      cases h
      rw [bools_eq q]
      rfl
  | .none :: _, _, h => nomatch h
  | .int _ :: _, _, h => nomatch h
  | .str _ :: _, _, h => nomatch h
  | .list _ :: _, _, h => nomatch h
  | .tuple _ :: _, _, h => nomatch h
  | .dict _ :: _, _, h => nomatch h
theorem bools_map : ∀ (ns : List Bool), dBools (ns.map .bool) = some ns
  | [] => rfl
  | n :: ns => by rw [List.map_cons, dBools, bools_map ns]; rfl
def dSum : List D → Option Va
  | [.list ds] => (dInts ds).map fun ns => (.z, .int ns.sum)
  | _ => none
def maxI : Int → List Int → Int
  | m, [] => m
  | m, n :: ns => maxI (if m < n then n else m) ns
def minI : Int → List Int → Int
  | m, [] => m
  | m, n :: ns => minI (if n < m then n else m) ns
def dMax : List D → Option Va
  | [.list ds] => match dInts ds with | some (n :: ns) => some (.z, .int (maxI n ns)) | _ => none
  | [.int i, .int j] => some (.z, .int (if i < j then j else i))
  | _ => none
def dMin : List D → Option Va
  | [.list ds] => match dInts ds with | some (n :: ns) => some (.z, .int (minI n ns)) | _ => none
  | [.int i, .int j] => some (.z, .int (if j < i then j else i))
  | _ => none
def dAll : List D → Option Va
  | [.list ds] => (dBools ds).map fun bs => (.z, .bool (bs.all id))
  | _ => none
def dAny : List D → Option Va
  | [.list ds] => (dBools ds).map fun bs => (.z, .bool (bs.any id))
  | _ => none
def dAbs : List D → Option Va
  | [.int i] => some (.z, .int (if i < 0 then -i else i))
  | _ => none
theorem cs_sum : CallS K (rSum K) dSum := fun Hf H xs ds z Q s h e q => by
  unfold dSum at e
  split at e
  · obtain ⟨v, rfl, hh⟩ := h.one
    cases h2 : dInts ‹List D› with
    | none => rw [h2] at e; cases e
    | some ns =>
      rw [h2] at e
      cases e
      obtain ⟨a, vs, rfl, r, f⟩ := hh.list s
      rw [ints_eq h2] at f
      rw [f.ints] at r
      exact ⟨a, ns, rfl, SqL.of r, q _ H Hf (.z s (.int _))⟩
  · cases e
theorem cs_all : CallS K (rAll K) dAll := fun Hf H xs ds z Q s h e q => by
  unfold dAll at e
  split at e
  · obtain ⟨v, rfl, hh⟩ := h.one
    cases h2 : dBools ‹List D› with
    | none => rw [h2] at e; cases e
    | some ns =>
      rw [h2] at e
      cases e
      obtain ⟨a, vs, rfl, r, f⟩ := hh.list s
      rw [bools_eq h2] at f
      rw [f.bools] at r
      exact ⟨a, ns, rfl, SqL.of r, q _ H Hf (.z s (.bl _))⟩
  · cases e
theorem cs_any : CallS K (rAny K) dAny := fun Hf H xs ds z Q s h e q => by
  unfold dAny at e
  split at e
  · obtain ⟨v, rfl, hh⟩ := h.one
    cases h2 : dBools ‹List D› with
    | none => rw [h2] at e; cases e
    | some ns =>
      rw [h2] at e
      cases e
      obtain ⟨a, vs, rfl, r, f⟩ := hh.list s
      rw [bools_eq h2] at f
      rw [f.bools] at r
      exact ⟨a, ns, rfl, SqL.of r, q _ H Hf (.z s (.bl _))⟩
  · cases e
theorem maxI_spec : ∀ (ns : List Int) (m : Int), (maxI m ns = m ∨ maxI m ns ∈ ns) ∧ m ≤ maxI m ns ∧ ∀ y ∈ ns, y ≤ maxI m ns
  | [], m => ⟨.inl rfl, Int.le_refl _, fun _ h => nomatch h⟩
  | n :: ns, m => by
    unfold maxI
    obtain ⟨h1, h2, h3⟩ := maxI_spec ns (if m < n then n else m)
    by_cases c : m < n
    · rw [if_pos c] at h1 h2 h3 ⊢
      refine ⟨.inr ?_, by omega, fun y hy => ?_⟩
      · rcases h1 with h1 | h1
        · rw [h1]; exact List.mem_cons_self
        · exact List.mem_cons_of_mem _ h1
      · rcases List.mem_cons.mp hy with rfl | hy
        · exact h2
        · exact h3 y hy
    · rw [if_neg c] at h1 h2 h3 ⊢
      refine ⟨?_, by omega, fun y hy => ?_⟩
      · rcases h1 with h1 | h1
        · exact .inl h1
        · exact .inr (List.mem_cons_of_mem _ h1)
      · rcases List.mem_cons.mp hy with rfl | hy
        · omega
        · exact h3 y hy
theorem minI_spec : ∀ (ns : List Int) (m : Int), (minI m ns = m ∨ minI m ns ∈ ns) ∧ minI m ns ≤ m ∧ ∀ y ∈ ns, minI m ns ≤ y
  | [], m => ⟨.inl rfl, Int.le_refl _, fun _ h => nomatch h⟩
  | n :: ns, m => by
    unfold minI
    obtain ⟨h1, h2, h3⟩ := minI_spec ns (if n < m then n else m)
    by_cases c : n < m
    · rw [if_pos c] at h1 h2 h3 ⊢
      refine ⟨.inr ?_, by omega, fun y hy => ?_⟩
      · rcases h1 with h1 | h1
        · rw [h1]; exact List.mem_cons_self
        · exact List.mem_cons_of_mem _ h1
      · rcases List.mem_cons.mp hy with rfl | hy
        · exact h2
        · exact h3 y hy
    · rw [if_neg c] at h1 h2 h3 ⊢
      refine ⟨?_, by omega, fun y hy => ?_⟩
      · rcases h1 with h1 | h1
        · exact .inl h1
        · exact .inr (List.mem_cons_of_mem _ h1)
      · rcases List.mem_cons.mp hy with rfl | hy
        · omega
        · exact h3 y hy
theorem min_anti {a b c : Int} (h1 : a ≤ b) (h2 : b ≤ a) : a = b := by omega
def rMaxV (K : PySem.W.Frag) : List V → Hp → VK → Prop := fun xs H Q => rMax K xs H Q ∨ ∃ i j, xs = [.int i, .int j] ∧ Q (.int (if i < j then j else i)) H
def rMinV (K : PySem.W.Frag) : List V → Hp → VK → Prop := fun xs H Q => rMin K xs H Q ∨ ∃ i j, xs = [.int i, .int j] ∧ Q (.int (if j < i then j else i)) H
theorem cs_max : CallS K (rMaxV K) dMax := fun Hf H xs ds z Q s h e q => by
  unfold dMax at e
  split at e
  · obtain ⟨v, rfl, hh⟩ := h.one
    split at e
    · rename_i n ns h2
      cases e
      obtain ⟨a, vs, rfl, r, f⟩ := hh.list s
      rw [ints_eq h2] at f
      rw [f.ints] at r
      refine .inl ⟨a, n :: ns, rfl, SqL.of r, Nat.succ_pos _, fun m hm hy => ?_⟩
      obtain ⟨h1, h2, h3⟩ := maxI_spec ns n
      have e1 : m ≤ maxI n ns := by
        rcases List.mem_cons.mp hm with rfl | hm
        · exact h2
        · exact h3 m hm
      have e2 : maxI n ns ≤ m := by
        rcases h1 with h1 | h1
        · rw [h1]; exact hy n List.mem_cons_self
        · exact hy _ (List.mem_cons_of_mem _ h1)
      rw [min_anti (c := 0) e1 e2]
      exact q _ H Hf (.z s (.int _))
    · cases e
  · obtain ⟨v, w, rfl, h1, h2⟩ := h.two
    cases e
    cases h1.int
    cases h2.int
    exact .inr ⟨_, _, rfl, q _ H Hf (.z s (.int _))⟩
  · cases e
theorem cs_min : CallS K (rMinV K) dMin := fun Hf H xs ds z Q s h e q => by
  unfold dMin at e
  split at e
  · obtain ⟨v, rfl, hh⟩ := h.one
    split at e
    · rename_i n ns h2
      cases e
      obtain ⟨a, vs, rfl, r, f⟩ := hh.list s
      rw [ints_eq h2] at f
      rw [f.ints] at r
      refine .inl ⟨a, n :: ns, rfl, SqL.of r, Nat.succ_pos _, fun m hm hy => ?_⟩
      obtain ⟨h1, h2, h3⟩ := minI_spec ns n
      have e1 : minI n ns ≤ m := by
        rcases List.mem_cons.mp hm with rfl | hm
        · exact h2
        · exact h3 m hm
      have e2 : m ≤ minI n ns := by
        rcases h1 with h1 | h1
        · rw [h1]; exact hy n List.mem_cons_self
        · exact hy _ (List.mem_cons_of_mem _ h1)
      rw [min_anti (c := 0) e2 e1]
      exact q _ H Hf (.z s (.int _))
    · cases e
  · obtain ⟨v, w, rfl, h1, h2⟩ := h.two
    cases e
    cases h1.int
    cases h2.int
    exact .inr ⟨_, _, rfl, q _ H Hf (.z s (.int _))⟩
  · cases e
end
end PV
namespace PV
open PySem PySem.Spec PyProof.Rows L2

/-! ### a call of a def of one's own -/
def RPost (g : GW) (Hf H : Hp) (Q : VK) (E : XK) : Res → Prop
  | .ok x => ∀ v H' Hf', NewV g.h.K Hf H H' Hf' v x → Q v H'
  | .ex e => ∀ cls dx H' Hf', Same H H' → Same Hf Hf' → Same Hf' H' → (∀ a, Hf' a ≠ none → Hf a ≠ none ∨ H a = none) → ExOk g Hf' e cls dx → E cls dx H'
  | .st => False
/-- the promise of a def that computes F -/
def spV (K : PySem.W.Frag) (mg : Str → Option Value) (n : Nat) (F : List D → Res) : Sp := fun vs H Q E => ∃ Hf ds, ds.length = n ∧ Same Hf H ∧ FzAll K Hf vs ds ∧ RPost ⟨⟨K, Hf, H⟩, mg, fun _ _ _ _ => False⟩ Hf H Q E (F ds)
def fCall (n : Nat) (F : List D → Res) (fs : Ev → Out (List D)) : Ev → Out Va := fun Γ => (fs Γ).bind fun ds Γ1 => if ds.length = n then (match F ds with | .ok x => .ok x Γ1 | .ex e => .ex e Γ1 | .st => .st) else .st
section
variable {X : Cx} {W : WX} {e : Expr} {es : List Expr} {x : Str} {p pos : Pos}
theorem pv_call {f : Addr} {fd : FuncData} {ps : List Str} {k n : Nat} {F : List D → Res} {fs : Ev → Out (List D)} (hF : FnOk X.prog X.w X.K X.mg X.base (L2.CX X.prog X.w) k f fd ps (spV X.K X.mg n F)) (hr : Room k X.A) (hg : Gl X x) (hm : X.mg x = some (.ref f))
    (hk : PySem.W.keepIn X.K (.ref f) = true) (hb : Binds X.K fd ps []) (tk : Takes X W) (ha : PFs X W (e :: es) fs) (hdb : (x == ("__debug__" : Str)) = false := by decide) (he : starEach (e :: es) X.env = (false, eval e X.env) :: starEach es X.env := by rfl)
    (hpl : (backTo pos (starEach es X.env)).any (·.1) = false := by rfl) : PV X W (.Call (.Name x p) (e :: es) [] pos) (fCall n F fs) :=
  ⟨fun f0 h0 => (pe_callS (E := WE W) hF hr hg hm hk hb (fun σ => passAt tk σ) (ha.run f0 h0) hdb he hpl).imp fun σ H Q ⟨Hf, Γ, fr, st, p⟩ => ⟨Hf, Γ, fr, st, Post.bind p fun ds Γ1 _ vs H1 Hf1 s1 ⟨st1, l1⟩ q => by
    refine ⟨Hf1, ds, ?_, st1.sub, l1, ?_⟩
    · by_cases c : ds.length = n
      · exact c
      · rw [if_neg c] at q; exact q.elim
    · split at q
      · cases h : F ds with
        | ok x =>
          rw [h] at q
          exact fun v H' Hf' nv => q v H' Hf' nv.f1 (st1.pushN nv)
        | ex ee =>
          rw [h] at q
          exact fun cls dx H' Hf' a1 a2 a3 a4 a5 => q cls dx H' Hf' a2 a5 (st1.freeze a1 a2 a3 a4)
        | st =>
          rw [h] at q
          exact q
      · exact q.elim⟩⟩
end

/-! ### tests -/
def dTru : D → Option Bool
  | .none => some false
  | .bool b => some b
  | .int i => some (i != 0)
  | .str z => if z.length ≤ 16777216 then some ((z.length : Int) != 0) else none
  | .list ds => some (!ds.isEmpty)
  | .tuple ds => some (!ds.isEmpty)
  | _ => none
def bO (o : Opn) : Ev → Out Bool := fun Γ => (o.f Γ).bind fun d Γ1 => .of ((o.l Γ1 d).bind dTru) Γ1
def bNot (c : Ev → Out Bool) : Ev → Out Bool := fun Γ => (c Γ).bind fun b Γ1 => .ok (!b) Γ1
def bAnd (a b : Ev → Out Bool) : Ev → Out Bool := fun Γ => (a Γ).bind fun c Γ1 => if c = true then b Γ1 else .ok false Γ1
def bOr (a b : Ev → Out Bool) : Ev → Out Bool := fun Γ => (a Γ).bind fun c Γ1 => if c = true then .ok true Γ1 else b Γ1
def vIf (c : Ev → Out Bool) (a b : Ev → Out Va) : Ev → Out Va := fun Γ => (c Γ).bind fun k Γ1 => if k = true then a Γ1 else b Γ1
/-- .. as values -/
def dB : D → Option Bool
  | .bool b => some b
  | _ => none
def vAnd (a : Ev → Out D) (b : Ev → Out Va) : Ev → Out Va := fun Γ => (a Γ).bind fun d Γ1 => match d with | .bool true => b Γ1 | .bool false => .ok (.z, .bool false) Γ1 | _ => .st
def vOr (a : Ev → Out D) (b : Ev → Out Va) : Ev → Out Va := fun Γ => (a Γ).bind fun d Γ1 => match d with | .bool true => .ok (.z, .bool true) Γ1 | .bool false => b Γ1 | _ => .st
def fNot (a : Ev → Out D) : Ev → Out D := fun Γ => (a Γ).bind fun d Γ1 => match d with | .bool b => .ok (.bool !b) Γ1 | _ => .st
theorem isEmpty_len {α β : Type} {xs : List α} {ys : List β} (h : xs.length = ys.length) : xs.isEmpty = ys.isEmpty := by
  cases xs <;> cases ys <;> simp at h ⊢
section
variable {X : Cx} {W : WX} {a b : Expr} {rest : List Expr} {pos : Pos}
theorem pb_o {o : Opn} (h : PZ X W a o) (he : ∀ whole, isTrue a X.env whole = (do let v ← whole; standAt a.pos; holding [v] (truthy v)) := by intro _; rfl) : PB X W a (bO o) :=
  ⟨fun f0 h0 => (pt_truth (h.run f0 h0) he).imp fun σ H Q ⟨Hf, Γ, fr, st, p⟩ => ⟨Hf, Γ, fr, st, Post.bind p fun d Γ1 _ v H1 Hf1 s1 ⟨st1, l1⟩ q => by
    obtain ⟨c, e, q⟩ := Post.of q
    cases h : o.l Γ1 d with
    | none => rw [h] at e; cases e
    | some d' =>
      rw [h] at e
      have z := l1 Γ1 Hf1 H1 fr (Same.refl _) st1 d' h
      have fin := q c H1 Hf1 (Same.refl _) ⟨st1, rfl⟩
      cases d' with
      | none => cases e; cases z.none; exact ⟨_, rfl, fin⟩
      | bool _ => cases e; cases z.bool; exact ⟨_, rfl, fin⟩
      | int _ => cases e; cases z.int; exact ⟨_, rfl, fin⟩
      | str x =>
        change (if x.length ≤ 16777216 then _ else _) = _ at e
        split at e <;> cases e
        cases z.str
        exact ⟨_, ⟨by rw [sizeLine_eq]; assumption, rfl⟩, fin⟩
      | list ds =>
        cases e
        obtain ⟨a, vs, rfl, r, f⟩ := z.list st1.sub
        exact ⟨_, .inl ⟨vs, SqL.of r, by rw [isEmpty_len f.length]⟩, fin⟩
      | tuple ds =>
        cases e
        obtain ⟨a, vs, rfl, r, f⟩ := z.tup
        exact ⟨_, .inr (.inl ⟨vs, Same.seqT st1.sub r, by rw [isEmpty_len f.length]⟩), fin⟩
      | dict _ => cases e⟩⟩
theorem pb_not {c : Ev → Out Bool} (h : PB X W a c) : PB X W (.UnaryOp .Not a pos) (bNot c) :=
  ⟨fun f0 h0 => (pt_not (h.run f0 h0)).imp fun σ H Q ⟨Hf, Γ, fr, st, p⟩ => ⟨Hf, Γ, fr, st, Post.bind p fun d Γ1 _ v H1 Hf1 s1 ⟨st1, e⟩ q => q (!v) H1 Hf1 (Same.refl _) ⟨st1, by rw [e]⟩⟩⟩
theorem pb_w {c : Ev → Out Bool} (h : PBw X W a c) : PB X W a c := ⟨fun f0 h0 => (h.run f0 h0).pt⟩
theorem pw_a1 {c : Ev → Out Bool} (h : PB X W a c) : PBw X W (.BoolOp .And [a] pos) c := ⟨fun f0 h0 => pw_and1 (h.run f0 h0)⟩
theorem pw_o1 {c : Ev → Out Bool} (h : PB X W a c) : PBw X W (.BoolOp .Or [a] pos) c := ⟨fun f0 h0 => pw_or1 (h.run f0 h0)⟩
theorem pw_a {c d : Ev → Out Bool} (h : PB X W a c) (k : PBw X W (.BoolOp .And (b :: rest) pos) d) : PBw X W (.BoolOp .And (a :: b :: rest) pos) (bAnd c d) :=
  ⟨fun f0 h0 => (pw_and (h.run f0 h0) (k.run f0 h0)).imp fun σ H Q ⟨Hf, Γ, fr, st, p⟩ => ⟨Hf, Γ, fr, st, Post.bind p fun c Γ1 _ v H1 Hf1 s1 ⟨st1, e⟩ q => by
    subst e
    cases v with
    | true => exact ⟨Hf1, Γ1, fr, st1, q⟩
    | false => exact q false H1 Hf1 (Same.refl _) ⟨st1, rfl⟩⟩⟩
theorem pw_o {c d : Ev → Out Bool} (h : PB X W a c) (k : PBw X W (.BoolOp .Or (b :: rest) pos) d) : PBw X W (.BoolOp .Or (a :: b :: rest) pos) (bOr c d) :=
  ⟨fun f0 h0 => (pw_or (h.run f0 h0) (k.run f0 h0)).imp fun σ H Q ⟨Hf, Γ, fr, st, p⟩ => ⟨Hf, Γ, fr, st, Post.bind p fun c Γ1 _ v H1 Hf1 s1 ⟨st1, e⟩ q => by
    subst e
    cases v with
    | true => exact q true H1 Hf1 (Same.refl _) ⟨st1, rfl⟩
    | false => exact ⟨Hf1, Γ1, fr, st1, q⟩⟩⟩
theorem pv_if {c : Expr} {t : Ev → Out Bool} {f f' : Ev → Out Va} (h : PB X W c t) (h1 : PV X W a f) (h2 : PV X W b f') : PV X W (.IfExp c a b pos) (vIf t f f') :=
  ⟨fun f0 h0 => (pe_ifExp (h.run f0 h0) (h1.run f0 h0) (h2.run f0 h0)).imp fun σ H Q ⟨Hf, Γ, fr, st, p⟩ => ⟨Hf, Γ, fr, st, Post.bind p fun c Γ1 _ v H1 Hf1 s1 ⟨st1, e⟩ q => by
    subst e
    cases v with
    | true => exact ⟨Hf1, Γ1, fr, st1, q⟩
    | false => exact ⟨Hf1, Γ1, fr, st1, q⟩⟩⟩
theorem pv_one {op} {f : Ev → Out Va} (h : PV X W a f) : PV X W (.BoolOp op [a] pos) f := ⟨fun f0 h0 => pe_one (h.run f0 h0)⟩
theorem pv_and {f : Ev → Out D} {f' : Ev → Out Va} (h : PF X W a f) (h2 : PV X W (.BoolOp .And (b :: rest) pos) f') : PV X W (.BoolOp .And (a :: b :: rest) pos) (vAnd f f') :=
  ⟨fun f0 h0 => (pe_and (h.run f0 h0) (h2.run f0 h0)).imp fun σ H Q ⟨Hf, Γ, fr, st, p⟩ => ⟨Hf, Γ, fr, st, Post.bind p fun d Γ1 _ v H1 Hf1 s1 ⟨st1, z⟩ q => by
    cases d with
    | bool c =>
      cases z
      cases c with
      | true => exact ⟨true, rfl, Hf1, Γ1, fr, st1, q⟩
      | false => exact ⟨false, rfl, q _ H1 Hf1 (Same.refl _) (st1.push (.bl false))⟩
    | _ => exact q.elim⟩⟩
theorem pv_or {f : Ev → Out D} {f' : Ev → Out Va} (h : PF X W a f) (h2 : PV X W (.BoolOp .Or (b :: rest) pos) f') : PV X W (.BoolOp .Or (a :: b :: rest) pos) (vOr f f') :=
  ⟨fun f0 h0 => (pe_or (h.run f0 h0) (h2.run f0 h0)).imp fun σ H Q ⟨Hf, Γ, fr, st, p⟩ => ⟨Hf, Γ, fr, st, Post.bind p fun d Γ1 _ v H1 Hf1 s1 ⟨st1, z⟩ q => by
    cases d with
    | bool c =>
      cases z
      cases c with
      | false => exact ⟨false, rfl, Hf1, Γ1, fr, st1, q⟩
      | true => exact ⟨true, rfl, q _ H1 Hf1 (Same.refl _) (st1.push (.bl true))⟩
    | _ => exact q.elim⟩⟩
theorem pf_not {f : Ev → Out D} (h : PF X W a f) : PF X W (.UnaryOp .Not a pos) (fNot f) :=
  ⟨fun f0 h0 => (pe_not (h.run f0 h0)).imp fun σ H Q ⟨Hf, Γ, fr, st, p⟩ => ⟨Hf, Γ, fr, st, Post.bind p fun d Γ1 _ v H1 Hf1 s1 ⟨st1, z⟩ q => by
    cases d with
    | bool c =>
      cases z
      exact ⟨c, rfl, q _ H1 Hf1 (Same.refl _) ⟨st1, .bl _⟩⟩
    | _ => exact q.elim⟩⟩
def fNeg (a : Ev → Out D) : Ev → Out D := fun Γ => (a Γ).bind fun d Γ1 => match d with | .int i => .ok (.int (-i)) Γ1 | _ => .st
theorem pf_neg {f : Ev → Out D} (h : PF X W a f) : PF X W (.UnaryOp .USub a pos) (fNeg f) :=
  ⟨fun f0 h0 => (pe_un un_neg (h.run f0 h0)).imp fun σ H Q ⟨Hf, Γ, fr, st, p⟩ => ⟨Hf, Γ, fr, st, Post.bind p fun d Γ1 _ v H1 Hf1 s1 ⟨st1, z⟩ q => by
    cases d with
    | int c =>
      cases z
      exact ⟨c, rfl, q _ H1 Hf1 (Same.refl _) ⟨st1, .int _⟩⟩
    | _ => exact q.elim⟩⟩
end

/-! ### slices -/
def cut {α : Type} (xs : List α) (lo hi : Option Int) : List α := (xs.drop (HT.sIx xs.length 0 lo)).take (HT.sIx xs.length xs.length hi - HT.sIx xs.length 0 lo)
theorem FzAll.cut {K : PySem.W.Frag} {H : Hp} {vs : List V} {ds : List D} (h : FzAll K H vs ds) (lo hi : Option Int) : FzAll K H (cutV vs lo hi) (cut ds lo hi) := by
  unfold cutV PV.cut
  rw [h.length]
  exact (h.drop _).take _
def dCut : D → Option Int → Option Int → Option Va
  | .list ds, lo, hi => some (.l .z, .list (cut ds lo hi))
  | .tuple ds, lo, hi => some (.z, .tuple (cut ds lo hi))
  | .str z, lo, hi => if z.length ≤ 16777216 then some (.z, .str (cutS z lo hi)) else none
  | _, _, _ => none
def fPN : Ev → Out (Option Int) := fun Γ => .ok none Γ
def fPS (f : Ev → Out D) : Ev → Out (Option Int) := fun Γ => (f Γ).bind fun d Γ1 => match d with | .int i => .ok (some i) Γ1 | _ => .st
def vCut (o : Opn) (a b : Ev → Out (Option Int)) : Ev → Out Va := fun Γ => (o.f Γ).bind fun d Γ1 => (a Γ1).bind fun lo Γ2 => (b Γ2).bind fun hi Γ3 => .of ((o.l Γ3 d).bind fun d => dCut d lo hi) Γ3
def RP (g : GW) (σ : St) (fr : List (V × Va)) : Hp → Hp → Option Int → Ev → Option Int → Prop := fun Hf H b Γ c => StOk g.h Hf H σ Γ fr ∧ c = b
structure PPo (X : Cx) (W : WX) (e : Option Expr) (f : Ev → Out (Option Int)) : Prop where
  run : ∀ f0 h0, PO X e fun σ H Q => ∃ Hf Γ fr, StOk (gh X W f0 h0).h Hf H σ Γ fr ∧ Post (gh X W f0 h0) σ fr (RP (gh X W f0 h0) σ fr) Hf Q (f Γ)
theorem _root_.L2.PO.imp {X : Cx} {e : Option Expr} {t t' : St → Hp → (Option Int → Hp → Prop) → Prop} (h : PO X e t) (k : ∀ σ H Q, t' σ H Q → t σ H Q) : PO X e t' := ⟨fun pins s σ H Q I q => h.run pins s σ H Q I (k σ H Q q)⟩
section
variable {X : Cx} {W : WX} {e : Expr} {lo hi : Option Expr} {pos p2 : Pos}
theorem pp_n : PPo X W none fPN := ⟨fun f0 h0 => po_none.imp fun σ H Q ⟨Hf, Γ, fr, st, p⟩ => p none H Hf (Same.refl _) ⟨st, rfl⟩⟩
theorem pp_s {f : Ev → Out D} (h : PF X W e f) : PPo X W (some e) (fPS f) := ⟨fun f0 h0 => (po_some (h.run f0 h0)).imp fun σ H Q ⟨Hf, Γ, fr, st, p⟩ => ⟨Hf, Γ, fr, st, Post.bind p fun d Γ1 _ v H1 Hf1 s1 ⟨st1, z⟩ q => by
    cases d with
    | int c =>
      cases z
      exact ⟨c, rfl, q _ H1 Hf1 (Same.refl _) ⟨st1, rfl⟩⟩
    | _ => exact q.elim⟩⟩
theorem pv_cut {o : Opn} {a b : Ev → Out (Option Int)} (h : PZ X W e o) (hl : PPo X W lo a) (hu : PPo X W hi b) : PV X W (.Subscript e (.Slice lo hi none p2) pos) (vCut o a b) :=
  ⟨fun f0 h0 => (pe_slice (sl_list.or (sl_tupA.or sl_str)) (h.run f0 h0) (hl.run f0 h0) (hu.run f0 h0)).imp fun σ H Q ⟨Hf, Γ, fr, st, p⟩ => ⟨Hf, Γ, fr, st, Post.bind p fun d Γ1 _ v H1 Hf1 s1 ⟨st1, l1⟩ q =>
    ⟨Hf1, Γ1, fr, st1, Post.bind q fun lo Γ2 _ lo' H2 Hf2 s2 ⟨st2, e2⟩ q => ⟨Hf2, Γ2, fr, st2, Post.bind q fun hi Γ3 _ hi' H3 Hf3 s3 ⟨st3, e3⟩ q => by
      subst e2 e3
      obtain ⟨z, e, q⟩ := Post.of q
      cases h : o.l Γ3 d with
      | none => rw [h] at e; cases e
      | some d' =>
        rw [h] at e
        have z1 := l1 Γ3 Hf3 H3 fr (s2.trans s3) st3 d' h
        have sb := st3.sub
        cases d' with
        | list ds =>
          cases e
          obtain ⟨a, vs, rfl, r, f⟩ := z1.list sb
          exact .inl ⟨a, vs, rfl, SqL.of r, fun p n => q _ _ Hf3 (Same.refl _) (st3.pushN (.lst sb n (f.cut _ _)))⟩
        | tuple ds =>
          cases e
          obtain ⟨a, vs, rfl, r, f⟩ := z1.tupZ
          refine .inr (.inl ⟨a, vs, rfl, Same.seqT sb (SqT.of r), fun w => ?_, fun w p n => ?_⟩)
          · have e : cut ds lo' hi' = ds := by
              unfold cut
              rw [← f.length, w.1, w.2]
              rw [List.drop_zero, Nat.sub_zero, f.length, List.take_length]
            rw [e] at q
            exact q _ H3 Hf3 (Same.refl _) (st3.push (.tup r f))
          · have nv := NewV.tup (K := X.K) sb n (f.cut lo' hi')
            exact q _ _ _ nv.f1 (st3.pushN nv)
        | str x =>
          change (if x.length ≤ 16777216 then _ else _) = _ at e
          split at e <;> cases e
          cases z1.str
          exact .inr (.inr ⟨x, rfl, by rw [sizeLine_eq]; assumption, q _ H3 Hf3 (Same.refl _) (st3.push (.str _))⟩)
        | _ => cases e⟩⟩⟩⟩
end

/-! ### isinstance -/
def tyD : D → String
  | .none => "NoneType"
  | .bool _ => "bool"
  | .int _ => "int"
  | .str _ => "str"
  | .list _ => "list"
  | .tuple _ => "tuple"
  | .dict _ => "dict"
def isB (t T : String) : Bool := t == T || (t == "bool" && T == "int")
def dIsi (T : String) (d : D) : Option D := match d with
  | .dict [(.none, _)] => none
  | d => some (.bool (isB (tyD d) T))
def fIsi (T : String) (o : Opn) : Ev → Out D := fun Γ => (o.f Γ).bind fun d Γ1 => .of ((o.l Γ1 d).bind (dIsi T)) Γ1
theorem Fz1.ty {K : PySem.W.Frag} {Hf H : Hp} {v : V} {d : D} (s : Same Hf H) (h : Fz1 K Hf H v d) (hd : ∀ x, d ≠ .dict [(.none, x)]) : TyX K H v (.type (tyD d)) := by
  rcases h with h | ⟨a, vs, ds, rfl, rfl, h, r⟩
  · cases h with
    | non => exact .base .non
    | bl b => exact .base (.bl b)
    | int i => exact .base (.int i)
    | str x => exact .base (.str x)
    | lst h r => exact .base (.lst (s _ _ h))
    | scr ns h => exact absurd rfl (hd _)
    | raw _ => exact absurd rfl (hd _)
    | tup h r => exact .base (.tup (s _ _ h))
    | kt _ _ => exact absurd rfl (hd _)
    | dK h r => exact .base (.dK (s _ _ h))
    | dT h r => exact .base (.dT (s _ _ h))
  · exact .base (.lst h)
section
variable {X : Cx} {W : WX} {a : Expr} {x T : Str} {p p2 pos : Pos}
theorem pf_isi {T : String} {o : Opn} {y : Str} (hg : Gl X x) (hm : X.mg x = none) (hv : bootBuiltins x = some (.builtin "isinstance")) (h : PZ X W a o) (hg2 : Gl X y) (hm2 : X.mg y = none) (hv2 : bootBuiltins y = some (.type T))
    (hk : ∀ t ∈ ["NoneType", "bool", "int", "str", "list", "tuple", "dict"], PySem.W.kitOne X.K (.type t) (.type T) = some (isB t T))
    (hn : x ≠ "__name__" := by decide) (hdb : (x == ("__debug__" : Str)) = false := by decide) (hn2 : y ≠ "__name__" := by decide) (hdb2 : (y == ("__debug__" : Str)) = false := by decide)
    (he : starEach [a, .Name y p2] X.env = (false, eval a X.env) :: starEach [.Name y p2] X.env := by rfl) (hpl : (backTo pos (starEach [.Name y p2] X.env)).any (·.1) = false := by rfl)
    (he2 : starEach [.Name y p2] X.env = (false, eval (.Name y p2) X.env) :: starEach [] X.env := by rfl) : PF X W (.Call (.Name x p) [a, .Name y p2] [] pos) (fIsi T o) :=
  ⟨fun f0 h0 => (pe_callB call_isi hg hm hv (pa_cons (h.run f0 h0) (pa_cons (pe_bltn hg2 hm2 hv2 (v := .ty T) rfl hn2 hdb2) pa_nil he2) he) hn hdb he hpl).imp fun σ H Q ⟨Hf, Γ, fr, st, p⟩ => ⟨Hf, Γ, fr, st, Post.bind p fun d Γ1 _ v H1 Hf1 s1 ⟨st1, l1⟩ q => by
    obtain ⟨c, e, q⟩ := Post.of q
    cases h : o.l Γ1 d with
    | none => rw [h] at e; cases e
    | some d' =>
      rw [h] at e
      have z := l1 Γ1 Hf1 H1 fr (Same.refl _) st1 d' h
      have e1 : (∀ x, d' ≠ .dict [(.none, x)]) ∧ c = .bool (isB (tyD d') T) := by
        change dIsi T d' = some c at e
        unfold dIsi at e
        split at e
        · cases e
        · rename_i hx
          cases e
          exact ⟨fun x z => hx x z, rfl⟩
      obtain ⟨e1, rfl⟩ := e1
      refine ⟨v, .ty T, .type (tyD d'), .type T, isB (tyD d') T, rfl, .ty T, z.ty st1.sub e1, hk _ ?_, q _ H1 Hf1 (Same.refl _) ⟨st1, .bl _⟩⟩
      cases d' <;> simp [tyD]⟩⟩
end

/-! ### methods of a list that stands at a slot -/
def MtS (K : PySem.W.Frag) (r : V → List V → Hp → VK → Prop) (op : List D → List D → Option (D × List D)) : Prop := ∀ (Hf H : Hp) (l : Addr) (vs : List V) (ds : List D) (xs : List V) (args : List D) (d : D) (ds' : List D) (Q : VK), H l = some (.lst vs) → FzAll K Hf vs ds → FzAll K Hf xs args →
  op ds args = some (d, ds') → (∀ v vs', FzAll K Hf vs' ds' → Fz K Hf v d → Q v (upd H l (.lst vs'))) → r (.ref l) xs H Q
def fMt (i : Nat) (op : List D → List D → Option (D × List D)) (fs : Ev → Out (List D)) : Ev → Out D := fun Γ => match Γ[i]? with
  | some (some (.l .z, .list _)) => (fs Γ).bind fun args Γ1 => (match Γ1[i]? with
    | some (some (.l .z, .list ds)) => (match op ds args with | some (d, ds') => .ok d (Γ1.set i (some (.l .z, .list ds'))) | none => .st)
    | _ => .st)
  | _ => .st
/-- the owned list of frozen items at a slot -/
theorem StOk.getLz {g : Gh} {Hf H : Hp} {σ : St} {Γ : Ev} {fr : List (V × Va)} {i : Nat} {ds : List D} (h : StOk g Hf H σ Γ fr) (hi : Γ[i]? = some (some (.l .z, .list ds))) : ∃ a vs, σ[i]? = some (some (.ref a)) ∧ H a = some (.lst vs) ∧ FzAll g.K Hf vs ds := by
  obtain ⟨ω, h⟩ := h
  obtain ⟨v, e, A, o, _⟩ := h.slots i _ hi
  obtain ⟨a, vs, ds', B, e1, e2, e3, r, e4⟩ := o
  cases e2
  subst e1
  exact ⟨a, vs, e, e3, r.zs.2⟩
section
variable {X : Cx} {W : WX} {e : Expr} {es : List Expr} {x name : Str} {p apos cpos : Pos} {id : String} {r : V → List V → Hp → VK → Prop} {op : List D → List D → Option (D × List D)} {fs : Ev → Out (List D)}
theorem mt_core {g : GW} (hs : MtS g.h.K r op) {i : Nat} {σ : St} {H : Hp} {Q : VK} (h : tF g (fMt i op fs) σ H Q) : tVar i σ H fun x H1 => tyV g.h.K "list" x H1 ∧ tFs g fs σ H1 fun xs H2 => r x xs H2 Q := by
  obtain ⟨Hf, Γ, fr, st, p⟩ := h
  unfold fMt at p
  split at p
  · rename_i ds0 hΓ
    obtain ⟨a, vs, e1, e2, _⟩ := st.getLz hΓ
    refine ⟨.ref a, e1, .inl ⟨rfl, vs, SqL.of e2⟩, Hf, Γ, fr, st, Post.bind p fun args Γ1 _ xs H1 Hf1 s1 ⟨st1, l1⟩ q => ?_⟩
    split at q
    · rename_i ds hΓ1
      obtain ⟨a', vs1, e3, e4, f4⟩ := st1.getLz hΓ1
      rw [e1] at e3
      cases e3
      split at q
      · rename_i d ds' ho
        exact hs Hf1 H1 a vs1 ds xs args d ds' Q e4 f4 l1 ho fun v vs' z1 z2 => q v _ Hf1 (Same.refl _) ⟨st1.mut hΓ1 e1 z1, z2⟩
      · exact q.elim
    · exact q.elim
  · exact p.elim
theorem pf_mt (i : Nat) (pa : PlainAttrs "list") (slot : Slot "list" name id) (hty : typeOf (.builtin id) = pure (.type "method_descriptor")) (hm : MtR X id r) (hs : MtS X.K r op) (ha : PFs X W (e :: es) fs)
    (hN : X.N[i]? = some x := by rfl) (hv : Vis X.env.scope x := by first | exact Or.inl rfl | exact Or.inr (Or.inl rfl) | exact Or.inr (Or.inr rfl)) (hd : (x == ("__debug__" : Str)) = false := by decide)
    (hcd : (x == ("__classdict__" : Str)) = false := by decide) (hbase : attributeBase (.Name x p) name X.env (eval (.Name x p) X.env) = eval (.Name x p) X.env := by rfl)
    (hfew : ((backTo cpos (starEach (e :: es) X.env)).all (fun x => !x.1) && (backToKw cpos (keywordEach [] X.env)).all (fun x => x.1.isSome) && decide ((e :: es).length + ([] : List Keyword).length + (if ([] : List Keyword).isEmpty then 0 else 1) < 30)) = true := by rfl)
    (hline : (apos.endLine == cpos.line) = true := by rfl) (hst : starEach (e :: es) X.env = (false, eval e X.env) :: starEach es X.env := by rfl) (hplain : (backTo cpos (starEach es X.env)).any (·.1) = false := by rfl) :
    PF X W (.Call (.Attribute (.Name x p) name apos) (e :: es) [] cpos) (fMt i op fs) :=
  ⟨fun f0 h0 => (pe_bm pa slot hty hm (pe_var hN hv hd hcd) (ha.run f0 h0) hbase hfew hline hst hplain).imp fun σ H Q h => mt_core (g := gh X W f0 h0) hs h⟩
theorem pf_mt0 (i : Nat) (pa : PlainAttrs "list") (slot : Slot "list" name id) (hty : typeOf (.builtin id) = pure (.type "method_descriptor")) (hm : MtR X id r) (hs : MtS X.K r op)
    (hN : X.N[i]? = some x := by rfl) (hv : Vis X.env.scope x := by first | exact Or.inl rfl | exact Or.inr (Or.inl rfl) | exact Or.inr (Or.inr rfl)) (hd : (x == ("__debug__" : Str)) = false := by decide)
    (hcd : (x == ("__classdict__" : Str)) = false := by decide) (hbase : attributeBase (.Name x p) name X.env (eval (.Name x p) X.env) = eval (.Name x p) X.env := by rfl) (hline : (apos.endLine == cpos.line) = true := by rfl) :
    PF X W (.Call (.Attribute (.Name x p) name apos) [] [] cpos) (fMt i op fsN) :=
  ⟨fun f0 h0 => (pe_bm0 pa slot hty hm (pe_var hN hv hd hcd) hbase hline).imp fun σ H Q h => by
    obtain ⟨v, e, ty, Hf, Γ, fr, st, p⟩ := mt_core (g := gh X W f0 h0) hs h
    exact ⟨v, e, ty, p [] H Hf (Same.refl _) ⟨st, .nil⟩⟩⟩
end
/-! the list's own methods -/
def mAppend : List D → List D → Option (D × List D)
  | ds, [d] => if ds.length < 16777216 then some (.none, ds ++ [d]) else none
  | _, _ => none
def mPop0 : List D → List D → Option (D × List D)
  | ds, [] => (ds[ds.length - 1]?).map fun d => (d, ds.dropLast)
  | _, _ => none
def mPop : List D → List D → Option (D × List D)
  | ds, [.int i] => if -(2 ^ 63) ≤ i ∧ i < 2 ^ 63 then ((seqIndex? i ds.length).bind fun k => (ds[k]?).map fun d => (d, ds.eraseIdx k)) else none
  | _, _ => none
def mReverse : List D → List D → Option (D × List D)
  | ds, [] => some (.none, ds.reverse)
  | _, _ => none
def mClear : List D → List D → Option (D × List D)
  | ds, [] => some (.none, [])
  | _, _ => none
def mInsert : List D → List D → Option (D × List D)
  | ds, [.int i, d] => if ds.length < 16777216 ∧ 0 ≤ i ∧ i < 2 ^ 63 then some (.none, ds.take i.toNat ++ [d] ++ ds.drop i.toNat) else none
  | _, _ => none
def mExtend : List D → List D → Option (D × List D)
  | ds, [.list es] => if ds.length + es.length ≤ 16777216 then some (.none, ds ++ es) else none
  | _, _ => none
section
variable {K : PySem.W.Frag}
theorem FzAll.one {H : Hp} {xs : List V} {d : D} (h : FzAll K H xs [d]) : ∃ v, xs = [v] ∧ Fz K H v d := by
  cases h with
  | cons h r => cases r; exact ⟨_, rfl, h⟩
theorem FzAll.two {H : Hp} {xs : List V} {d e : D} (h : FzAll K H xs [d, e]) : ∃ v w, xs = [v, w] ∧ Fz K H v d ∧ Fz K H w e := by
  cases h with
  | cons h r =>
    cases r with
    | cons h2 r2 => cases r2; exact ⟨_, _, rfl, h, h2⟩
theorem FzAll.zero {H : Hp} {xs : List V} (h : FzAll K H xs []) : xs = [] := by cases h; rfl
theorem FzAll.dropLast {H : Hp} {vs : List V} {ds : List D} (h : FzAll K H vs ds) : FzAll K H vs.dropLast ds.dropLast := by
  rw [List.dropLast_eq_take, List.dropLast_eq_take, h.length]
  exact h.take _
theorem ms_append : MtS K rAppend mAppend := fun Hf H l vs ds xs args d ds' Q h f fa e q => by
  unfold mAppend at e
  split at e
  · split at e <;> cases e
    obtain ⟨v, rfl, z⟩ := fa.one
    exact ⟨l, vs, v, rfl, rfl, h, by rw [f.length, sizeLine_eq]; assumption, q _ _ (f.append (.cons z .nil)) .non⟩
  · cases e
theorem ms_pop0 : MtS K rPop mPop0 := fun Hf H l vs ds xs args d ds' Q h f fa e q => by
  unfold mPop0 at e
  split at e
  · cases h2 : ds[ds.length - 1]? with
    | none => rw [h2] at e; cases e
    | some d0 =>
      rw [h2] at e
      cases e
      obtain ⟨v, e1, z⟩ := f.get h2
      exact ⟨l, vs, v, rfl, fa.zero, h, by rw [f.length]; exact e1, q _ _ f.dropLast z⟩
  · cases e
theorem ms_pop : MtS K rPopAt mPop := fun Hf H l vs ds xs args d ds' Q h f fa e q => by
  unfold mPop at e
  split at e
  · rename_i i
    split at e
    · rename_i c
      cases h1 : seqIndex? i ds.length with
      | none => rw [h1] at e; cases e
      | some k =>
        rw [h1] at e
        cases h2 : ds[k]? with
        | none =>
          have e' : (ds[k]?).map (fun d => (d, ds.eraseIdx k)) = some (d, ds') := e
          rw [h2] at e'; cases e'
        | some d0 =>
          have e' : (ds[k]?).map (fun d => (d, ds.eraseIdx k)) = some (d, ds') := e
          rw [h2] at e'
          cases e'
          obtain ⟨w, rfl, zi⟩ := fa.one
          cases zi
          obtain ⟨v, e1, z⟩ := f.get h2
          exact ⟨l, vs, i, k, v, rfl, rfl, h, c.1, c.2, by rw [f.length]; exact h1, e1, q _ _ (f.eraseIdx k) z⟩
    · cases e
  · cases e
theorem ms_reverse : MtS K rReverse mReverse := fun Hf H l vs ds xs args d ds' Q h f fa e q => by
  unfold mReverse at e
  split at e
  · cases e
    exact ⟨l, vs, rfl, fa.zero, h, q _ _ f.reverse .non⟩
  · cases e
theorem ms_clear : MtS K rClear mClear := fun Hf H l vs ds xs args d ds' Q h f fa e q => by
  unfold mClear at e
  split at e
  · cases e
    exact ⟨l, vs, rfl, fa.zero, h, q _ _ .nil .non⟩
  · cases e
def rInsert : V → List V → Hp → VK → Prop := fun x vs H Q => ∃ (l : Addr) (xs : List V) (i : Int) (y : V), x = .ref l ∧ vs = [.int i, y] ∧ H l = some (.lst xs) ∧ xs.length < sizeLine ∧ 0 ≤ i ∧ i < 2 ^ 63 ∧ Q .non (upd H l (.lst (xs.take i.toNat ++ [y] ++ xs.drop i.toNat)))
theorem mt_insertV {X : Cx} : MtR X "list.insert" rInsert := mt_insert
theorem ms_insert : MtS K rInsert mInsert := fun Hf H l vs ds xs args d ds' Q h f fa e q => by
  unfold mInsert at e
  split at e
  · split at e <;> cases e
    rename_i c
    obtain ⟨v, w, rfl, z1, z2⟩ := fa.two
    cases z1
    exact ⟨l, vs, _, w, rfl, rfl, h, by rw [f.length, sizeLine_eq]; exact c.1, c.2.1, c.2.2, q _ _ (((f.take _).append (.cons z2 .nil)).append (f.drop _)) .non⟩
  · cases e
end
end PV
namespace PV
open PySem PySem.Spec PyProof.Rows L2

/-! ### what is walked -/
/-- the walk J gives the data ds, item by item -/
def ItOk (K : PySem.W.Frag) (Hf : Hp) (J : It) (ds : List D) : Prop := ∀ i Hf1 H, Same Hf Hf1 → Same Hf1 H →
  (∀ d, ds[i]? = some d → J.go i H ∧ ∀ x H', J.yld i H x H' → ∃ Hf', Same H H' ∧ Same Hf1 Hf' ∧ Same Hf' H' ∧ (∀ a, Hf' a ≠ none → Hf1 a ≠ none ∨ H a = none) ∧ Fz K Hf' x d) ∧ (ds[i]? = none → J.stop i H)
def RI (g : GW) (σ : St) (fr : List (V × Va)) : Hp → Hp → List D → Ev → It → Prop := fun Hf H ds Γ J => StOk g.h Hf H σ Γ fr ∧ ItOk g.h.K Hf J ds
def tI (g : GW) (f : Ev → Out (List D)) : TI := fun σ H R => ∃ Hf Γ fr, StOk g.h Hf H σ Γ fr ∧ Post g σ fr (RI g σ fr) Hf R (f Γ)
structure PIt (X : Cx) (W : WX) (tg e : Expr) (f : Ev → Out (List D)) : Prop where
  run : ∀ f0 h0, PI X tg e (tI (gh X W f0 h0) f)
theorem _root_.L2.PI.imp {X : Cx} {tg e : Expr} {t t' : TI} (h : PI X tg e t) (k : ∀ σ H R, t' σ H R → t σ H R) : PI X tg e t' := ⟨fun pins s σ H R I q => h.run pins s σ H R I (k σ H R q)⟩
def iL (f : Ev → Out D) : Ev → Out (List D) := fun Γ => (f Γ).bind fun d Γ1 => match d with | .list ds => .ok ds Γ1 | _ => .st
def iT (f : Ev → Out D) : Ev → Out (List D) := fun Γ => (f Γ).bind fun d Γ1 => match d with | .tuple ds => .ok ds Γ1 | .dict [(.none, .tuple ds)] => .ok ds Γ1 | _ => .st
def rangeL (lo : Int) (n : Nat) : List D := (List.range n).map fun (k : Nat) => .int (lo + (k : Int))
def iR1 (fs : Ev → Out (List D)) : Ev → Out (List D) := fun Γ => (fs Γ).bind fun ds Γ1 => match ds with | [.int j] => if j < 2 ^ 62 ∧ -(2 ^ 62) ≤ j then .ok (rangeL 0 j.toNat) Γ1 else .st | _ => .st
def iR2 (fs : Ev → Out (List D)) : Ev → Out (List D) := fun Γ => (fs Γ).bind fun ds Γ1 => match ds with | [.int i, .int j] => if (j < 2 ^ 62 ∧ -(2 ^ 62) ≤ j) ∧ i < 2 ^ 62 ∧ -(2 ^ 62) ≤ i then .ok (rangeL i (j - i).toNat) Γ1 else .st | _ => .st
def enumL (ds : List D) : List D := ds.zipIdx.map fun p => .tuple [.int (p.2 : Nat), p.1]
def iEn (fs : Ev → Out (List D)) : Ev → Out (List D) := fun Γ => (fs Γ).bind fun ds Γ1 => match ds with | [.list es] => .ok (enumL es) Γ1 | _ => .st
def zipL (xs ys : List D) : List D := (xs.zip ys).map fun p => .tuple [p.1, p.2]
def iZp (fs : Ev → Out (List D)) : Ev → Out (List D) := fun Γ => (fs Γ).bind fun ds Γ1 => match ds with | [.list xs, .list ys] => .ok (zipL xs ys) Γ1 | _ => .st
section
variable {X : Cx} {W : WX} {tg e : Expr} {p pos : Pos}
theorem itok_list {K : PySem.W.Frag} {Hf : Hp} {a : Addr} {vs : List V} {ds : List D} (h : Hf a = some (.lst vs)) (f : FzAll K Hf vs ds) : ItOk K Hf (Itl K a) ds := fun i Hf1 H s1 s2 => by
  have hH := s2 _ _ (s1 _ _ h)
  refine ⟨fun d e => ?_, fun e => ⟨vs, SqL.of hH, ?_⟩⟩
  · obtain ⟨v, e1, z⟩ := f.get e
    refine ⟨⟨vs, v, SqL.of hH, e1⟩, fun x H' y => ?_⟩
    obtain ⟨rfl, y⟩ := y
    have e2 := y vs (SqL.of hH)
    rw [e1] at e2
    cases e2
    exact ⟨Hf1, Same.refl _, Same.refl _, s2, fun _ n => .inl n, z.mono s1⟩
  · rw [f.length]
    exact List.getElem?_eq_none_iff.mp e
theorem itok_tup {K : PySem.W.Frag} {Hf : Hp} {a : Addr} {vs : List V} {ds : List D} (h : SqT K Hf a vs) (f : FzAll K Hf vs ds) : ItOk K Hf (Itt K a) ds := fun i Hf1 H s1 s2 => by
  have hH := Same.seqT s2 (Same.seqT s1 h)
  refine ⟨fun d e => ?_, fun e => ⟨vs, hH, ?_⟩⟩
  · obtain ⟨v, e1, z⟩ := f.get e
    refine ⟨⟨vs, v, hH, e1⟩, fun x H' y => ?_⟩
    obtain ⟨rfl, y⟩ := y
    have e2 := y vs hH
    rw [e1] at e2
    cases e2
    exact ⟨Hf1, Same.refl _, Same.refl _, s2, fun _ n => .inl n, z.mono s1⟩
  · rw [f.length]
    exact List.getElem?_eq_none_iff.mp e
theorem itok_range {K : PySem.W.Frag} {Hf : Hp} (lo : Int) (n : Nat) : ItOk K Hf (Itr lo n) (rangeL lo n) := fun i Hf1 H s1 s2 => by
  refine ⟨fun d e => ?_, fun e => ?_⟩
  · unfold rangeL at e
    rw [List.getElem?_map] at e
    by_cases c : i < n
    · rw [List.getElem?_range c] at e
      cases e
      refine ⟨c, fun x H' y => ?_⟩
      obtain ⟨rfl, rfl⟩ := y
      exact ⟨Hf1, Same.refl _, Same.refl _, s2, fun _ n => .inl n, .int _⟩
    · rw [List.getElem?_eq_none (by simpa using c)] at e
      cases e
  · have := List.getElem?_eq_none_iff.mp e
    rw [show (rangeL lo n).length = n by simp [rangeL]] at this
    exact this
theorem itok_enum {K : PySem.W.Frag} {Hf : Hp} {a : Addr} {vs : List V} {ds : List D} (h : Hf a = some (.lst vs)) (f : FzAll K Hf vs ds) : ItOk K Hf (Ite K a) (enumL ds) := fun i Hf1 H s1 s2 => by
  have hH := s2 _ _ (s1 _ _ h)
  refine ⟨fun d e => ?_, fun e => ⟨vs, SqL.of hH, ?_⟩⟩
  · unfold enumL at e
    rw [List.getElem?_map, List.getElem?_zipIdx] at e
    cases e0 : ds[i]? with
    | none => rw [e0] at e; cases e
    | some d0 =>
      rw [e0] at e
      obtain ⟨v, e1, z⟩ := f.get e0
      refine ⟨⟨vs, v, SqL.of hH, e1⟩, fun x H' y => ?_⟩
      obtain ⟨T, x', rfl, nT, rfl, y⟩ := y
      have e2 := y vs (SqL.of hH)
      rw [e1] at e2
      cases e2
      have nv := NewV.tup (K := K) (vs := [.int (i : Nat), v]) (ds := [.int (i : Nat), d0]) s2 nT (.cons (.int _) (.cons (z.mono s1) .nil))
      have e3 : PyData.tuple [.int (i : Nat), d0] = d := by
        have e' : some (PyData.tuple [.int ((0 + i : Nat) : Int), d0]) = some d := e
        rw [Nat.zero_add] at e'
        exact Option.some.inj e'
      subst e3
      obtain ⟨A, o, _⟩ := nv.o
      exact ⟨_, nv.s, nv.f1, nv.f2, nv.f3, o.2⟩
  · rw [f.length]
    have := List.getElem?_eq_none_iff.mp e
    simpa [enumL] using this
theorem itok_zip {K : PySem.W.Frag} {Hf : Hp} {a b : Addr} {vs ws : List V} {ds es : List D} (h : Hf a = some (.lst vs)) (f : FzAll K Hf vs ds) (h' : Hf b = some (.lst ws)) (f' : FzAll K Hf ws es) : ItOk K Hf (Itz K a b) (zipL ds es) := fun i Hf1 H s1 s2 => by
  have hH := s2 _ _ (s1 _ _ h)
  have hH' := s2 _ _ (s1 _ _ h')
  refine ⟨fun d e => ?_, fun e => ⟨vs, ws, SqL.of hH, SqL.of hH', ?_⟩⟩
  · unfold zipL at e
    rw [List.getElem?_map] at e
    cases e0 : (ds.zip es)[i]? with
    | none => rw [e0] at e; cases e
    | some p =>
      rw [e0] at e
      obtain ⟨ea, eb⟩ := List.getElem?_zip_eq_some.mp e0
      obtain ⟨v, e1, z⟩ := f.get ea
      obtain ⟨w, e1', z'⟩ := f'.get eb
      refine ⟨⟨vs, ws, v, w, SqL.of hH, SqL.of hH', e1, e1'⟩, fun x H' y => ?_⟩
      obtain ⟨T, x', y', rfl, nT, rfl, y, yy⟩ := y
      have e2 := y vs (SqL.of hH)
      rw [e1] at e2
      cases e2
      have e2' := yy ws (SqL.of hH')
      rw [e1'] at e2'
      cases e2'
      have nv := NewV.tup (K := K) (vs := [v, w]) (ds := [p.1, p.2]) s2 nT (.cons (z.mono s1) (.cons (z'.mono s1) .nil))
      cases e
      obtain ⟨A, o, _⟩ := nv.o
      exact ⟨_, nv.s, nv.f1, nv.f2, nv.f3, o.2⟩
  · rw [f.length, f'.length]
    have := List.getElem?_eq_none_iff.mp e
    unfold zipL at this
    rw [List.length_map, List.length_zip] at this
    omega
theorem pi_l {f : Ev → Out D} (h : PF X W e f) : PIt X W tg e (iL f) := ⟨fun f0 h0 => (pi_list (h.run f0 h0)).imp fun σ H R ⟨Hf, Γ, fr, st, p⟩ => ⟨Hf, Γ, fr, st, Post.bind p fun d Γ1 _ v H1 Hf1 s1 ⟨st1, z⟩ q => by
  cases d with
  | list ds =>
    cases z with
    | lst h f => exact ⟨_, rfl, ⟨_, SqL.of (st1.sub _ _ h)⟩, q _ H1 Hf1 (Same.refl _) ⟨st1, itok_list h f⟩⟩
  | _ => exact q.elim⟩⟩
theorem pi_t {f : Ev → Out D} (h : PF X W e f) : PIt X W tg e (iT f) := ⟨fun f0 h0 => (pi_tup (h.run f0 h0)).imp fun σ H R ⟨Hf, Γ, fr, st, p⟩ => ⟨Hf, Γ, fr, st, Post.bind p fun d Γ1 _ v H1 Hf1 s1 ⟨st1, z⟩ q => by
  split at q
  · cases z with
    | tup h f => exact ⟨_, rfl, ⟨_, Same.seqT st1.sub (SqT.of h)⟩, q _ H1 Hf1 (Same.refl _) ⟨st1, itok_tup (SqT.of h) f⟩⟩
  · obtain ⟨a, vs, rfl, h, f⟩ := fz_kt z
    exact ⟨_, rfl, ⟨_, Same.seqT st1.sub h⟩, q _ H1 Hf1 (Same.refl _) ⟨st1, itok_tup h f⟩⟩
  · exact q.elim⟩⟩
theorem pi_r1 {a : Expr} {fs : Ev → Out (List D)} (hg : Gl X "range") (hm : X.mg "range" = none) (h : PFs X W [a] fs) (hs : starEach [a] X.env = [(false, eval a X.env)] := by rfl) : PIt X W tg (.Call (.Name "range" p) [a] [] pos) (iR1 fs) :=
  ⟨fun f0 h0 => (pi_range1 hg hm (h.run f0 h0) hs).imp fun σ H R ⟨Hf, Γ, fr, st, p⟩ => ⟨Hf, Γ, fr, st, Post.bind p fun ds Γ1 _ vs H1 Hf1 s1 ⟨st1, z⟩ q => by
    split at q
    · split at q
      · rename_i c
        obtain ⟨v, rfl, zz⟩ := z.one
        cases zz
        exact ⟨_, rfl, c.2, c.1, q _ H1 Hf1 (Same.refl _) ⟨st1, itok_range 0 _⟩⟩
      · exact q.elim
    · exact q.elim⟩⟩
theorem pi_r2 {a b : Expr} {fs : Ev → Out (List D)} (hg : Gl X "range") (hm : X.mg "range" = none) (h : PFs X W [a, b] fs) (hs : starEach [a, b] X.env = [(false, eval a X.env), (false, eval b X.env)] := by rfl) (hs2 : starEach [b] X.env = [(false, eval b X.env)] := by rfl) :
    PIt X W tg (.Call (.Name "range" p) [a, b] [] pos) (iR2 fs) :=
  ⟨fun f0 h0 => (pi_range2 hg hm (h.run f0 h0) hs hs2).imp fun σ H R ⟨Hf, Γ, fr, st, p⟩ => ⟨Hf, Γ, fr, st, Post.bind p fun ds Γ1 _ vs H1 Hf1 s1 ⟨st1, z⟩ q => by
    split at q
    · split at q
      · rename_i c
        obtain ⟨v, w, rfl, z1, z2⟩ := z.two
        cases z1
        cases z2
        exact ⟨_, _, rfl, ⟨c.2.2, c.2.1, c.1.2, c.1.1⟩, q _ H1 Hf1 (Same.refl _) ⟨st1, itok_range _ _⟩⟩
      · exact q.elim
    · exact q.elim⟩⟩
theorem pi_en {a : Expr} {elts : List Expr} {kk : Nat} {tpos : Pos} {fs : Ev → Out (List D)} (hg : Gl X "enumerate") (hm : X.mg "enumerate" = none) (h : PFs X W [a] fs) (hs : starEach [a] X.env = [(false, eval a X.env)] := by rfl) :
    PIt X W (.Tuple elts kk tpos) (.Call (.Name "enumerate" p) [a] [] pos) (iEn fs) :=
  ⟨fun f0 h0 => (pi_enum hg hm (h.run f0 h0) hs).imp fun σ H R ⟨Hf, Γ, fr, st, p⟩ => ⟨Hf, Γ, fr, st, Post.bind p fun ds Γ1 _ vs H1 Hf1 s1 ⟨st1, z⟩ q => by
    split at q
    · obtain ⟨v, rfl, zz⟩ := z.one
      cases zz with
      | lst h f => exact ⟨_, _, rfl, SqL.of (st1.sub _ _ h), q _ H1 Hf1 (Same.refl _) ⟨st1, itok_enum h f⟩⟩
    · exact q.elim⟩⟩
theorem pi_zp {a b : Expr} {elts : List Expr} {kk : Nat} {tpos : Pos} {fs : Ev → Out (List D)} (hg : Gl X "zip") (hm : X.mg "zip" = none) (h : PFs X W [a, b] fs) (hs : starEach [a, b] X.env = (false, eval a X.env) :: starEach [b] X.env := by rfl) (hpl : (backTo pos (starEach [b] X.env)).any (·.1) = false := by rfl) :
    PIt X W (.Tuple elts kk tpos) (.Call (.Name "zip" p) [a, b] [] pos) (iZp fs) :=
  ⟨fun f0 h0 => (pi_zip hg hm (h.run f0 h0) hs hpl).imp fun σ H R ⟨Hf, Γ, fr, st, p⟩ => ⟨Hf, Γ, fr, st, Post.bind p fun ds Γ1 _ vs H1 Hf1 s1 ⟨st1, z⟩ q => by
    split at q
    · obtain ⟨v, w, rfl, z1, z2⟩ := z.two
      cases z1 with
      | lst h f =>
        cases z2 with
        | lst h' f' => exact ⟨_, _, _, _, rfl, SqL.of (st1.sub _ _ h), SqL.of (st1.sub _ _ h'), q _ H1 Hf1 (Same.refl _) ⟨st1, itok_zip h f h' f'⟩⟩
    · exact q.elim⟩⟩
end

/-! ### targets -/
def tG (g : GW) (is : List Nat) (t : D → Ev → Option Ev) : TG := fun v σ H Q => ∃ Hf Γ fr d, StOk g.h Hf H σ Γ fr ∧ Fz g.h.K Hf v d ∧ ∃ Γ', t d Γ = some Γ' ∧ ∀ σ' H' Hf', Same Hf Hf' → StOk g.h Hf' H' σ' Γ' fr → wipe σ' is = wipe σ is → Q σ' H'
def tGs (g : GW) (is : List Nat) (t : List D → Ev → Option Ev) : TGs := fun vs σ H Q => ∃ Hf Γ fr ds, StOk g.h Hf H σ Γ fr ∧ FzAll g.h.K Hf vs ds ∧ ∃ Γ', t ds Γ = some Γ' ∧ ∀ σ' H' Hf', Same Hf Hf' → StOk g.h Hf' H' σ' Γ' fr → wipe σ' is = wipe σ is → Q σ' H'
structure PGt (X : Cx) (tg : Expr) (is : List Nat) (t : D → Ev → Option Ev) : Prop where
  run : ∀ g : GW, g.h.K = X.K → PG X tg (tG g is t)
structure PGts (X : Cx) (tgs : List Expr) (is : List Nat) (t : List D → Ev → Option Ev) : Prop where
  len : ∀ ds Γ Γ', t ds Γ = some Γ' → ds.length = tgs.length
  run : ∀ g : GW, g.h.K = X.K → PGs X tgs (tGs g is t)
theorem _root_.L2.PG.imp {X : Cx} {tg : Expr} {t t' : TG} (h : PG X tg t) (k : ∀ v σ H Q, t' v σ H Q → t v σ H Q) : PG X tg t' := ⟨fun pins s σ H v u Q I r q => h.run pins s σ H v u Q I r (k v σ H Q q)⟩
theorem _root_.L2.PGs.imp {X : Cx} {tg : List Expr} {t t' : TGs} (h : PGs X tg t) (k : ∀ v σ H Q, t' v σ H Q → t v σ H Q) : PGs X tg t' := ⟨fun pins s σ H v u Q I r q => h.run pins s σ H v u Q I r (k v σ H Q q)⟩
def gN (i : Nat) : D → Ev → Option Ev := fun d Γ => some (Γ.set i (some (.z, d)))
def gsN : List D → Ev → Option Ev := fun ds Γ => match ds with | [] => some Γ | _ => none
def gsC (t : D → Ev → Option Ev) (u : List D → Ev → Option Ev) : List D → Ev → Option Ev := fun ds Γ => match ds with | d :: r => (t d Γ).bind (u r) | [] => none
def gT (u : List D → Ev → Option Ev) : D → Ev → Option Ev := fun d Γ => match d with | .tuple ds => u ds Γ | .dict [(.none, .tuple ds)] => u ds Γ | _ => none
section
variable {X : Cx} {pos : Pos}
theorem wipe_set {σ : St} {i : Nat} {v : Option V} : ∀ {is : List Nat}, i ∈ is → wipe (σ.set i v) is = wipe σ is
  | j :: js, h => by
    unfold wipe
    by_cases e : i = j
    · subst e
      by_cases hj : i ∈ js
      · rw [wipe_set hj]
      · have : ∀ {js : List Nat}, i ∉ js → (wipe (σ.set i v) js) = (wipe σ js).set i v := fun {js} hj => by
          induction js with
          | nil => rfl
          | cons k ks ih =>
            have h1 : i ≠ k := fun z => hj (by rw [z]; exact List.mem_cons_self)
            have h2 : i ∉ ks := fun z => hj (List.mem_cons_of_mem _ z)
            show (wipe (σ.set i v) ks).set k none = ((wipe σ ks).set k none).set i v
            rw [ih h2, List.set_comm _ _ h1]
        rw [this hj, List.set_set]
    · rw [wipe_set (is := js) ((List.mem_cons.mp h).resolve_left e)]
theorem pg_n (i : Nat) {is : List Nat} {x : Str} (hi' : i ∈ is) (hN : X.N.Nodup) (hi : X.N[i]? = some x) (hx : Loc X.env.scope x) (hf : X.fn x = true ∨ X.env.scope.names.lookup x = some .local) : PGt X (.Name x pos) is (gN i) :=
  ⟨fun g hK => (pg_name hN hi hx hf).imp fun v σ H Q ⟨Hf, Γ, fr, d, st, z, Γ', e, q⟩ => by
    cases e
    exact q _ H Hf (Same.refl _) ((st.push z).store i) (wipe_set hi')⟩
theorem pgs_n {is : List Nat} : PGts X [] is gsN := ⟨fun ds Γ Γ' e => (by
  cases ds with
  | nil => rfl
  | cons _ _ => cases e), fun g hK => pgs_nil.imp fun v σ H Q ⟨Hf, Γ, fr, d, st, z, Γ', e, q⟩ => by
  cases d with
  | nil =>
    cases z
    cases e
    exact ⟨rfl, q σ H Hf (Same.refl _) st rfl⟩
  | cons _ _ => cases e⟩
theorem pgs_c {is : List Nat} {e : Expr} {es : List Expr} {t : D → Ev → Option Ev} {u : List D → Ev → Option Ev} (h1 : PGt X e is t) (h2 : PGts X es is u) (hs : (assignEach (e :: es) X.env).map (·.2) = assign e X.env :: (assignEach es X.env).map (·.2) := by rfl) : PGts X (e :: es) is (gsC t u) :=
  ⟨fun ds Γ Γ' e => (by
    cases ds with
    | nil => cases e
    | cons d ds =>
      cases h : t d Γ with
      | none =>
        have e' : (t d Γ).bind (u ds) = some Γ' := e
        rw [h] at e'; cases e'
      | some Γ1 =>
        have e' : (t d Γ).bind (u ds) = some Γ' := e
        rw [h] at e'
        exact congrArg (· + 1) (h2.len ds Γ1 Γ' e')), fun g hK => (pgs_cons (h1.run g hK) (h2.run g hK) hs).imp fun v σ H Q ⟨Hf, Γ, fr, d, st, z, Γ', e, q⟩ => by
    cases d with
    | nil => cases e
    | cons d ds =>
      cases z with
      | cons z zs =>
        cases h : t d Γ with
        | none =>
          have e' : (t d Γ).bind (u ds) = some Γ' := e
          rw [h] at e'; cases e'
        | some Γ1 =>
          have e' : (t d Γ).bind (u ds) = some Γ' := e
          rw [h] at e'
          exact ⟨_, _, rfl, Hf, Γ, fr, d, st, z, Γ1, h, fun σ1 H1 Hf1 s1 st1 w1 => ⟨Hf1, Γ1, fr, ds, st1, zs.mono s1, Γ', e', fun σ2 H2 Hf2 s2 st2 w2 => q σ2 H2 Hf2 (s1.trans s2) st2 (w2.trans w1)⟩⟩⟩
theorem pg_t {is : List Nat} {es : List Expr} {k : Nat} {u : List D → Ev → Option Ev} (hc : X.calm = true) (h : PGts X es is u) (hn : (assignEach es X.env).length = es.length := by rfl) (hst : (assignEach es X.env).findIdx? (·.1) = none := by rfl) :
    PGt X (.Tuple es k pos) is (gT u) :=
  ⟨fun g hK => (pg_tup (n := es.length) hc (h.run g hK) hn hst).imp fun v σ H Q ⟨Hf, Γ, fr, d, st, z, Γ', e, q⟩ => by
    unfold gT at e
    split at e
    · cases z with
      | tup z zs => exact ⟨_, _, rfl, by rw [← hK]; exact Same.seqT st.sub (SqT.of z), zs.length.trans (h.len _ Γ Γ' e), Hf, Γ, fr, _, st, zs, Γ', e, q⟩
    · obtain ⟨a, vs, rfl, z, zs⟩ := fz_kt z
      exact ⟨_, _, rfl, by rw [← hK]; exact Same.seqT st.sub z, zs.length.trans (h.len _ Γ Γ' e), Hf, Γ, fr, _, st, zs, Γ', e, q⟩
    · cases e⟩
end
end PV
namespace PV
open PySem PySem.Spec PyProof.Rows L2

/-! ### statements -/
def PostS (g : GW) (D : Ends) (fr : List (V × Va)) (Hf : Hp) : SO → Prop
  | .nx Γ' => ∀ σ' H' Hf', Same Hf Hf' → StOk g.h Hf' H' σ' Γ' fr → D.nx σ' H'
  | .rt x Γ' => ∀ v σ' H' Hf', Same Hf Hf' → StOk g.h Hf' H' σ' Γ' ((v, x) :: fr) → D.rt v H'
  | .bk Γ' => ∀ σ' H' Hf', Same Hf Hf' → StOk g.h Hf' H' σ' Γ' fr → D.bk σ' H'
  | .ct Γ' => ∀ σ' H' Hf', Same Hf Hf' → StOk g.h Hf' H' σ' Γ' fr → D.ct σ' H'
  | .ex e Γ' => ∀ σ', PEx g Hf σ' fr e Γ'
  | .st => False
def tS (g : GW) (f : Ev → SO) : TS := fun D σ H => ∃ Hf Γ fr, StOk g.h Hf H σ Γ fr ∧ PostS g D fr Hf (f Γ)
structure PSt (X : Cx) (W : WX) (s : Stmt) (f : Ev → SO) : Prop where
  run : ∀ f0 h0, PS X s (tS (gh X W f0 h0) f)
structure PSts (X : Cx) (W : WX) (s : List Stmt) (f : Ev → SO) : Prop where
  run : ∀ f0 h0, PSs X s (tS (gh X W f0 h0) f)
def sB {α : Type} (o : Out α) (k : α → Ev → SO) : SO := match o with
  | .ok a Γ => k a Γ
  | .ex e Γ => .ex e Γ
  | .st => .st
section
variable {g : GW} {D : Ends} {fr : List (V × Va)} {Hf Hf' : Hp} {α β : Type}
theorem PostS.mono {r : SO} (h : PostS g D fr Hf r) (s : Same Hf Hf') : PostS g D fr Hf' r := by
  cases r with
  | nx Γ => exact fun σ' H' Hf1 s1 => h σ' H' Hf1 (s.trans s1)
  | rt x Γ => exact fun v σ' H' Hf1 s1 => h v σ' H' Hf1 (s.trans s1)
  | bk Γ => exact fun σ' H' Hf1 s1 => h σ' H' Hf1 (s.trans s1)
  | ct Γ => exact fun σ' H' Hf1 s1 => h σ' H' Hf1 (s.trans s1)
  | ex e Γ => exact fun σ' => PEx.mono (h σ') s
  | st => exact h
theorem PostS.bind {o : Out α} {k : α → Ev → SO} {σ : St} {R1 : Hp → Hp → α → Ev → β → Prop} {Q1 : β → Hp → Prop} (h : PostS g D fr Hf (sB o k))
    (h1 : ∀ a Γ1, o = .ok a Γ1 → ∀ b H1 Hf1, Same Hf Hf1 → R1 Hf1 H1 a Γ1 b → PostS g D fr Hf1 (k a Γ1) → Q1 b H1) : Post g σ fr R1 Hf Q1 o := by
  cases o with
  | ok a Γ1 => exact fun b H1 Hf1 s1 r => h1 a Γ1 rfl b H1 Hf1 s1 r (PostS.mono (show PostS g D fr Hf (k a Γ1) from h) s1)
  | ex e Γ1 => exact h σ
  | st => exact h
end
def sNx : Ev → SO := fun Γ => .nx Γ
def sSeq (a b : Ev → SO) : Ev → SO := fun Γ => match a Γ with
  | .nx Γ1 => b Γ1
  | r => r
def sAsg (i : Nat) (f : Ev → Out Va) : Ev → SO := fun Γ => sB (f Γ) fun x Γ1 => .nx (Γ1.set i (some x))
def sTgt (t : D → Ev → Option Ev) (f : Ev → Out D) : Ev → SO := fun Γ => sB (f Γ) fun d Γ1 => match t d Γ1 with | some Γ2 => .nx Γ2 | none => .st
def sRet (f : Ev → Out Va) : Ev → SO := fun Γ => sB (f Γ) fun x Γ1 => .rt x Γ1
def sRetN : Ev → SO := fun Γ => .rt (.z, .none) Γ
def sExp (f : Ev → Out D) : Ev → SO := fun Γ => sB (f Γ) fun _ Γ1 => .nx Γ1
def sIf (c : Ev → Out Bool) (a b : Ev → SO) : Ev → SO := fun Γ => sB (c Γ) fun k Γ1 => if k = true then a Γ1 else b Γ1
def sBk : Ev → SO := fun Γ => .bk Γ
def sCt : Ev → SO := fun Γ => .ct Γ
def sAug (i : Nat) (op : D → D → Option Va) (f : Ev → Out D) : Ev → SO := fun Γ => match Γ[i]? with
  | some (some (.z, x)) => sB (f Γ) fun y Γ1 => (match op x y with | some z => .nx (Γ1.set i (some z)) | none => .st)
  | _ => .st
def sForL (t : D → Ev → Option Ev) (body : Ev → SO) : List D → Ev → SO
  | [], Γ => .nx Γ
  | d :: ds, Γ => match t d Γ with
    | none => .st
    | some Γ1 => match body Γ1 with
      | .nx Γ2 => sForL t body ds Γ2
      | .ct Γ2 => sForL t body ds Γ2
      | .bk Γ2 => .nx Γ2
      | r => r
def sFor (f : Ev → Out (List D)) (t : D → Ev → Option Ev) (body : Ev → SO) : Ev → SO := fun Γ => sB (f Γ) fun ds Γ1 => sForL t body ds Γ1
def sWhile (c : Ev → Out Bool) (body : Ev → SO) : Nat → Ev → SO
  | 0, _ => .st
  | n + 1, Γ => sB (c Γ) fun k Γ1 => if k = true then (match body Γ1 with
      | .nx Γ2 => sWhile c body n Γ2
      | .ct Γ2 => sWhile c body n Γ2
      | .bk Γ2 => .nx Γ2
      | r => r) else .nx Γ1
section
variable {X : Cx} {W : WX} {st : Stmt} {rest : List Stmt} {e : Expr} {pos : Pos} {a b : Ev → SO}
theorem pss_n : PSts X W [] sNx := ⟨fun f0 h0 => pss_nil.imp fun D σ H ⟨Hf, Γ, fr, st, p⟩ => p σ H Hf (Same.refl _) st⟩
theorem pss_c (h1 : PSt X W st a) (h2 : PSts X W rest b) : PSts X W (st :: rest) (sSeq a b) := ⟨fun f0 h0 => (pss_cons (h1.run f0 h0) (h2.run f0 h0)).imp fun D σ H ⟨Hf, Γ, fr, st, p⟩ => by
  refine ⟨Hf, Γ, fr, st, ?_⟩
  unfold sSeq at p
  cases h : a Γ with
  | nx Γ1 =>
    rw [h] at p
    exact fun σ1 H1 Hf1 s1 st1 => ⟨Hf1, Γ1, fr, st1, PostS.mono p s1⟩
  | rt x Γ1 => rw [h] at p; exact p
  | bk Γ1 => rw [h] at p; exact p
  | ct Γ1 => rw [h] at p; exact p
  | ex e Γ1 => rw [h] at p; exact p
  | st => rw [h] at p; exact p⟩
theorem pss_1 (h1 : PSt X W st a) : PSts X W [st] a := ⟨fun f0 h0 => pss_one (h1.run f0 h0)⟩
theorem ps_pass' : PSt X W (.Pass pos) sNx := ⟨fun f0 h0 => ps_pass.imp fun D σ H ⟨Hf, Γ, fr, st, p⟩ => p σ H Hf (Same.refl _) st⟩
theorem ps_brk : PSt X W (.Break pos) sBk := ⟨fun f0 h0 => ps_break.imp fun D σ H ⟨Hf, Γ, fr, st, p⟩ => p σ H Hf (Same.refl _) st⟩
theorem ps_cnt : PSt X W (.Continue pos) sCt := ⟨fun f0 h0 => ps_continue.imp fun D σ H ⟨Hf, Γ, fr, st, p⟩ => p σ H Hf (Same.refl _) st⟩
theorem ps_r {f : Ev → Out Va} (h : PV X W e f) : PSt X W (.Return (some e) pos) (sRet f) := ⟨fun f0 h0 => (ps_ret (h.run f0 h0)).imp fun D σ H ⟨Hf, Γ, fr, st, p⟩ => ⟨Hf, Γ, fr, st, PostS.bind p fun x Γ1 _ v H1 Hf1 s1 st1 q => q v σ H1 Hf1 (Same.refl _) st1⟩⟩
theorem ps_rN : PSt X W (.Return none pos) sRetN := ⟨fun f0 h0 => ps_retN.imp fun D σ H ⟨Hf, Γ, fr, st, p⟩ => p .non σ H Hf (Same.refl _) (st.push .non)⟩
theorem ps_x {f : Ev → Out D} (h : PF X W e f) (hs : swapsWith e none pos.line X.env = pure false := by rfl) : PSt X W (.Expr e pos) (sExp f) := ⟨fun f0 h0 => (ps_expr (h.run f0 h0) hs).imp fun D σ H ⟨Hf, Γ, fr, st, p⟩ => ⟨Hf, Γ, fr, st, PostS.bind p fun x Γ1 _ v H1 Hf1 s1 ⟨st1, _⟩ q => q σ H1 Hf1 (Same.refl _) st1⟩⟩
theorem ps_i {c : Expr} {A B : List Stmt} {t : Ev → Out Bool} (hc : PB X W c t) (ha : PSts X W A a) (hb : PSts X W B b) : PSt X W (.If c A B pos) (sIf t a b) :=
  ⟨fun f0 h0 => (ps_if (hc.run f0 h0) (ha.run f0 h0) (hb.run f0 h0)).imp fun D σ H ⟨Hf, Γ, fr, st, p⟩ => ⟨Hf, Γ, fr, st, PostS.bind p fun k Γ1 _ v H1 Hf1 s1 ⟨st1, e⟩ q => by
    subst e
    cases v with
    | true => exact ⟨Hf1, Γ1, fr, st1, q⟩
    | false => exact ⟨Hf1, Γ1, fr, st1, q⟩⟩⟩
theorem ps_a (i : Nat) {x : Str} {pos' : Pos} {f : Ev → Out Va} (hN : X.N.Nodup) (hi : X.N[i]? = some x) (hx : Loc X.env.scope x) (h : PV X W e f) (hs : swapsWith e (some (.Name x pos')) pos.line X.env = pure false := by rfl) (hf : X.fn x = true ∨ X.env.scope.names.lookup x = some .local := by first | exact .inl rfl | exact .inr rfl | assumption) :
    PSt X W (.Assign [.Name x pos'] e pos) (sAsg i f) :=
  ⟨fun f0 h0 => (ps_set hN hi hx (h.run f0 h0) hs hf).imp fun D σ H ⟨Hf, Γ, fr, st, p⟩ => ⟨Hf, Γ, fr, st, PostS.bind p fun x Γ1 _ v H1 Hf1 s1 st1 q => q _ H1 Hf1 (Same.refl _) (st1.store i)⟩⟩
theorem ps_t {tg : Expr} {is : List Nat} {t : D → Ev → Option Ev} {f : Ev → Out D} (h : PF X W e f) (hg : PGt X tg is t) (hs : swapsWithSole [tg] e pos.line X.env = pure false := by rfl) (hw : swappedStores [tg] e X.env = pure none := by rfl)
    (h1 : (assignEach [tg] X.env).map (·.2) = [assign tg X.env] := by rfl) : PSt X W (.Assign [tg] e pos) (sTgt t f) :=
  ⟨fun f0 h0 => (ps_asg (h.run f0 h0) (hg.run (gh X W f0 h0) rfl) hs hw h1).imp fun D σ H ⟨Hf, Γ, fr, st, p⟩ => ⟨Hf, Γ, fr, st, PostS.bind p fun d Γ1 _ v H1 Hf1 s1 ⟨st1, z⟩ q => by
    cases h : t d Γ1 with
    | none => rw [h] at q; exact q.elim
    | some Γ2 =>
      rw [h] at q
      exact ⟨Hf1, Γ1, fr, d, st1, z, Γ2, h, fun σ' H' Hf' s' st' _ => q σ' H' Hf' s' st'⟩⟩⟩
theorem ps_g (i : Nat) {x : Str} {op : Operator} {r : R2} {f : Ev → Out D} {o : D → D → Option Va} {pos' : Pos} (hN : X.N.Nodup) (hi : X.N[i]? = some x) (hx : Loc X.env.scope x) (h : PF X W e f) (ho : OpR X (inplaceOp op) r) (hs : OpS X.K r o)
    (hf : X.fn x = true ∨ X.env.scope.names.lookup x = some .local := by first | exact .inl rfl | exact .inr rfl | assumption) : PSt X W (.AugAssign (.Name x pos') op e pos) (sAug i o f) :=
  ⟨fun f0 h0 => (ps_aug hN hi hx (h.run f0 h0) (fun pins s σ H x y v u Q I rx ry q => ho pins s σ H x y v u Q I rx ry q) hf).imp fun D σ H ⟨Hf, Γ, fr, st, p⟩ => by
    unfold sAug at p
    split at p
    · rename_i dx hΓ
      obtain ⟨v, e1, z⟩ := st.getZ hΓ
      refine ⟨v, e1, Hf, Γ, fr, st, PostS.bind p fun dy Γ1 _ w H1 Hf1 s1 ⟨st1, z1⟩ q => ?_⟩
      cases h : o dx dy with
      | none => rw [h] at q; exact q.elim
      | some dz =>
        rw [h] at q
        exact hs Hf1 H1 v w dx dy dz _ st1.sub (.inl (z.mono s1)) (.inl z1) h fun v' H' Hf' n => q _ H' Hf' n.f1 ((st1.pushN n).store i)
    · exact p.elim⟩
theorem ps_f {tg iter : Expr} {body : List Stmt} {is : List Nat} {t : D → Ev → Option Ev} {f : Ev → Out (List D)} {fb : Ev → SO} (hp : PassesOwn (model X.prog X.w) X.A X.env X.xe) (hc : X.calm = true) (hi : PIt X W tg iter f) (hg : PGt X tg is t) (hb : PSts X W body fb)
    (hs : ∀ x, foldedSetIterable iter X.env x = pure x := by intro _; rfl) : PSt X W (.For tg iter body [] pos) (sFor f t fb) :=
  ⟨fun f0 h0 => (ps_for hp hc (hi.run f0 h0) (hg.run (gh X W f0 h0) rfl) (hb.run f0 h0) hs).imp fun D σ H ⟨Hf, Γ, fr, st, p⟩ => by
    refine ⟨Hf, Γ, fr, st, PostS.bind p fun ds Γ1 _ J H1 Hf1 s1 ⟨st1, it⟩ q => ?_⟩
    refine ⟨fun i m σ H => m = ds.length - i ∧ i ≤ ds.length ∧ ∃ Hf2 Γ2, Same Hf1 Hf2 ∧ StOk (gh X W f0 h0).h Hf2 H σ Γ2 fr ∧ PostS (gh X W f0 h0) D fr Hf2 (sForL t fb (ds.drop i) Γ2), ⟨_, rfl, Nat.zero_le _, Hf1, Γ1, Same.refl _, st1, q⟩, ?_⟩
    rintro i m σ2 H2 ⟨rfl, hi, Hf2, Γ2, s2, st2, q2⟩
    obtain ⟨g1, g2⟩ := it i Hf2 H2 s2 st2.sub
    cases h : ds[i]? with
    | none =>
      refine .inl ⟨g2 h, ?_⟩
      rw [List.drop_eq_nil_of_le (List.getElem?_eq_none_iff.mp h)] at q2
      exact q2 σ2 H2 Hf2 (Same.refl _) st2
    | some d =>
      obtain ⟨go, yl⟩ := g1 d h
      have hlt := (List.getElem?_eq_some_iff.mp h).1
      have ed : ds.drop i = d :: ds.drop (i + 1) := by
        rw [List.drop_eq_getElem_cons hlt]
        rw [List.getElem?_eq_getElem hlt] at h
        rw [Option.some.inj h]
      rw [ed] at q2
      refine .inr ⟨go, fun σ' H' => (i + 1 ≤ ds.length ∧ ∃ Hf2 Γ2, Same Hf1 Hf2 ∧ StOk (gh X W f0 h0).h Hf2 H' σ' Γ2 fr ∧ PostS (gh X W f0 h0) D fr Hf2 (sForL t fb (ds.drop (i + 1)) Γ2)), fun σ' H' n => ⟨ds.length - (i + 1), by omega, rfl, n⟩, fun x H' y => ?_⟩
      obtain ⟨Hf3, a1, a2, a3, a4, z⟩ := yl x H' y
      have st3 := st2.freeze a1 a2 a3 a4
      unfold sForL at q2
      cases ht : t d Γ2 with
      | none => rw [ht] at q2; exact q2.elim
      | some Γ3 =>
        rw [ht] at q2
        dsimp only at q2
        refine ⟨Hf3, Γ2, fr, d, st3, z, Γ3, ht, fun σ4 H4 Hf4 s4 st4 _ => ⟨Hf4, Γ3, fr, st4, ?_⟩⟩
        have sA : Same Hf1 Hf4 := (s2.trans a2).trans s4
        have q3 := PostS.mono q2 (a2.trans s4)
        cases hb : fb Γ3 with
        | nx Γ4 =>
          rw [hb] at q3
          exact fun σ5 H5 Hf5 s5 st5 => ⟨hlt, Hf5, Γ4, sA.trans s5, st5, PostS.mono q3 s5⟩
        | ct Γ4 =>
          rw [hb] at q3
          exact fun σ5 H5 Hf5 s5 st5 => ⟨hlt, Hf5, Γ4, sA.trans s5, st5, PostS.mono q3 s5⟩
        | bk Γ4 => rw [hb] at q3; exact q3
        | rt x Γ4 => rw [hb] at q3; exact q3
        | ex e Γ4 => rw [hb] at q3; exact q3
        | st => rw [hb] at q3; exact q3.elim⟩
theorem ps_w {c : Expr} {body : List Stmt} {t : Ev → Out Bool} {fb : Ev → SO} (n : Nat) (hp : PassesOwn (model X.prog X.w) X.A X.env X.xe) (hc : PB X W c t) (hb : PSts X W body fb) : PSt X W (.While c body [] pos) (sWhile t fb n) :=
  ⟨fun f0 h0 => (ps_while hp (hc.run f0 h0) (hb.run f0 h0)).imp fun D σ H ⟨Hf, Γ, fr, st, p⟩ => by
    refine ⟨fun m σ H => ∃ Hf2 Γ2, Same Hf Hf2 ∧ StOk (gh X W f0 h0).h Hf2 H σ Γ2 fr ∧ PostS (gh X W f0 h0) D fr Hf2 (sWhile t fb m Γ2), ⟨n, Hf, Γ, Same.refl _, st, p⟩, ?_⟩
    rintro m σ2 H2 ⟨Hf2, Γ2, s2, st2, q2⟩
    cases m with
    | zero => exact q2.elim
    | succ m =>
      refine ⟨Hf2, Γ2, fr, st2, PostS.bind q2 fun k Γ3 _ v H3 Hf3 s3 ⟨st3, e⟩ q => ?_⟩
      subst e
      cases v with
      | false => exact q σ2 H3 Hf3 (Same.refl _) st3
      | true =>
        rw [if_pos rfl] at q ⊢
        refine ⟨fun σ' H' => ∃ Hf2 Γ2, Same Hf Hf2 ∧ StOk (gh X W f0 h0).h Hf2 H' σ' Γ2 fr ∧ PostS (gh X W f0 h0) D fr Hf2 (sWhile t fb m Γ2), fun σ' H' n => ⟨m, Nat.lt_succ_self _, n⟩, Hf3, Γ3, fr, st3, ?_⟩
        have sA : Same Hf Hf3 := s2.trans s3
        cases hb : fb Γ3 with
        | nx Γ4 =>
          rw [hb] at q
          exact fun σ5 H5 Hf5 s5 st5 => ⟨Hf5, Γ4, sA.trans s5, st5, PostS.mono q s5⟩
        | ct Γ4 =>
          rw [hb] at q
          exact fun σ5 H5 Hf5 s5 st5 => ⟨Hf5, Γ4, sA.trans s5, st5, PostS.mono q s5⟩
        | bk Γ4 => rw [hb] at q; exact q
        | rt x Γ4 => rw [hb] at q; exact q
        | ex e Γ4 => rw [hb] at q; exact q
        | st => rw [hb] at q; exact q.elim⟩
end

/-! ### a def -/
def st0 (n : Nat) (ds : List D) : Ev := ds.map (fun d => some (.z, d)) ++ List.replicate (n - ds.length) none
def runD (n k : Nat) (f : Ev → SO) : List D → Res := fun ds => if ds.length = k then (match f (st0 n ds) with
  | .nx _ => .ok (.z, .none)
  | .rt x _ => .ok x
  | .ex e _ => .ex e
  | _ => .st) else .st
end PV
namespace PV
open PySem PySem.Spec PyProof.Rows L2

/-! ### a def -/
theorem st0_get {n i : Nat} {ds : List D} {x : Va} (h : (st0 n ds)[i]? = some (some x)) : ∃ d, ds[i]? = some d ∧ x = (.z, d) := by
  unfold st0 at h
  by_cases c : i < ds.length
  · rw [List.getElem?_append_left (by simpa using c), List.getElem?_map] at h
    cases e : ds[i]? with
    | none => rw [e] at h; cases h
    | some d =>
      rw [e] at h
      exact ⟨d, rfl, (Option.some.inj (Option.some.inj h)).symm⟩
  · rw [List.getElem?_append_right (by simpa using Nat.le_of_not_lt c)] at h
    rw [List.getElem?_replicate] at h
    split at h <;> cases h
section
variable {P : Program} {w : World} {K : PySem.W.Frag} {mg : Str → Option Value} {base : Heap}
theorem st_start {N : List Str} {Hf H : Hp} {vs : List V} {ds : List D} (s : Same Hf H) (f : FzAll K Hf vs ds) : StOk ⟨K, Hf, H⟩ Hf H (L2.start N vs) (st0 N.length ds) [] := by
  refine ⟨fun _ => none, Same.refl _, s, Same.refl _, fun a n => .inl n, (fun a i e => nomatch e), ?_, fun i x e => ?_, trivial⟩
  · unfold st0 L2.start
    rw [List.length_append, List.length_append, List.length_map, List.length_map, List.length_replicate, List.length_replicate, f.length]
  · obtain ⟨d, e1, rfl⟩ := st0_get e
    obtain ⟨v, e2, z⟩ := f.get e1
    refine ⟨v, ?_, [], ⟨rfl, z⟩, List.nodup_nil, fun _ z => nomatch z⟩
    have c : i < vs.length := (List.getElem?_eq_some_iff.mp e2).1
    unfold L2.start
    rw [List.getElem?_append_left (by simpa using c), List.getElem?_map, e2]
    rfl
theorem fin_new {g : Gh} {Hf' H' : Hp} {σ : St} {Γ : Ev} {v : V} {x : Va} {fr : List (V × Va)} (st : StOk g Hf' H' σ Γ ((v, x) :: fr)) : NewV g.K g.f0 g.h0 H' Hf' v x := by
  obtain ⟨ω, st⟩ := st
  obtain ⟨A, o, nd, hA⟩ := st.fr.1
  exact ⟨st.base, st.old, st.sub, st.new, A, o, nd, fun a ha => ⟨(st.own a _ (hA a ha)).1, (st.own a _ (hA a ha)).2.1⟩⟩
abbrev cxX (P : Program) (w : World) (K : PySem.W.Frag) (mg : Str → Option Value) (base : Heap) (N : List Str) (qual : Str) (sc : Scope) (f : Addr) (cdv : Value) (A : Around) (outer : List Env) (s : Shared) (H : Hp) (E : XK) : Cx := cxOf (L2.CX P w) P w K mg base N qual sc f cdv A outer s H E
/-- THE RULE for a def: its body computes fb -/
theorem fn_ok {x qual : Str} {stm : Stmt} {f : Addr} {fd : FuncData} {N ps : List Str} {k : Nat} {fb : Ev → SO} (F : Fun K x qual stm f fd) (S : FnScope N ps (defScope stm))
    (hbody : ∀ (cdv : Value) (A : Around) (outer : List Env) (s : Shared) (H : Hp) (E : XK) (W : WX), Room k (cxX P w K mg base N qual (defScope stm) f cdv A outer s H E).A → Takes (cxX P w K mg base N qual (defScope stm) f cdv A outer s H E) W →
      PassesOwn (model P w) (cxX P w K mg base N qual (defScope stm) f cdv A outer s H E).A (cxX P w K mg base N qual (defScope stm) f cdv A outer s H E).env (cxX P w K mg base N qual (defScope stm) f cdv A outer s H E).xe →
      PSts (cxX P w K mg base N qual (defScope stm) f cdv A outer s H E) W (defBody stm) fb) : FnOk P w K mg base (L2.CX P w) (k + 1) f fd ps (spV K mg ps.length (runD N.length ps.length fb)) := by
  refine F.okX S (fun vs H Q E h => ?_) (fun cdv A outer s H vs Q E hr h => ?_)
  · obtain ⟨Hf, ds, e, _, f, _⟩ := h
    rw [f.length, e]
  · obtain ⟨Hf, ds, e, sH, fz, h⟩ := h
    refine ⟨_, (hbody cdv A outer s H E (fun cls d _ H' => E cls d H') hr (takes_of rfl rfl rfl rfl) (passes_of rfl)).run Hf H, ?_⟩
    refine ⟨Hf, st0 N.length ds, [], st_start sH fz, ?_⟩
    unfold runD at h
    rw [if_pos e] at h
    cases hb : fb (st0 N.length ds) with
    | nx Γ' =>
      rw [hb] at h
      exact fun σ' H' Hf' s' st' => h .non H' Hf' (fin_new (st'.push .non))
    | rt x Γ' =>
      rw [hb] at h
      exact fun v σ' H' Hf' s' st' => h v H' Hf' (fin_new st')
    | ex e Γ' =>
      rw [hb] at h
      intro σ' cls dx H' Hf' s' x st'
      obtain ⟨ω, st'⟩ := st'
      exact h cls dx H' Hf' st'.base st'.old st'.sub st'.new x
    | bk Γ' => rw [hb] at h; exact h.elim
    | ct Γ' => rw [hb] at h; exact h.elim
    | st => rw [hb] at h; exact h.elim
end

/-! ### comprehensions -/
abbrev W0 : WX := fun _ _ _ _ => False
structure PBs (X : Cx) (W : WX) (es : List Expr) (c : Ev → Out Bool) : Prop where
  run : ∀ f0 h0, PTs X es (tT (gh X W f0 h0) c)
def bYes : Ev → Out Bool := fun Γ => .ok true Γ
theorem _root_.L2.PTs.imp {X : Cx} {e : List Expr} {t t' : TT} (h : PTs X e t) (k : ∀ σ H Q, t' σ H Q → t σ H Q) : PTs X e t' := ⟨fun pins s σ H Q I q => h.run pins s σ H Q I (k σ H Q q)⟩
theorem pbs_n {X : Cx} {W : WX} : PBs X W [] bYes := ⟨fun f0 h0 => pts_nil.imp fun σ H Q ⟨Hf, Γ, fr, st, p⟩ => p true H Hf (Same.refl _) ⟨st, rfl⟩⟩
theorem pbs_1 {X : Cx} {W : WX} {e : Expr} {c : Ev → Out Bool} (h : PB X W e c) : PBs X W [e] c := ⟨fun f0 h0 => pts_one (h.run f0 h0)⟩
def wipeG (Γ : Ev) : List Nat → Ev
  | [] => Γ
  | i :: is => (wipeG Γ is).set i none
def restG (Γ1 : Ev) (Γ : Ev) : List Nat → Ev
  | [] => Γ
  | i :: is => match Γ1[i]? with
    | some (some (.z, d)) => (restG Γ1 Γ is).set i (some (.z, d))
    | _ => restG Γ1 Γ is
def compL (is : List Nat) (t : D → Ev → Option Ev) (c : Ev → Out Bool) (fe : Ev → Out D) : List D → Ev → Option (List D × Ev)
  | [], Γ => some ([], Γ)
  | d :: ds, Γ => match t d Γ with
    | none => none
    | some Γ1 => match c Γ1 with
      | .ok true Γ2 => (match fe Γ2 with
        | .ok e Γ3 => (compL is t c fe ds (wipeG Γ3 is)).map fun p => (e :: p.1, p.2)
        | _ => none)
      | .ok false Γ2 => compL is t c fe ds (wipeG Γ2 is)
      | _ => none
def vComp (is : List Nat) (f : Ev → Out (List D)) (t : D → Ev → Option Ev) (c : Ev → Out Bool) (fe : Ev → Out D) : Ev → Out Va := fun Γ => (f Γ).bind fun ds Γ1 => if ds.length ≤ 16777216 then
    (match compL is t c fe ds (wipeG Γ1 is) with | some (es, Γ2) => .ok (.l .z, .list es) (restG Γ1 Γ2 is) | none => .st) else .st
theorem wipeG_len {Γ : Ev} : ∀ {is : List Nat}, (wipeG Γ is).length = Γ.length
  | [] => rfl
  | i :: is => by unfold wipeG; rw [List.length_set, wipeG_len]
theorem wipeG_get {Γ : Ev} {i : Nat} {x : Va} : ∀ {is : List Nat}, (wipeG Γ is)[i]? = some (some x) → Γ[i]? = some (some x) ∧ i ∉ is
  | [], h => ⟨h, fun z => nomatch z⟩
  | j :: js, h => by
    unfold wipeG at h
    by_cases e : j = i
    · subst e
      rw [List.getElem?_set] at h
      simp at h
    · rw [List.getElem?_set_ne e] at h
      obtain ⟨h1, h2⟩ := wipeG_get h
      exact ⟨h1, fun z => (List.mem_cons.mp z).elim (fun q => e q.symm) h2⟩
section
variable {g : Gh} {Hf H : Hp} {σ : St} {Γ : Ev} {fr : List (V × Va)}
/-- the list on the top of the frame is rewritten with frozen items -/
theorem StOk.mutTop {ds ds' : List D} {a : Addr} {vs' : List V} (h : StOk g Hf H σ Γ ((.ref a, (.l .z, .list ds)) :: fr)) (hv : FzAll g.K Hf vs' ds') : StOk g Hf (upd H a (.lst vs')) σ Γ ((.ref a, (.l .z, .list ds')) :: fr) := by
  obtain ⟨ω, h⟩ := h
  obtain ⟨⟨A, o, nd, hA⟩, hr⟩ := h.fr
  obtain ⟨a', vs, ds0, B, e1, e2, e3, r, e4⟩ := o
  cases e1
  have wa : ω a = some (.inr fr.length) := hA a (by rw [e4]; exact List.mem_cons_self)
  have ow := h.own a _ wa
  have k : ∀ b j, j ≠ Sum.inr fr.length → ω b = some j → upd H a (.lst vs') b = H b := fun b j hj e => upd_ne (fun z => hj (by rw [z, wa] at e; exact (Option.some.inj e).symm))
  refine ⟨ω, fun b o e => ?_, fun b o e => ?_, h.old, h.new, fun b j e => ⟨(h.own b j e).1, (h.own b j e).2.1, ?_⟩, h.len, fun j y e' => ?_, ⟨⟨[a], ⟨a, vs', ds', [], rfl, rfl, upd_same, OwnL.of_zs hv, rfl⟩, by simp, fun b hb => by rw [List.mem_singleton.mp hb]; exact wa⟩, hr.mono (Same.refl _) fun b j hj e => ⟨k b (.inr j) (fun z => by cases z; exact absurd hj (Nat.lt_irrefl _)) e, e⟩⟩⟩
  · rw [upd_ne (ne_of_none e ow.1)]; exact h.base b o e
  · rw [upd_ne (ne_of_none e ow.2.1)]; exact h.sub b o e
  · by_cases z : b = a
    · subst z; rw [upd_same]; exact fun z => nomatch z
    · rw [upd_ne z]; exact (h.own b j e).2.2
  · obtain ⟨w, e2, q⟩ := h.slots j y e'
    exact ⟨w, e2, q.mono (Same.refl _) fun b e => ⟨k b (.inl j) (fun z => nomatch z) e, e⟩⟩
theorem StOk.topL {ds : List D} {a : Addr} (h : StOk g Hf H σ Γ ((.ref a, (.l .z, .list ds)) :: fr)) : ∃ vs, H a = some (.lst vs) ∧ FzAll g.K Hf vs ds := by
  obtain ⟨ω, h⟩ := h
  obtain ⟨A, o, nd, hA⟩ := h.fr.1
  obtain ⟨a', vs, ds0, B, e1, e2, e3, r, e4⟩ := o
  cases e1
  cases e2
  exact ⟨vs, e3, r.zs.2⟩
theorem StOk.addZ {i : Nat} {v : V} {d : D} (h : StOk g Hf H σ Γ fr) (hi : σ[i]? = some (some v)) (z : Fz g.K Hf v d) : StOk g Hf H σ (Γ.set i (some (.z, d))) fr := by
  have := (h.push z).store i
  have e : σ.set i (some v) = σ := by
    apply List.ext_getElem?
    intro j
    by_cases hj : i = j
    · subst hj
      rw [List.getElem?_set_self (List.getElem?_eq_some_iff.mp hi).1, hi]
    · rw [List.getElem?_set_ne hj]
  rw [e] at this
  exact this
theorem StOk.wipe (h : StOk g Hf H σ Γ fr) (is : List Nat) : StOk g Hf H (L2.wipe σ is) (wipeG Γ is) fr := by
  have hl : Γ.length = σ.length := by
    obtain ⟨ω, h⟩ := h
    exact h.len
  refine h.weak (by rw [wipeG_len, wipe_length, hl]) fun i x e => ?_
  obtain ⟨h1, h2⟩ := wipeG_get e
  exact ⟨h1, wipe_out h2⟩
theorem wipeG_none {Γ : Ev} {is : List Nat} : ∀ j ∈ is, ∀ x, (wipeG Γ is)[j]? ≠ some (some x) := fun j hj x e => (wipeG_get e).2 hj
/-- back from a block -/
theorem StOk.rest {Γ1 : Ev} {Hf1 H1 : Hp} {fr1 : List (V × Va)} (h1 : StOk g Hf1 H1 σ Γ1 fr1) (s : Same Hf1 Hf) {is : List Nat} (h : StOk g Hf H (L2.wipe σ is) Γ fr) (hn : ∀ j ∈ is, ∀ x, Γ[j]? ≠ some (some x)) : ∀ js : List Nat, StOk g Hf H σ (restG Γ1 Γ js) fr := by
  have hl : Γ.length = σ.length := by
    obtain ⟨ω, h⟩ := h
    rw [h.len, wipe_length]
  have h0 : StOk g Hf H σ Γ fr := h.weak hl fun i x e => ⟨e, (wipe_out fun hi => hn i hi x e).symm⟩
  intro js
  induction js with
  | nil => exact h0
  | cons j js ih =>
    unfold restG
    split
    · rename_i d e
      obtain ⟨v, e1, z⟩ := h1.getZ e
      exact ih.addZ e1 (z.mono s)
    · exact ih
theorem StOk.back {σ2 : St} (h : StOk g Hf H σ2 Γ fr) {is : List Nat} (e : L2.wipe σ2 is = L2.wipe σ is) : StOk g Hf H (L2.wipe σ is) (wipeG Γ is) fr := by
  rw [← e]
  exact h.wipe is
end
section
variable {X : Cx} {W : WX}
theorem comp_core {g : GW} {is : List Nat} {f : Ev → Out (List D)} {t : D → Ev → Option Ev} {c : Ev → Out Bool} {fe : Ev → Out D} {σ : St} {H : Hp} {Q : VK} (h : tV g (vComp is f t c fe) σ H Q) :
    tLc (tI g f) (tG g is t) (tT ⟨g.h, g.mg, W0⟩ c) (tF ⟨g.h, g.mg, W0⟩ fe) is σ H Q := by
  obtain ⟨Hf, Γ, fr, st, p⟩ := h
  refine ⟨Hf, Γ, fr, st, Post.bind p fun ds Γ1 _ J H1 Hf1 s1 ⟨st1, it⟩ q => ?_⟩
  split at q
  · rename_i lenOk
    cases hc : compL is t c fe ds (wipeG Γ1 is) with
    | none => rw [hc] at q; exact q.elim
    | some r =>
      obtain ⟨es, Γ2⟩ := r
      rw [hc] at q
      intro a na
      have stD : StOk g.h Hf1 (upd H1 a (.lst [])) (wipe σ is) (wipeG Γ1 is) ((.ref a, (.l .z, .list [])) :: fr) := ((st1.pushN (NewV.lst st1.sub na .nil)).wipe is)
      refine ⟨fun i m H => m = ds.length - i ∧ i ≤ ds.length ∧ ∃ Hf2 Γ3 acc es', Same Hf1 Hf2 ∧ acc.length ≤ i ∧ StOk g.h Hf2 H (wipe σ is) Γ3 ((.ref a, (.l .z, .list acc)) :: fr) ∧ (∀ j ∈ is, ∀ x, Γ3[j]? ≠ some (some x)) ∧
        compL is t c fe (ds.drop i) Γ3 = some (es', Γ2) ∧ acc ++ es' = es, ⟨_, rfl, Nat.zero_le _, Hf1, _, [], es, Same.refl _, Nat.le_refl _, stD, wipeG_none, hc, rfl⟩, ?_⟩
      rintro i m H2 ⟨rfl, hi, Hf2, Γ3, acc, es', s2, la, st2, hn, hcl, rfl⟩
      obtain ⟨g1, g2⟩ := it i Hf2 H2 s2 st2.sub
      cases h : ds[i]? with
      | none =>
        rw [List.drop_eq_nil_of_le (List.getElem?_eq_none_iff.mp h)] at hcl
        have hcl' : ([], Γ3) = (es', Γ2) := Option.some.inj hcl
        cases hcl'
        rw [List.append_nil] at q
        exact .inl ⟨g2 h, q _ H2 Hf2 s2 (StOk.rest st1 s2 st2 hn is)⟩
      | some d =>
        obtain ⟨go, yl⟩ := g1 d h
        have hlt := (List.getElem?_eq_some_iff.mp h).1
        have ed : ds.drop i = d :: ds.drop (i + 1) := by
          rw [List.drop_eq_getElem_cons hlt]
          rw [List.getElem?_eq_getElem hlt] at h
          rw [Option.some.inj h]
        rw [ed] at hcl
        refine .inr ⟨go, fun H' => (i + 1 ≤ ds.length ∧ ∃ Hf2 Γ3 acc' es'', Same Hf1 Hf2 ∧ acc'.length ≤ i + 1 ∧ StOk g.h Hf2 H' (wipe σ is) Γ3 ((.ref a, (.l .z, .list acc')) :: fr) ∧ (∀ j ∈ is, ∀ x, Γ3[j]? ≠ some (some x)) ∧
          compL is t c fe (ds.drop (i + 1)) Γ3 = some (es'', Γ2) ∧ acc' ++ es'' = acc ++ es'), fun H' n => ⟨ds.length - (i + 1), by omega, rfl, n⟩, fun x H' y => ?_⟩
        obtain ⟨Hf3, a1, a2, a3, a4, z⟩ := yl x H' y
        have st3 := st2.freeze a1 a2 a3 a4
        unfold compL at hcl
        cases ht : t d Γ3 with
        | none => rw [ht] at hcl; cases hcl
        | some Γ4 =>
          rw [ht] at hcl
          dsimp only at hcl
          refine ⟨Hf3, Γ3, _, d, st3, z, Γ4, ht, fun σ5 H5 Hf5 s5 st5 w5 => ?_⟩
          have w5' : wipe σ5 is = wipe σ is := by
            rw [w5]
            have : ∀ js : List Nat, (∀ j ∈ js, j ∈ is) → wipe (wipe σ is) js = wipe σ is := fun js => by
              induction js with
              | nil => intro _; rfl
              | cons j js ih =>
                intro hj
                show (wipe (wipe σ is) js).set j none = wipe σ is
                rw [ih fun k hk => hj k (List.mem_cons_of_mem _ hk)]
                have hj' := hj j List.mem_cons_self
                apply List.ext_getElem?
                intro k
                by_cases e : j = k
                · subst e
                  rw [List.getElem?_set]
                  have : ∀ {l : List Nat}, j ∈ l → ∀ {τ : St}, (wipe τ l)[j]? = if j < τ.length then some none else none := fun {l} hl {τ} => by
                    induction l with
                    | nil => cases hl
                    | cons b l ih2 =>
                      show ((wipe τ l).set b none)[j]? = _
                      by_cases e2 : b = j
                      · subst e2
                        rw [List.getElem?_set]
                        simp [wipe_length]
                      · rw [List.getElem?_set_ne e2]
                        exact ih2 ((List.mem_cons.mp hl).resolve_left (fun z => e2 z.symm))
                  rw [this hj' (τ := σ)]
                  simp [wipe_length]
                · rw [List.getElem?_set_ne e]
            exact this is fun j hj => hj
          refine ⟨w5', Hf5, Γ4, _, st5, ?_⟩
          have sA : Same Hf1 Hf5 := (s2.trans a2).trans s5
          cases hcc : c Γ4 with
          | ex e Γ5 => rw [hcc] at hcl; cases hcl
          | st => rw [hcc] at hcl; cases hcl
          | ok k Γ5 =>
            rw [hcc] at hcl
            intro k' H6 Hf6 s6 ⟨st6, ek⟩
            subst ek
            cases k' with
            | false =>
              dsimp only at hcl
              rw [if_neg Bool.false_ne_true]
              exact ⟨hlt, Hf6, _, acc, es', sA.trans s6, by omega, st6.back w5', wipeG_none, hcl, rfl⟩
            | true =>
              dsimp only at hcl
              rw [if_pos rfl]
              refine ⟨Hf6, Γ5, _, st6, ?_⟩
              cases he : fe Γ5 with
              | ex e Γ6 => rw [he] at hcl; cases hcl
              | st => rw [he] at hcl; cases hcl
              | ok e Γ6 =>
                rw [he] at hcl
                dsimp only at hcl
                intro v H7 Hf7 s7 ⟨st7, z7⟩
                obtain ⟨vs, e8, f8⟩ := st7.topL
                cases hr : compL is t c fe (ds.drop (i + 1)) (wipeG Γ6 is) with
                | none => rw [hr] at hcl; cases hcl
                | some r =>
                  obtain ⟨es2, Γ7⟩ := r
                  rw [hr] at hcl
                  cases hcl
                  refine ⟨vs, e8, ?_, hlt, Hf7, _, acc ++ [e], es2, (sA.trans s6).trans s7, ?_, (st7.mutTop (f8.append (.cons z7 .nil))).back w5', wipeG_none, hr, ?_⟩
                  · rw [f8.length, sizeLine_eq]; omega
                  · rw [List.length_append, List.length_singleton]; omega
                  · rw [List.append_assoc]; rfl
  · exact q.elim
end
end PV
namespace PV
open PySem PySem.Spec PyProof.Rows L2

/-! ### comprehensions, the rules -/
section
variable {X : Cx} {W : WX}
theorem pv_lc {elt tg iter : Expr} {ifs : List Expr} {scope : Scope} {own : List (Str × Nat)} {pos : Pos} {f : Ev → Out (List D)} {t : D → Ev → Option Ev} {c : Ev → Out Bool} {fe : Ev → Out D} (hc : X.calm = true) (hN : X.N.Nodup) (ok : BlkOk X.N X.env.scope scope own) (hi : PIt X W tg iter f)
    (hg : ∀ (s : Shared) (H : L2.Hp) (C : Addr) (cl : List (Str × Addr)) (fp : List Addr), PGt (X.blk s H scope (compEnvC scope cl C X.env) fp) tg (own.map (·.2)) t)
    (ht : ∀ (s : Shared) (H : L2.Hp) (C : Addr) (cl : List (Str × Addr)) (fp : List Addr), PBs (X.blk s H scope (compEnvC scope cl C X.env) fp) W0 ifs c)
    (he : ∀ (s : Shared) (H : L2.Hp) (C : Addr) (cl : List (Str × Addr)) (fp : List Addr), PF (X.blk s H scope (compEnvC scope cl C X.env) fp) W0 elt fe) (hs : ∀ x, foldedSetIterable iter X.env x = pure x := by intro _; rfl) :
    PV X W (.ListComp elt [⟨tg, iter, ifs, 0⟩] scope pos) (vComp (own.map (·.2)) f t c fe) :=
  ⟨fun f0 h0 => (pe_lc hc hN (hi.run f0 h0) ok (fun s H C cl fp => (hg s H C cl fp).run (gh X W f0 h0) rfl) (fun s H C cl fp => (ht s H C cl fp).run f0 h0) (fun s H C cl fp => (he s H C cl fp).run f0 h0) hs).imp fun σ H Q h => comp_core (g := gh X W f0 h0) h⟩
theorem ps_lc (i : Nat) {y : Str} {py : Pos} {elt tg iter : Expr} {ifs : List Expr} {scope : Scope} {own : List (Str × Nat)} {pos spos : Pos} {f : Ev → Out (List D)} {t : D → Ev → Option Ev} {c : Ev → Out Bool} {fe : Ev → Out D} (hc : X.calm = true) (hN : X.N.Nodup) (ok : BlkOk X.N X.env.scope scope own)
    (hy : X.N[i]? = some y) (hyl : X.env.scope.names.lookup y = some .local) (hsw : swapsWith (.ListComp elt [⟨tg, iter, ifs, 0⟩] scope pos) (some (.Name y py)) spos.line X.env = pure true) (hi : PIt X W tg iter f)
    (hg : ∀ (s : Shared) (H : L2.Hp) (C : Addr) (cl : List (Str × Addr)) (fp : List Addr), PGt (X.blk s H scope (compEnvC scope cl C X.env) fp) tg (own.map (·.2)) t)
    (ht : ∀ (s : Shared) (H : L2.Hp) (C : Addr) (cl : List (Str × Addr)) (fp : List Addr), PBs (X.blk s H scope (compEnvC scope cl C X.env) fp) W0 ifs c)
    (he : ∀ (s : Shared) (H : L2.Hp) (C : Addr) (cl : List (Str × Addr)) (fp : List Addr), PF (X.blk s H scope (compEnvC scope cl C X.env) fp) W0 elt fe) (hs : ∀ x, foldedSetIterable iter X.env x = pure x := by intro _; rfl) :
    PSt X W (.Assign [.Name y py] (.ListComp elt [⟨tg, iter, ifs, 0⟩] scope pos) spos) (sAsg i (vComp (own.map (·.2)) f t c fe)) :=
  ⟨fun f0 h0 => (ps_setLc hc hN hy hyl hsw (hi.run f0 h0) ok (fun s H C cl fp => (hg s H C cl fp).run (gh X W f0 h0) rfl) (fun s H C cl fp => (ht s H C cl fp).run f0 h0) (fun s H C cl fp => (he s H C cl fp).run f0 h0) hs).imp fun D σ H ⟨Hf, Γ, fr, st, p⟩ =>
    comp_core (g := gh X W f0 h0) ⟨Hf, Γ, fr, st, PostS.bind p fun x Γ1 _ v H1 Hf1 s1 st1 q => q _ H1 Hf1 (Same.refl _) (st1.store i)⟩⟩
end

/-! ### raise, try -/
def sRaise (e : Exc) : Ev → SO := fun Γ => .ex e Γ
def sTry (m : Str → Option Bool) (fb fs : Ev → SO) : Ev → SO := fun Γ => match fb Γ with
  | .ex e Γ1 => (match m e.c with
    | some true => (match fs Γ1 with | .ex _ _ => .st | r => r)
    | some false => .ex e Γ1
    | none => .st)
  | r => r
section
variable {X : Cx} {W : WX} {pos : Pos}
theorem ps_rs {x m : Str} {j : Nat} {p p2 cpos : Pos} {C : Addr} {bmB : List Value} {B newId initId : String} (hc : X.calm = true) (tk : Takes X W) (F : ExcBaseFacts B newId initId bmB) (q : PySem.W.excIn X.K C bmB newId = true) (gC : X.mg x = some (.ref C)) (kC : PySem.W.keepIn X.K (.ref C) = true)
    (r : Raises X (.ref C)) (hg : Gl X x) (hdb : (x == ("__debug__" : Str)) = false := by decide) : PSt X W (.Raise (some (.Call (.Name x p) [.Constant (.str m) j p2] [] cpos)) none pos) (sRaise ⟨x, []⟩) :=
  ⟨fun f0 h0 => (ps_raise hc tk (pmk_own F q gC kC r hg hdb)).imp fun D σ H ⟨Hf, Γ, fr, st, p⟩ => p σ (.ref C) none H Hf (Same.refl _) ⟨gC, .inl ⟨rfl, rfl⟩⟩ st⟩
theorem ps_try {x : Str} {c : Value} {body suite : List Stmt} {b₀ : Stmt} {np pos' : Pos} {m : Str → Option Bool} {fb fs : Ev → SO} (hs : X.stack = X.env :: X.outer) (hf : X.env.frame = some X.env.locals) (hc : Names X x c) (tk : Takes X W)
    (hm : ∀ n b cls, m n = some b → X.mg n = some cls → PySem.W.exmOne X.K cls c = some b)
    (hb : ∀ (W' : WX) (pn : List (Addr × Obj)) (xe : Value → Shared → Prop), Takes (X.tr pn xe) W' → PassesOwn (model X.prog X.w) X.A X.env xe → PSts (X.tr pn xe) W' body fb)
    (hsu : ∀ (a : Addr) (pn : List (Addr × Obj)), PSts (X.suite a pn) W0 (b₀ :: suite) fs) : PSt X W (.Try body [.ExceptHandler (some (.Name x np)) none (b₀ :: suite) pos'] [] [] pos) (sTry m fb fs) :=
  ⟨fun f0 h0 => (ps_try_only (tb := fun W' => tS ⟨⟨X.K, f0, h0⟩, X.mg, W'⟩ fb) (ts := fun a cls d => tS ⟨⟨X.K, f0, h0⟩, X.mg, W0⟩ fs) hs hf hc tk (fun W' pn xe tk' pw => (hb W' pn xe tk' pw).run f0 h0) (fun a oe cls d pn _ _ => (hsu a _).run f0 h0)).imp fun D σ H ⟨Hf, Γ, fr, st, p⟩ => by
    refine ⟨Hf, Γ, fr, st, ?_⟩
    unfold sTry at p
    cases h : fb Γ with
    | nx Γ1 => rw [h] at p; exact p
    | rt x Γ1 => rw [h] at p; exact p
    | bk Γ1 => rw [h] at p; exact p
    | ct Γ1 => rw [h] at p; exact p
    | st => rw [h] at p; exact p
    | ex e Γ1 =>
      rw [h] at p
      dsimp only at p
      intro σ' cls dx H' Hf' s' xo st'
      cases hmm : m e.c with
      | none => rw [hmm] at p; exact p.elim
      | some b =>
        rw [hmm] at p
        refine ⟨b, hm e.c b cls hmm xo.1, fun eb a na => ?_, fun eb => ?_⟩
        · subst eb
          dsimp only at p
          refine ⟨Hf', Γ1, fr, st', ?_⟩
          cases hfs : fs Γ1 with
          | nx Γ2 => rw [hfs] at p; exact PostS.mono p s'
          | rt x Γ2 => rw [hfs] at p; exact PostS.mono p s'
          | bk Γ2 => rw [hfs] at p; exact PostS.mono p s'
          | ct Γ2 => rw [hfs] at p; exact PostS.mono p s'
          | ex e Γ2 => rw [hfs] at p; exact p.elim
          | st => rw [hfs] at p; exact p.elim
        · subst eb
          exact p σ' cls dx H' Hf' s' xo st'⟩
end

/-! ### constants of the module -/
/-- a value of the written part is this data, whatever the heap -/
def KD (K : PySem.W.Frag) (v : V) (d : D) : Prop := ∀ H, Fz K H v d
structure KTab (K : PySem.W.Frag) (w : World) (a : Addr) (tab : List (Str × Option D)) : Prop where
  kd : ∃ es n, KDict K w a es n
  no : ∀ x, (x, none) ∈ tab → PySem.W.nsIn K a x = some none
  yes : ∀ x d, (x, some d) ∈ tab → ∃ u v, PySem.W.nsIn K a x = some (some u) ∧ RelV v u ∧ KD K v d
def fIn (neg : Bool) (tab : List (Str × Option D)) (o : Opn) : Ev → Out D := fun Γ => (o.f Γ).bind fun d Γ1 => .of ((o.l Γ1 d).bind fun d => match d with
  | .str x => (tab.lookup x).map fun r => .bool (if neg then !r.isSome else r.isSome)
  | _ => none) Γ1
def fGet (tab : List (Str × Option D)) (o : Opn) : Ev → Out D := fun Γ => (o.f Γ).bind fun d Γ1 => .of ((o.l Γ1 d).bind fun d => match d with
  | .str x => (tab.lookup x).bind fun r => r
  | _ => none) Γ1
theorem mem_of_lookup' {α β : Type} [BEq α] [LawfulBEq α] {x : α} {y : β} : ∀ {l : List (α × β)}, l.lookup x = some y → (x, y) ∈ l
  | (a, b) :: l, h => by
    rw [List.lookup_cons] at h
    split at h
    · rename_i e
      have e' : x = a := eq_of_beq e
      cases h
      subst e'
      exact List.mem_cons_self
    · exact List.mem_cons_of_mem _ (mem_of_lookup' h)
section
variable {X : Cx} {W : WX} {e : Expr} {x : Str} {p pos : Pos} {a : Addr} {tab : List (Str × Option D)} {o : Opn}
theorem pf_gl {v : V} {u : Value} {d : D} (hg : Gl X x) (hm : X.mg x = some u) (r : RelV v u) (k : KD X.K v d) (hd : (x == ("__debug__" : Str)) = false := by decide) : PF X W (.Name x pos) (fC d) :=
  ⟨fun f0 h0 => (pe_glob hg hm r hd).imp fun σ H Q ⟨Hf, Γ, fr, st, p⟩ => p v H Hf (Same.refl _) ⟨st, k Hf⟩⟩
theorem in_core {g : GW} {w : World} (T : KTab g.h.K w a tab) {neg : Bool} {σ : St} {H : Hp} {Q : VK} (h : tF g (fIn neg tab o) σ H Q) :
    tOp (fun x y H Q => ∃ (z : Str) (r : Option Value), x = .str z ∧ y = .ref a ∧ PySem.W.nsIn g.h.K a z = some r ∧ Q (.bl (if neg then !r.isSome else r.isSome)) H) (tO g o) (tC (.ref a)) σ H Q := by
  obtain ⟨Hf, Γ, fr, st, p⟩ := h
  refine ⟨Hf, Γ, fr, st, Post.bind p fun d Γ1 _ v H1 Hf1 s1 ⟨st1, l1⟩ q => ?_⟩
  obtain ⟨c, e, q⟩ := Post.of q
  cases h : o.l Γ1 d with
  | none => rw [h] at e; cases e
  | some d' =>
    rw [h] at e
    have z := l1 Γ1 Hf1 H1 fr (Same.refl _) st1 d' h
    cases d' with
    | str x =>
      cases hl : tab.lookup x with
      | none =>
        have e' : (tab.lookup x).map (fun r => PyData.bool (if neg then !r.isSome else r.isSome)) = some c := e
        rw [hl] at e'; cases e'
      | some r =>
        have e' : (tab.lookup x).map (fun r => PyData.bool (if neg then !r.isSome else r.isSome)) = some c := e
        rw [hl] at e'
        cases e'
        cases z.str
        have mem := mem_of_lookup' hl
        cases r with
        | none => exact ⟨x, none, rfl, rfl, T.no x mem, q _ H1 Hf1 (Same.refl _) ⟨st1, .bl _⟩⟩
        | some d0 =>
          obtain ⟨u, v, e1, _⟩ := T.yes x d0 mem
          exact ⟨x, some u, rfl, rfl, e1, q _ H1 Hf1 (Same.refl _) ⟨st1, .bl _⟩⟩
    | _ => cases e
theorem pf_kin {nm : Str} {np : Pos} (T : KTab X.K X.w a tab) (he : PZ X W e o) (hg : Gl X nm) (hm : X.mg nm = some (.ref a)) (hd : (nm == ("__debug__" : Str)) = false := by decide) (hb : behindInMarks .In (.Name nm np) = false := by rfl) : PF X W (.Compare e [.In] [.Name nm np] pos) (fIn false tab o) :=
  ⟨fun f0 h0 => by
    obtain ⟨es, n, kd⟩ := T.kd
    exact (pe_cmpR (op_in_kd kd) (he.run f0 h0) (pe_glob hg hm (v := .ref a) rfl hd) hb).imp fun σ H Q h => in_core (g := gh X W f0 h0) T h⟩
theorem pf_knin {nm : Str} {np : Pos} (T : KTab X.K X.w a tab) (he : PZ X W e o) (hg : Gl X nm) (hm : X.mg nm = some (.ref a)) (hd : (nm == ("__debug__" : Str)) = false := by decide) (hb : behindInMarks .NotIn (.Name nm np) = false := by rfl) : PF X W (.Compare e [.NotIn] [.Name nm np] pos) (fIn true tab o) :=
  ⟨fun f0 h0 => by
    obtain ⟨es, n, kd⟩ := T.kd
    exact (pe_cmpR (op_notIn_kd kd) (he.run f0 h0) (pe_glob hg hm (v := .ref a) rfl hd) hb).imp fun σ H Q h => in_core (neg := true) (g := gh X W f0 h0) T h⟩
def bF (f : Ev → Out D) : Ev → Out Bool := fun Γ => (f Γ).bind fun d Γ1 => match d with | .bool b => .ok b Γ1 | _ => .st
theorem tTestF {g : GW} {t : TE} {f : Ev → Out D} {σ : St} {H : Hp} {Q : Bool → Hp → Prop} (hv : ∀ Q, tF g f σ H Q → t σ H Q) (h : tT g (bF f) σ H Q) : tTest t σ H Q := by
  obtain ⟨Hf, Γ, fr, st, p⟩ := h
  refine hv _ ⟨Hf, Γ, fr, st, Post.bind p fun d Γ1 _ v H1 Hf1 s1 ⟨st1, z⟩ q => ?_⟩
  cases d with
  | bool k =>
    cases z
    exact ⟨k, rfl, q k H1 Hf1 (Same.refl _) ⟨st1, rfl⟩⟩
  | _ => exact q.elim
theorem pb_kin {nm : Str} {np : Pos} (T : KTab X.K X.w a tab) (he : PZ X W e o) (hg : Gl X nm) (hm : X.mg nm = some (.ref a)) (hd : (nm == ("__debug__" : Str)) = false := by decide) (hb : behindInMarks .In (.Name nm np) = false := by rfl) : PB X W (.Compare e [.In] [.Name nm np] pos) (bF (fIn false tab o)) :=
  ⟨fun f0 h0 => by
    obtain ⟨es, n, kd⟩ := T.kd
    exact (pt_cmpR (op_in_kd kd) (he.run f0 h0) (pe_glob hg hm (v := .ref a) rfl hd) hb).imp fun σ H Q h => tTestF (f := fIn false tab o) (fun Q h => in_core (g := gh X W f0 h0) T h) h⟩
theorem pb_knin {nm : Str} {np : Pos} (T : KTab X.K X.w a tab) (he : PZ X W e o) (hg : Gl X nm) (hm : X.mg nm = some (.ref a)) (hd : (nm == ("__debug__" : Str)) = false := by decide) (hb : behindInMarks .NotIn (.Name nm np) = false := by rfl) : PB X W (.Compare e [.NotIn] [.Name nm np] pos) (bF (fIn true tab o)) :=
  ⟨fun f0 h0 => by
    obtain ⟨es, n, kd⟩ := T.kd
    exact (pt_cmpR (op_notIn_kd kd) (he.run f0 h0) (pe_glob hg hm (v := .ref a) rfl hd) hb).imp fun σ H Q h => tTestF (f := fIn true tab o) (fun Q h => in_core (neg := true) (g := gh X W f0 h0) T h) h⟩
theorem pf_kget {nm : Str} {np : Pos} (T : KTab X.K X.w a tab) (he : PZ X W e o) (hp : PlainIx e) (hg : Gl X nm) (hm : X.mg nm = some (.ref a)) (hd : (nm == ("__debug__" : Str)) = false := by decide) : PF X W (.Subscript (.Name nm np) e pos) (fGet tab o) :=
  ⟨fun f0 h0 => (pe_ix ix_kdict (pe_glob hg hm (v := .ref a) rfl hd) (he.run f0 h0) hp).imp fun σ H Q ⟨Hf, Γ, fr, st, p⟩ => ⟨Hf, Γ, fr, st, Post.bind p fun d Γ1 _ v H1 Hf1 s1 ⟨st1, l1⟩ q => by
    obtain ⟨c, e, q⟩ := Post.of q
    cases h : o.l Γ1 d with
    | none => rw [h] at e; cases e
    | some d' =>
      rw [h] at e
      have z := l1 Γ1 Hf1 H1 fr (Same.refl _) st1 d' h
      cases d' with
      | str x =>
        cases hl : tab.lookup x with
        | none =>
          have e' : (tab.lookup x).bind (fun r => r) = some c := e
          rw [hl] at e'; cases e'
        | some r =>
          have e' : (tab.lookup x).bind (fun r => r) = some c := e
          rw [hl] at e'
          have e2 : r = some c := e'
          subst e2
          cases z.str
          obtain ⟨u, v, e1, rv, k⟩ := T.yes x c (mem_of_lookup' hl)
          obtain ⟨es, n, kd⟩ := T.kd
          exact ⟨a, x, v, rfl, rfl, ⟨es, n, u, kd.at_, kd.lit, e1, rv⟩, q _ H1 Hf1 (Same.refl _) ⟨st1, k Hf1⟩⟩
      | _ => cases e⟩⟩
end
/-! ### frozen dicts -/
def dKey : D → Option Key
  | .int i => some (.inl i)
  | .str x => some (.inr x)
  | _ => none
def dLook : List (D × D) → Key → Option D
  | [], _ => none
  | (k, d) :: r, x => if dKey k = some x then some d else dLook r x
theorem dKey_kD (k : Key) : dKey (kD k) = some k := by cases k <;> rfl
theorem dKey_eq {d : D} {k : Key} (h : dKey d = some k) : d = kD k := by
  cases d <;> cases h <;> rfl
theorem look_ok {K : PySem.W.Frag} {Hf : Hp} (x : Key) : ∀ {kvs : List (Key × V)} {ds : List D}, FzAll K Hf (kvs.map (·.2)) ds → (valV kvs x = none ∧ dLook ((kvs.map fun p => kD p.1).zip ds) x = none) ∨ ∃ v d, valV kvs x = some v ∧ dLook ((kvs.map fun p => kD p.1).zip ds) x = some d ∧ Fz K Hf v d
  | [], _, _ => .inl ⟨rfl, by cases ‹List D› <;> rfl⟩
  | (k, v) :: kvs, _, .cons (d := d) (ds := ds) h r => by
    show (valV ((k, v) :: kvs) x = none ∧ (if dKey (kD k) = some x then some d else dLook ((kvs.map fun p => kD p.1).zip ds) x) = none) ∨ _
    rw [dKey_kD]
    by_cases e : k = x
    · subst e
      exact .inr ⟨v, d, by unfold valV; simp, by
        show (if dKey (kD k) = some k then some d else _) = some d
        rw [dKey_kD, if_pos rfl], h⟩
    · have n : ¬ (some k = some x) := fun z => e (Option.some.inj z)
      have e2 : valV ((k, v) :: kvs) x = valV kvs x := by
        unfold valV
        rw [List.find?_cons_of_neg (by simpa using e)]
      rw [if_neg n, e2]
      rcases look_ok x r with h | ⟨v', d', h1, h2, h3⟩
      · exact .inl h
      · exact .inr ⟨v', d', h1, by
          show (if dKey (kD k) = some x then some d else _) = some d'
          rw [dKey_kD, if_neg n]
          exact h2, h3⟩
end PV
namespace PV
open PySem PySem.Spec PyProof.Rows L2

/-! ### in, not in -/
theorem flat_of {K : PySem.W.Frag} {Hf : Hp} {v : V} {d : D} (h : Fz K Hf v d) (f : dFlat d = true) : flatV v = true := by
  cases h <;> first | rfl | cases f
theorem flat_all {K : PySem.W.Frag} {Hf : Hp} : ∀ {vs : List V} {ds : List D}, FzAll K Hf vs ds → ds.all dFlat = true → vs.all flatV = true
  | _, _, .nil, _ => rfl
  | _, _, .cons h r, f => by
    rw [List.all_cons, Bool.and_eq_true] at f ⊢
    exact ⟨flat_of h f.1, flat_all r f.2⟩
theorem eqV_flat {K : PySem.W.Frag} {Hf : Hp} {v w : V} {d e : D} (h : Fz K Hf v d) (h' : Fz K Hf w e) (f : dFlat d = true) (f' : dFlat e = true) : eqV v w = PyData.eqv d e := by
  cases h <;> cases h' <;> first
    | (simp only [eqV, PyData.eqv]; done)
    | (cases f; done)
    | (cases f'; done)
theorem inV_flat {K : PySem.W.Frag} {Hf : Hp} {x : V} {d : D} (h : Fz K Hf x d) (f : dFlat d = true) : ∀ {vs : List V} {ds : List D}, FzAll K Hf vs ds → ds.all dFlat = true → inV x vs = ds.any fun z => PyData.eqv z d
  | _, _, .nil, _ => rfl
  | _, _, .cons hz r, fa => by
    rw [List.all_cons, Bool.and_eq_true] at fa
    have ih := inV_flat h f r fa.2
    unfold inV at ih ⊢
    rw [List.any_cons, List.any_cons, ih, eqV_flat hz h fa.1 f]
def dInB : D → D → Option Bool
  | x, .list ds => if dFlat x && ds.all dFlat then some (ds.any fun z => PyData.eqv z x) else none
  | x, .tuple ds => if dFlat x && ds.all dFlat then some (ds.any fun z => PyData.eqv z x) else none
  | .str i, .str j => some (!(Builtin.Str.occurrences j i 0 j.length 1).isEmpty)
  | x, .dict [(.none, .tuple ds)] => if dFlat x && ds.all dFlat then some (ds.any fun z => PyData.eqv z x) else none
  | _, _ => none
def dIn (a b : D) : Option Va := b2 (dInB a b)
def dNin (a b : D) : Option Va := b2 ((dInB a b).map not)
def rInV (K : PySem.W.Frag) : R2 := fun x y H Q => rIn K false x y H Q ∨ ∃ i j, x = .str i ∧ y = .str j ∧ Q (.bl (!(Builtin.Str.occurrences j i 0 j.length 1).isEmpty)) H
def rNinV (K : PySem.W.Frag) : R2 := fun x y H Q => rIn K true x y H Q ∨ ∃ i j, x = .str i ∧ y = .str j ∧ Q (.bl (!(!(Builtin.Str.occurrences j i 0 j.length 1).isEmpty))) H
section
variable {X : Cx} {K : PySem.W.Frag}
theorem op_inV : OpR X (compareOp .In) (rInV X.K) := op_in_seq.or op_in_str
theorem op_ninV : OpR X (compareOp .NotIn) (rNinV X.K) := op_notIn_seq.or L2.op_notin_str
theorem inB_ok {Hf H : Hp} {x y : V} {dx dy : D} {c : Bool} (s : Same Hf H) (h1 : Fz1 K Hf H x dx) (h2 : Fz1 K Hf H y dy) (e : dInB dx dy = some c) :
    (∃ p xs, y = .ref p ∧ (SqL K H p xs ∨ SqT K H p xs) ∧ flatV x = true ∧ xs.all flatV = true ∧ inV x xs = c) ∨ ∃ i j, x = .str i ∧ y = .str j ∧ (!(Builtin.Str.occurrences j i 0 j.length 1).isEmpty) = c := by
  have fz : ∀ {d : D}, Fz1 K Hf H x d → dFlat d = true → Fz K Hf x d := fun {d} h f => by
    rcases h with h | ⟨a, vs, ds, rfl, rfl, h, r⟩
    · exact h
    · cases f
  unfold dInB at e
  split at e
  · split at e
    · rename_i hf
      rw [Bool.and_eq_true] at hf
      obtain ⟨a, vs, rfl, r, f⟩ := h2.list s
      have z := fz h1 hf.1
      refine .inl ⟨a, vs, rfl, .inl (SqL.of r), flat_of z hf.1, flat_all f hf.2, ?_⟩
      rw [inV_flat z hf.1 f hf.2]
      exact Option.some.inj e
    · cases e
  · split at e
    · rename_i hf
      rw [Bool.and_eq_true] at hf
      obtain ⟨a, vs, rfl, r, f⟩ := h2.tup
      have z := fz h1 hf.1
      refine .inl ⟨a, vs, rfl, .inr (Same.seqT s r), flat_of z hf.1, flat_all f hf.2, ?_⟩
      rw [inV_flat z hf.1 f hf.2]
      exact Option.some.inj e
    · cases e
  · exact .inr ⟨_, _, h1.str, h2.str, Option.some.inj e⟩
  · split at e
    · rename_i hf
      rw [Bool.and_eq_true] at hf
      obtain ⟨a, vs, rfl, r, f⟩ := h2.kt
      have z := fz h1 hf.1
      refine .inl ⟨a, vs, rfl, .inr (Same.seqT s r), flat_of z hf.1, flat_all f hf.2, ?_⟩
      rw [inV_flat z hf.1 f hf.2]
      exact Option.some.inj e
    · cases e
  · cases e
theorem ops_in : OpS K (rInV K) dIn := fun Hf H x y dx dy z Q s h1 h2 e q => by
  cases h : dInB dx dy with
  | none => rw [dIn, h] at e; cases e
  | some c =>
    rw [dIn, h] at e
    cases e
    have fin := q _ H Hf (.z s (.bl c))
    rcases inB_ok s h1 h2 h with ⟨p, xs, e1, e2, e3, e4, e5⟩ | ⟨i, j, e1, e2, e3⟩
    · exact .inl ⟨p, xs, e1, e2, e3, e4, by rw [if_neg Bool.false_ne_true, e5]; exact fin⟩
    · exact .inr ⟨i, j, e1, e2, by rw [e3]; exact fin⟩
theorem ops_nin : OpS K (rNinV K) dNin := fun Hf H x y dx dy z Q s h1 h2 e q => by
  cases h : dInB dx dy with
  | none => rw [dNin, h] at e; cases e
  | some c =>
    rw [dNin, h] at e
    cases e
    have fin := q _ H Hf (.z s (.bl (!c)))
    rcases inB_ok s h1 h2 h with ⟨p, xs, e1, e2, e3, e4, e5⟩ | ⟨i, j, e1, e2, e3⟩
    · exact .inl ⟨p, xs, e1, e2, e3, e4, by rw [if_pos rfl, e5]; exact fin⟩
    · exact .inr ⟨i, j, e1, e2, by rw [e3]; exact fin⟩
end

/-! ### frozen dicts: {}, d.get(k, x) -/
def fDct0 : Ev → Out D := fun Γ => .ok (.dict []) Γ
def fGet2 (fd fk fx : Ev → Out D) : Ev → Out D := fun Γ => (fd Γ).bind fun d Γ1 => match d with
  | .dict kvs => if (kvs.all fun p => (dKey p.1).isSome) = true then ((fk Γ1).bind fun k Γ2 => (fx Γ2).bind fun x Γ3 => .of ((dKey k).map fun y => (dLook kvs y).getD x) Γ3) else .st
  | _ => .st
theorem NewV.dct {K : PySem.W.Frag} {Hf H : Hp} {p : Addr} {kvs : List (Key × V)} {ds : List D} (s : Same Hf H) (n : H p = none) (h : FzAll K Hf (kvs.map (·.2)) ds) : NewV K Hf H (upd H p (.dK kvs)) (upd Hf p (.dK kvs)) (.ref p) (.z, .dict ((kvs.map fun p => kD p.1).zip ds)) := by
  have nf : Hf p = none := Same.free s n
  refine ⟨same_new n, same_new nf, fun b o e => ?_, fun b e => ?_, [], ⟨rfl, .dK upd_same (h.mono (same_new nf))⟩, List.nodup_nil, fun _ z => nomatch z⟩
  · by_cases z : b = p
    · subst z; rw [upd_same] at e ⊢; exact e
    · rw [upd_ne z] at e ⊢; exact s b o e
  · by_cases z : b = p
    · subst z; exact .inr n
    · rw [upd_ne z] at e; exact .inl e
section
variable {X : Cx} {W : WX} {o e f : Expr} {pos apos cpos : Pos}
theorem pf_dct0 : PF X W (.Dict [] [] pos) fDct0 := ⟨fun f0 h0 => pe_dnewK.imp fun σ H Q ⟨Hf, Γ, fr, st, p⟩ a n => by
  have nv := NewV.dct (K := X.K) (kvs := []) (ds := []) st.sub n .nil
  have st1 := st.pushN nv
  exact p _ _ _ nv.f1 ⟨st1.pop, st1.top⟩⟩
theorem fz_dict {K : PySem.W.Frag} {Hf : Hp} {v : V} {kvs : List (D × D)} (h : Fz K Hf v (.dict kvs)) (hk : (kvs.all fun p => (dKey p.1).isSome) = true) : ∃ a kvs' ds, v = .ref a ∧ Hf a = some (.dK kvs') ∧ FzAll K Hf (kvs'.map (·.2)) ds ∧ kvs = (kvs'.map fun p => kD p.1).zip ds := by
  generalize hd : PyData.dict kvs = d at h
  cases h with
  | scr ns h =>
    cases hd
    cases hk
  | raw a =>
    unfold rawD at hd
    cases hd
    cases hk
  | kt h r =>
    cases hd
    cases hk
  | dT h r =>
    cases hd
    cases hk
  | dK h r =>
    cases hd
    exact ⟨_, _, _, rfl, h, r, rfl⟩
  | _ => cases hd
theorem pf_get2 {fd fk fx : Ev → Out D} (hu : X.A.units + 1 < cLine) (hd : PF X W o fd) (hk : PF X W e fk) (hx : PF X W f fx) (m : M2 X o "get" apos e f cpos) : PF X W (.Call (.Attribute o "get" apos) [e, f] [] cpos) (fGet2 fd fk fx) :=
  ⟨fun f0 h0 => (pe_dget2 hu (hd.run f0 h0) (hk.run f0 h0) (hx.run f0 h0) m).imp fun σ H Q ⟨Hf, Γ, fr, st, p⟩ => ⟨Hf, Γ, fr, st, Post.bind p fun d Γ1 _ v H1 Hf1 s1 ⟨st1, z⟩ q => by
    split at q
    · rename_i kvs
      split at q
      · rename_i hk
        obtain ⟨a, kvs', ds, rfl, ha, fd, rfl⟩ := fz_dict z hk
        refine ⟨a, rfl, .inl ⟨kvs', .inl (st1.sub _ _ ha)⟩, Hf1, Γ1, fr, st1, Post.bind q fun k Γ2 _ w H2 Hf2 s2 ⟨st2, zk⟩ q => ⟨Hf2, Γ2, fr, st2, Post.bind q fun x Γ3 _ u H3 Hf3 s3 ⟨st3, zx⟩ q => ?_⟩⟩
        obtain ⟨c, e, q⟩ := Post.of q
        cases hy : dKey k with
        | none => rw [hy] at e; cases e
        | some y =>
          rw [hy] at e
          cases e
          dsimp only at q
          have ek : w = kV y := by
            have := dKey_eq hy
            subst this
            cases y <;> cases zk <;> rfl
          have hb : H3 a = some (.dK kvs') := st3.sub _ _ ((s2.trans s3) _ _ ha)
          refine ⟨valV kvs' y, by rw [ek]; exact DGet.k hb, ?_⟩
          rcases look_ok y fd with ⟨h1, h2⟩ | ⟨v', d', h1, h2, h3⟩
          · rw [h1]
            rw [h2] at q
            exact q u H3 Hf3 (Same.refl _) ⟨st3, zx⟩
          · rw [h1]
            rw [h2] at q
            exact q v' H3 Hf3 (Same.refl _) ⟨st3, h3.mono (s2.trans s3)⟩
      · exact q.elim
    · exact q.elim⟩⟩
end
end PV
namespace PV
open PySem PySem.Spec PyProof.Rows L2

/-! ### list(range(n)), tuple(range(n)) -/
def vLR1 (f : Ev → Out D) : Ev → Out Va := fun Γ => (f Γ).bind fun d Γ1 => match d with | .int j => if 0 ≤ j ∧ j ≤ 16777216 then .ok (.l .z, .list (rangeL 0 j.toNat)) Γ1 else .st | _ => .st
def fTR1 (f : Ev → Out D) : Ev → Out D := fun Γ => (f Γ).bind fun d Γ1 => match d with | .int j => if 0 ≤ j ∧ j ≤ 16777216 then .ok (.tuple (rangeL 0 j.toNat)) Γ1 else .st | _ => .st
theorem fz_range {K : PySem.W.Frag} {Hf : Hp} (a b : Int) : FzAll K Hf (rgV a b) (rangeL a (b - a).toNat) := by
  have : ∀ l : List Nat, FzAll K Hf (l.map fun i => V.int (a + (i : Nat))) (l.map fun i => PyData.int (a + (i : Nat))) := fun l => by
    induction l with
    | nil => exact .nil
    | cons x l ih => exact .cons (.int _) ih
  exact this _
section
variable {X : Cx} {W : WX} {a b c : Expr} {p p2 pos pos2 : Pos}
theorem pv_lr1 {f : Ev → Out D} (hc : X.calm = true) (hg : Gl X "list") (hm : X.mg "list" = none) (hg2 : Gl X "range") (hm2 : X.mg "range" = none) (h : PF X W a f) (na : starEach [a] X.env = (false, eval a X.env) :: starEach [] X.env := by rfl)
    (na2 : starEach [.Call (.Name "range" p2) [a] [] pos2] X.env = (false, eval (.Call (.Name "range" p2) [a] [] pos2) X.env) :: starEach [] X.env := by rfl) : PV X W (.Call (.Name "list" p) [.Call (.Name "range" p2) [a] [] pos2] [] pos) (vLR1 f) :=
  ⟨fun f0 h0 => (pe_listRg hc hg hm (prg_1 hg2 hm2 (h.run f0 h0) na) na2).imp fun σ H Q ⟨Hf, Γ, fr, st, p⟩ => ⟨Hf, Γ, fr, st, Post.bind p fun d Γ1 _ v H1 Hf1 s1 ⟨st1, z⟩ q => by
    cases d with
    | int j =>
      cases z
      dsimp only at q
      split at q
      · rename_i c
        refine ⟨j, rfl, .of_le (Int.le_refl _) c.2 (by decide) c.1, fun l n => q _ _ Hf1 (Same.refl _) (st1.pushN ?_)⟩
        have := fz_range (K := X.K) (Hf := Hf1) 0 j
        rw [Int.sub_zero] at this
        exact .lst st1.sub n this
      · exact q.elim
    | _ => exact q.elim⟩⟩
theorem pf_tr1 {f : Ev → Out D} (hc : X.calm = true) (hg : Gl X "tuple") (hm : X.mg "tuple" = none) (hg2 : Gl X "range") (hm2 : X.mg "range" = none) (h : PF X W a f) (na : starEach [a] X.env = (false, eval a X.env) :: starEach [] X.env := by rfl)
    (na2 : starEach [.Call (.Name "range" p2) [a] [] pos2] X.env = (false, eval (.Call (.Name "range" p2) [a] [] pos2) X.env) :: starEach [] X.env := by rfl) : PF X W (.Call (.Name "tuple" p) [.Call (.Name "range" p2) [a] [] pos2] [] pos) (fTR1 f) :=
  ⟨fun f0 h0 => (pe_tupRg hc hg hm (prg_1 hg2 hm2 (h.run f0 h0) na) na2).imp fun σ H Q ⟨Hf, Γ, fr, st, p⟩ => ⟨Hf, Γ, fr, st, Post.bind p fun d Γ1 _ v H1 Hf1 s1 ⟨st1, z⟩ q => by
    cases d with
    | int j =>
      cases z
      dsimp only at q
      split at q
      · rename_i c
        refine ⟨j, rfl, .of_le (Int.le_refl _) c.2 (by decide) c.1, fun l n => ?_⟩
        have := fz_range (K := X.K) (Hf := Hf1) 0 j
        rw [Int.sub_zero] at this
        have nv := NewV.tup st1.sub n this
        have st2 := st1.pushN nv
        exact q _ _ _ nv.f1 ⟨st2.pop, st2.top⟩
      · exact q.elim
    | _ => exact q.elim⟩⟩
/-! ### int(..) of ints, flags, texts -/
def dIntV : List D → Option Va
  | [.int i] => some (.z, .int i)
  | [.bool b] => some (.z, .int (if b then 1 else 0))
  | [.str a] => if a.length ≤ 640 then (PySem.intText? a).map fun n => (.z, .int n) else none
  | _ => none
def rIntV : List V → Hp → VK → Prop := fun xs H Q => ((∃ i, xs = [.int i] ∧ Q (.int i) H) ∨ ∃ k, xs = [.bl k] ∧ Q (.int (if k then 1 else 0)) H) ∨ ∃ a n, xs = [.str a] ∧ PySem.intText? a = some n ∧ a.length ≤ 640 ∧ Q (.int n) H
theorem call_intV : CallR X (.type "int") rIntV := call_int1.or call_int_str
theorem cs_intV {K : PySem.W.Frag} : CallS K rIntV dIntV := fun Hf H xs ds z Q s h e q => by
  unfold dIntV at e
  split at e
  · obtain ⟨v, rfl, hh⟩ := h.one
    cases e
    cases hh.int
    exact .inl (.inl ⟨_, rfl, q _ H Hf (.z s (.int _))⟩)
  · obtain ⟨v, rfl, hh⟩ := h.one
    cases e
    cases hh.bool
    exact .inl (.inr ⟨_, rfl, q _ H Hf (.z s (.int _))⟩)
  · obtain ⟨v, rfl, hh⟩ := h.one
    split at e
    · cases hi : PySem.intText? ‹Str› with
      | none => rw [hi] at e; cases e
      | some n =>
        rw [hi] at e
        cases e
        cases hh.str
        exact .inr ⟨_, n, rfl, hi, ‹_›, q _ H Hf (.z s (.int _))⟩
    · cases e
  · cases e
theorem call_maxV (hc : X.calm = true) : CallR X (.builtin "max") (rMaxV X.K) := (cr_max hc).or (call_max2 hc)
theorem call_minV (hc : X.calm = true) : CallR X (.builtin "min") (rMinV X.K) := (cr_min hc).or (call_min2 hc)
/-! ### a < b < c -/
def vCh (op op' : D → D → Option Va) (a b c : Opn) : Ev → Out D := fun Γ => (a.f Γ).bind fun x Γ1 => (b.f Γ1).bind fun y Γ2 => match (a.l Γ2 x).bind fun x => (b.l Γ2 y).bind fun y => op x y with
  | some (.z, .bool true) => (c.f Γ2).bind fun w Γ3 => .of (((b.l Γ3 y).bind fun y => (c.l Γ3 w).bind fun w => op' y w).bind fun z => match z with | (.z, .bool k) => some (.bool k) | _ => none) Γ3
  | some (.z, .bool false) => .ok (.bool false) Γ2
  | _ => .st
theorem chain_of {g : GW} {r r' : R2} {op op' : D → D → Option Va} {oa ob oc : Opn} (hs : OpS g.h.K r op) (hs' : OpS g.h.K r' op') {σ : St} {H : Hp} {Q : VK} (h : tF g (vCh op op' oa ob oc) σ H Q) : tChain r r' (tO g oa) (tO g ob) (tO g oc) σ H Q := by
  obtain ⟨Hf, Γ, fr, st, p⟩ := h
  refine ⟨Hf, Γ, fr, st, Post.bind p fun x Γ1 _ v H1 Hf1 s1 ⟨st1, l1⟩ q => ⟨Hf1, Γ1, fr, st1, Post.bind q fun y Γ2 _ u H2 Hf2 s2 ⟨st2, l2⟩ q => ?_⟩⟩
  cases hb : (oa.l Γ2 x).bind fun x => (ob.l Γ2 y).bind fun y => op x y with
  | none => rw [hb] at q; exact q.elim
  | some z =>
    rw [hb] at q
    obtain ⟨x', y', e1, e2, e3⟩ := bind2 hb
    refine hs Hf2 H2 v u x' y' z _ st2.sub (l1 Γ2 Hf2 H2 fr s2 st2 x' e1) (l2 Γ2 Hf2 H2 fr (Same.refl _) st2 y' e2) e3 fun v' H' Hf' n => ?_
    have st3 := st2.pushN n
    obtain ⟨s, d⟩ := z
    cases s with
    | l _ => cases d <;> exact q.elim
    | d _ => cases d <;> exact q.elim
    | e _ => cases d <;> exact q.elim
    | z =>
      cases d with
      | bool k =>
        have z3 := st3.top
        cases z3
        cases k with
        | false => exact ⟨false, rfl, q _ H' Hf' n.f1 ⟨st3.pop, .bl _⟩⟩
        | true =>
          refine ⟨true, rfl, Hf', Γ2, fr, st3.pop, Post.bind (Post.mono q n.f1) fun w Γ3 _ t H4 Hf4 s4 ⟨st4, l4⟩ q => ?_⟩
          obtain ⟨c, e, q⟩ := Post.of q
          cases hb2 : (ob.l Γ3 y).bind fun y => (oc.l Γ3 w).bind fun w => op' y w with
          | none => rw [hb2] at e; cases e
          | some z' =>
            rw [hb2] at e
            obtain ⟨y2, w2, f1, f2, f3⟩ := bind2 hb2
            refine hs' Hf4 H4 u t y2 w2 z' _ st4.sub (l2 Γ3 Hf4 H4 fr (n.f1.trans s4) st4 y2 f1) (l4 Γ3 Hf4 H4 fr (Same.refl _) st4 w2 f2) f3 fun v' H5 Hf5 n5 => ?_
            have st5 := st4.pushN n5
            obtain ⟨s, d⟩ := z'
            cases s with
            | l _ => cases d <;> cases e
            | d _ => cases d <;> cases e
            | e _ => cases d <;> cases e
            | z =>
              cases d with
              | bool k =>
                cases e
                exact q _ H5 Hf5 n5.f1 ⟨st5.pop, st5.top⟩
              | _ => cases e
      | _ => exact q.elim
theorem pf_ch {op op' : CmpOp} {r r' : R2} {f f' : D → D → Option Va} {oa ob oc : Opn} (ho : OpR X (compareOp op) r) (hs : OpS X.K r f) (ho' : OpR X (compareOp op') r') (hs' : OpS X.K r' f') (ha : PZ X W a oa) (hb : PZ X W b ob) (hc : PZ X W c oc)
    (hm : lastMarks [op, op'] [b, c] = false := by with_unfolding_all rfl) : PF X W (.Compare a [op, op'] [b, c] pos) (vCh f f' oa ob oc) :=
  ⟨fun f0 h0 => (pe_chain ho ho' (ha.run f0 h0) (hb.run f0 h0) (hc.run f0 h0) hm).imp fun σ H Q h => chain_of hs hs' h⟩
theorem pb_ch {op op' : CmpOp} {r r' : R2} {f f' : D → D → Option Va} {oa ob oc : Opn} (ho : OpR X (compareOp op) r) (hs : OpS X.K r f) (ho' : OpR X (compareOp op') r') (hs' : OpS X.K r' f') (ha : PZ X W a oa) (hb : PZ X W b ob) (hc : PZ X W c oc)
    (hm : lastMarks [op, op'] [b, c] = false := by with_unfolding_all rfl) : PB X W (.Compare a [op, op'] [b, c] pos) (bF (vCh f f' oa ob oc)) :=
  ⟨fun f0 h0 => (pt_chain ho ho' (ha.run f0 h0) (hb.run f0 h0) (hc.run f0 h0) hm).imp fun σ H Q h => tTestF (f := vCh f f' oa ob oc) (fun Q h => chain_of (g := gh X W f0 h0) hs hs' h) h⟩
/-! ### a list or a tuple that is walked -/
def iLT (f : Ev → Out D) : Ev → Out (List D) := fun Γ => (f Γ).bind fun d Γ1 => match d with | .list ds => .ok ds Γ1 | .tuple ds => .ok ds Γ1 | .dict [(.none, .tuple ds)] => .ok ds Γ1 | _ => .st
theorem pi_lt {tg e : Expr} {f : Ev → Out D} (h : PF X W e f) : PIt X W tg e (iLT f) := ⟨fun f0 h0 => ⟨fun pins s σ H R I ⟨Hf, Γ, fr, st, q⟩ => by
  have hl := ((pi_l (tg := tg) h).run f0 h0).run pins s σ H R I
  have ht := ((pi_t (tg := tg) h).run f0 h0).run pins s σ H R I
  unfold iLT at q
  cases hf : f Γ with
  | ok d Γ1 =>
    rw [hf] at q
    dsimp only [Out.bind] at q
    split at q
    · exact hl ⟨Hf, Γ, fr, st, by unfold iL; rw [hf]; exact q⟩
    · exact ht ⟨Hf, Γ, fr, st, by unfold iT; rw [hf]; exact q⟩
    · exact ht ⟨Hf, Γ, fr, st, by unfold iT; rw [hf]; exact q⟩
    · exact q.elim
  | ex e Γ1 =>
    rw [hf] at q
    exact hl ⟨Hf, Γ, fr, st, by unfold iL; rw [hf]; exact q⟩
  | st => rw [hf] at q; exact q.elim⟩⟩
/-! ### a slot is frozen behind a statement; a slot is handed on whole -/
def sFz (i : Nat) (a : Ev → SO) : Ev → SO := fun Γ => match a Γ with
  | .nx Γ1 => (match Γ1[i]? with | some (some x) => .nx (Γ1.set i (some (.z, x.2))) | _ => .nx Γ1)
  | r => r
theorem ps_fz (i : Nat) {st : Stmt} {a : Ev → SO} (h : PSt X W st a) : PSt X W st (sFz i a) := ⟨fun f0 h0 => (h.run f0 h0).imp fun D σ H ⟨Hf, Γ, fr, st, q⟩ => by
  refine ⟨Hf, Γ, fr, st, ?_⟩
  unfold sFz at q
  cases ha : a Γ with
  | nx Γ1 =>
    rw [ha] at q
    dsimp only at q
    intro σ' H' Hf' s' st'
    split at q
    · rename_i x hx
      obtain ⟨Hf2, v, s2, _, st2⟩ := st'.frzSlot hx
      exact q σ' H' Hf2 (s'.trans s2) st2.pop
    · exact q σ' H' Hf' s' st'
  | rt x Γ1 => rw [ha] at q; exact q
  | bk Γ1 => rw [ha] at q; exact q
  | ct Γ1 => rw [ha] at q; exact q
  | ex e Γ1 => rw [ha] at q; exact q
  | st => rw [ha] at q; exact q⟩
def vMv (i : Nat) : Ev → Out Va := fun Γ => match Γ[i]? with | some (some x) => .ok x (Γ.set i none) | _ => .st
theorem StOk.take {g : Gh} {Hf H : Hp} {σ : St} {Γ : Ev} {fr : List (V × Va)} {i : Nat} {x : Va} (h : StOk g Hf H σ Γ fr) (hi : Γ[i]? = some (some x)) : ∃ v, σ[i]? = some (some v) ∧ StOk g Hf H σ (Γ.set i none) ((v, x) :: fr) := by
  obtain ⟨ω, h⟩ := h
  obtain ⟨v, e1, A, o, nd, hA⟩ := h.slots i x hi
  classical
  refine ⟨v, e1, fun a => if a ∈ A then some (.inr fr.length) else ω a, h.base, h.sub, h.old, h.new, fun a j e => ?_, by rw [List.length_set]; exact h.len, fun j y e => ?_, ⟨⟨A, o, nd, fun a ha => if_pos ha⟩, h.fr.mono (Same.refl _) fun a j hj e => ⟨rfl, ?_⟩⟩⟩
  · by_cases z : a ∈ A
    · exact h.own a _ (hA a z)
    · simp only [if_neg z] at e; exact h.own a j e
  · by_cases hj : i = j
    · subst hj
      rw [List.getElem?_set] at e
      simp at e
    · rw [List.getElem?_set_ne hj] at e
      obtain ⟨w, e2, q⟩ := h.slots j y e
      refine ⟨w, e2, q.mono (Same.refl _) fun a e => ⟨rfl, ?_⟩⟩
      have z : ¬ a ∈ A := fun z => by
        rw [hA a z] at e
        cases e
        exact hj rfl
      simp only [if_neg z]; exact e
  · have z : ¬ a ∈ A := fun z => by
      rw [hA a z] at e
      cases e
    simp only [if_neg z]; exact e
theorem pv_mv (i : Nat) {x : Str} (hN : X.N[i]? = some x := by rfl) (hv : Vis X.env.scope x := by first | exact Or.inl rfl | exact Or.inr (Or.inl rfl) | exact Or.inr (Or.inr rfl)) (hd : (x == ("__debug__" : Str)) = false := by decide)
    (hcd : (x == ("__classdict__" : Str)) = false := by decide) : PV X W (.Name x pos) (vMv i) := ⟨fun f0 h0 => (pe_var hN hv hd hcd).imp fun σ H Q ⟨Hf, Γ, fr, st, p⟩ => by
  unfold vMv at p
  split at p
  · rename_i y e
    obtain ⟨v, e1, st1⟩ := st.take e
    exact ⟨v, e1, p v H Hf (Same.refl _) st1⟩
  · exact p.elim⟩
end
end PV
namespace PV
open PySem PySem.Spec PyProof.Rows L2
abbrev S (x : String) : Str := Str.ofString x
def fuel : Nat := 1000000
theorem hU {k : Nat} {A : Around} (hr : Room k A) : A.units + 64 < cLine := hr.units
theorem hU1 {k : Nat} {A : Around} (hr : Room k A) : A.units + 1 < cLine := hu_of hr
theorem kit_int : ∀ t ∈ ["NoneType", "bool", "int", "str", "list", "tuple", "dict"], kitB t "int" = some (isB t "int") := by decide +kernel
theorem kit_bool : ∀ t ∈ ["NoneType", "bool", "int", "str", "list", "tuple", "dict"], kitB t "bool" = some (isB t "bool") := by decide +kernel
theorem kit_str : ∀ t ∈ ["NoneType", "bool", "int", "str", "list", "tuple", "dict"], kitB t "str" = some (isB t "str") := by decide +kernel
theorem kit_list : ∀ t ∈ ["NoneType", "bool", "int", "str", "list", "tuple", "dict"], kitB t "list" = some (isB t "list") := by decide +kernel
theorem kit_tuple : ∀ t ∈ ["NoneType", "bool", "int", "str", "list", "tuple", "dict"], kitB t "tuple" = some (isB t "tuple") := by decide +kernel
theorem kit_dict : ∀ t ∈ ["NoneType", "bool", "int", "str", "list", "tuple", "dict"], kitB t "dict" = some (isB t "dict") := by decide +kernel
def dAddI : D → D → Option Va
  | .int i, .int j => some (.z, .int (i + j))
  | _, _ => none
theorem ops_addI {K : PySem.W.Frag} : OpS K (rI0 fun i j => .int (i + j)) dAddI := ops_int0 fun dx dy z e => by
  cases dx <;> cases dy <;> cases e
  exact ⟨_, _, rfl, rfl, rfl⟩
theorem cs_abs {K : PySem.W.Frag} : CallS K (fun xs H Q => ∃ i, xs = [.int i] ∧ Q (.int (if i < 0 then -i else i)) H) dAbs := fun Hf H xs ds z Q s h e q => by
  unfold dAbs at e
  split at e
  · obtain ⟨v, rfl, hh⟩ := h.one
    cases e
    cases hh.int
    exact ⟨_, rfl, q _ H Hf (.z s (.int _))⟩
  · cases e
end PV
namespace PV
open PySem PySem.Spec PyProof.Rows L2
/-! ### the end -/
def scr (ns : List Int) : D := .dict [(.none, .list (ns.map .int))]
def spTop (K : PySem.W.Frag) : Sp := fun vs H Q _ => ∃ (a : Addr) (ns : List Int), vs = [.ref a] ∧ SqL K H a (ns.map V.int) ∧ ns.length ≤ 63 ∧ ∀ H', Q (.bl true) H'
theorem top_ok {P : Program} {w : World} {K : PySem.W.Frag} {mg : Str → Option Value} {base : Heap} {CX : CXT} {k : Nat} {f : Addr} {fd : FuncData} {ps : List Str} {F : List D → Res} (h : FnOk P w K mg base CX k f fd ps (spV K mg 1 F))
    (t : ∀ ns : List Int, ns.length ≤ 63 → F [scr ns] = .ok (.z, .bool true)) : FnOk P w K mg base CX k f fd ps (spTop K) := h.imp fun vs H Q E ⟨a, ns, e, hS, hl, q⟩ => by
  subst e
  refine ⟨H, [scr ns], rfl, Same.refl _, .cons (.scr ns hS) .nil, ?_⟩
  rw [t ns hl]
  intro v H' Hf' n
  obtain ⟨A, o, _⟩ := n.o
  have z : Fz K Hf' v (.bool true) := o.2
  cases z
  exact q H'
theorem cx_false {P : Program} {w : World} {outer : List Env} {H : L2.Hp} {s s' : Shared} {e : Value} (h : L2.CX P w outer H s (fun _ _ _ => False) e s') : False := by
  obtain ⟨_, _, _, _, _, _, _, _, _, _, _, _, z⟩ := h
  exact z
theorem exm_of {K : PySem.W.Frag} {C : Addr} (h1 : PySem.W.subIn K (.ref C) (.type "BaseException") = some true) (h2 : PySem.W.isClsIn K C = true) (h3 : PySem.W.typeIn K (.ref C) = some (.type "type")) (h4 : PySem.W.subIn K (.ref C) (.ref C) = some true) :
    PySem.W.exmOne K (.ref C) (.ref C) = some true := by
  have a1 : (PySem.W.subIn K (.ref C) (.type "BaseException") == some true) = true := by rw [h1]; rfl
  have a2 : ((PySem.W.clsIn K C).isSome && PySem.W.typeIn K (.ref C) == some (.type "type")) = true := by
    have z : (PySem.W.clsIn K C).isSome = true := h2
    rw [z, h3]
    rfl
  unfold PySem.W.exmOne
  simp only [a1, if_true]
  unfold PySem.W.kitCls
  simp only [a2, if_true]
  exact h4
/-- the rows of a written dict -/
def TabRows (K : PySem.W.Frag) (a : Addr) : List (Str × Option D) → Prop
  | [] => True
  | (x, none) :: r => PySem.W.nsIn K a x = some none ∧ TabRows K a r
  | (x, some d) :: r => (∃ u v, PySem.W.nsIn K a x = some (some u) ∧ RelV v u ∧ KD K v d) ∧ TabRows K a r
theorem rows_no {K : PySem.W.Frag} {a : Addr} {x : Str} : ∀ {tab : List (Str × Option D)}, TabRows K a tab → (x, none) ∈ tab → PySem.W.nsIn K a x = some none
  | (y, none) :: r, h, m => by
    rcases List.mem_cons.mp m with e | m
    · cases e; exact h.1
    · exact rows_no h.2 m
  | (y, some d) :: r, h, m => by
    rcases List.mem_cons.mp m with e | m
    · cases e
    · exact rows_no h.2 m
theorem rows_yes {K : PySem.W.Frag} {a : Addr} {x : Str} {d : D} : ∀ {tab : List (Str × Option D)}, TabRows K a tab → (x, some d) ∈ tab → ∃ u v, PySem.W.nsIn K a x = some (some u) ∧ RelV v u ∧ KD K v d
  | (y, none) :: r, h, m => by
    rcases List.mem_cons.mp m with e | m
    · cases e
    · exact rows_yes h.2 m
  | (y, some d') :: r, h, m => by
    rcases List.mem_cons.mp m with e | m
    · cases e; exact h.1
    · exact rows_yes h.2 m
theorem ktab_mk {K : PySem.W.Frag} {w : World} {a : Addr} {tab : List (Str × Option D)} (h : ∃ es n, KDict K w a es n) (r : TabRows K a tab) : KTab K w a tab := ⟨h, fun _ m => rows_no r m, fun _ _ m => rows_yes r m⟩
end PV
namespace PV
open PySem PySem.Spec PyProof.Rows L2
/-! ### an item of an owned list is set -/
def setE (i : Nat) (d : D) (o : Option (Option Va)) (k : D) (Γ : Ev) : SO := match o with
  | some (some (.l .z, .list ds)) => (match k with
    | .int n => (match ixN ds.length n with | some j => .nx (Γ.set i (some (.l .z, .list (ds.set j d)))) | none => .st)
    | _ => .st)
  | _ => .st
def setS (o : Option (Option Va)) (r : SO) : SO := match o with
  | some (some (.l .z, .list _)) => r
  | _ => .st
def sSet (i : Nat) (fv fk : Ev → Out D) : Ev → SO := fun Γ => sB (fv Γ) fun d Γ1 => setS (Γ1[i]?) (sB (fk Γ1) fun k Γ2 => setE i d (Γ2[i]?) k Γ2)
section
variable {X : Cx} {W : WX} {pos : Pos}
theorem ps_setL (i : Nat) {x : Str} {p tpos : Pos} {ix value : Expr} {fv fk : Ev → Out D} (hv : PF X W value fv) (hk : PF X W ix fk)
    (hN : X.N[i]? = some x := by rfl) (hvis : Vis X.env.scope x := by first | exact Or.inl rfl | exact Or.inr (Or.inl rfl) | exact Or.inr (Or.inr rfl)) (hd : (x == ("__debug__" : Str)) = false := by decide) (hcd : (x == ("__classdict__" : Str)) = false := by decide)
    (ha : ∀ v, assign (.Subscript (.Name x p) ix tpos) X.env v = (do
      let ov ← holding [v] (eval (.Name x p) X.env)
      let iv ← holding [v, ov] (eval ix X.env)
      standAt tpos
      holding [v, ov, iv] (setItem ov iv v)
      release [v, ov, iv] []) := by intro _; rfl)
    (hs : swapsWithSole [.Subscript (.Name x p) ix tpos] value pos.line X.env = pure false := by rfl) (hw : swappedStores [.Subscript (.Name x p) ix tpos] value X.env = pure none := by rfl)
    (h1 : (assignEach [.Subscript (.Name x p) ix tpos] X.env).map (·.2) = [assign (.Subscript (.Name x p) ix tpos) X.env] := by rfl) :
    PSt X W (.Assign [.Subscript (.Name x p) ix tpos] value pos) (sSet i fv fk) :=
  ⟨fun f0 h0 => (ps_asg (hv.run f0 h0) (pg_sub (pe_var hN hvis hd hcd) (hk.run f0 h0) set_list ha) hs hw h1).imp fun D σ H ⟨Hf, Γ, fr, st, p⟩ => by
    refine ⟨Hf, Γ, fr, st, PostS.bind p fun d Γ1 _ v H1 Hf1 s1 ⟨st1, z1⟩ q => ?_⟩
    unfold setS at q
    split at q
    · rename_i ds0 hΓ
      obtain ⟨a, vs, e1, e2, _⟩ := st1.getLz hΓ
      refine ⟨.ref a, e1, Hf1, Γ1, fr, st1, PostS.bind q fun k Γ2 _ y H2 Hf2 s2 ⟨st2, z2⟩ q2 => ?_⟩
      unfold setE at q2
      split at q2
      · rename_i ds hΓ2
        obtain ⟨a', vs2, e3, e4, f4⟩ := st2.getLz hΓ2
        rw [e1] at e3
        cases e3
        split at q2
        · rename_i n _ _
          cases hj : ixN ds.length n with
          | none => rw [hj] at q2; exact q2.elim
          | some j =>
            rw [hj] at q2
            cases z2
            exact ⟨a, vs2, n, j, rfl, rfl, e4, by rw [f4.length]; exact hj, q2 _ _ Hf2 (Same.refl _) (st2.mut hΓ2 e1 (FzAll.set (z1.mono s2) j f4))⟩
        · exact q2.elim
      · exact q2.elim
    · exact q.elim⟩
end
end PV
namespace PV
open PySem PySem.Spec PyProof.Rows L2
/-! ### dicts at a slot -/
def rows (kvs : List (Key × V)) (ds : List D) : List (D × D) := (kvs.map fun p => kD p.1).zip ds
def dHas (rs : List (D × D)) (k : Key) : Bool := rs.any fun p => decide (dKey p.1 = some k)
def dPutL (rs : List (D × D)) (k : Key) (d : D) : List (D × D) := if dHas rs k = true then rs.map (fun p => if dKey p.1 = some k then (p.1, d) else p) else rs ++ [(kD k, d)]
section
variable {K : PySem.W.Frag} {H : Hp} {k : Key} {v : V} {d : D}
theorem rows_len : ∀ {kvs : List (Key × V)} {ds : List D}, FzAll K H (kvs.map (·.2)) ds → (rows kvs ds).length = kvs.length
  | [], _, .nil => rfl
  | _ :: kvs, _, .cons _ r => congrArg (· + 1) (rows_len (kvs := kvs) r)
theorem rows_has : ∀ {kvs : List (Key × V)} {ds : List D}, FzAll K H (kvs.map (·.2)) ds → dHas (rows kvs ds) k = kvs.any fun kv => decide (kv.1 = k)
  | [], _, .nil => rfl
  | p :: kvs, d :: ds, .cons _ r => by
    have ih := rows_has (kvs := kvs) r
    unfold dHas at ih ⊢
    show ((kD p.1, d) :: rows kvs ds).any _ = _
    rw [List.any_cons, List.any_cons, ih]
    congr 1
    show decide (dKey (kD p.1) = some k) = _
    rw [dKey_kD]
    by_cases e : p.1 = k
    · rw [decide_eq_true (congrArg some e), decide_eq_true e]
    · rw [decide_eq_false (fun z => e (Option.some.inj z)), decide_eq_false e]
theorem rows_map (hd : Fz K H v d) : ∀ {kvs : List (Key × V)} {ds : List D}, FzAll K H (kvs.map (·.2)) ds →
    ∃ ds', (rows kvs ds).map (fun p => if dKey p.1 = some k then (p.1, d) else p) = rows (kvs.map fun kv => if kv.1 = k then (kv.1, v) else kv) ds' ∧ FzAll K H ((kvs.map fun kv => if kv.1 = k then (kv.1, v) else kv).map (·.2)) ds'
  | [], _, .nil => ⟨[], rfl, .nil⟩
  | p :: kvs, d0 :: ds, .cons h r => by
    obtain ⟨ds', e, f⟩ := rows_map hd (kvs := kvs) r
    by_cases q : p.1 = k
    · refine ⟨d :: ds', ?_, ?_⟩
      · show (if dKey (kD p.1) = some k then (kD p.1, d) else (kD p.1, d0)) :: (rows kvs ds).map _ = rows ((if p.1 = k then (p.1, v) else p) :: _) (d :: ds')
        rw [dKey_kD, if_pos (congrArg some q), if_pos q, e]
        rfl
      · show FzAll K H ((if p.1 = k then (p.1, v) else p).2 :: _) (d :: ds')
        rw [if_pos q]
        exact .cons hd f
    · refine ⟨d0 :: ds', ?_, ?_⟩
      · show (if dKey (kD p.1) = some k then (kD p.1, d) else (kD p.1, d0)) :: (rows kvs ds).map _ = rows ((if p.1 = k then (p.1, v) else p) :: _) (d0 :: ds')
        rw [dKey_kD, if_neg (fun z => q (Option.some.inj z)), if_neg q, e]
        rfl
      · show FzAll K H ((if p.1 = k then (p.1, v) else p).2 :: _) (d0 :: ds')
        rw [if_neg q]
        exact .cons h f
theorem rows_app {ds : List D} : ∀ {kvs : List (Key × V)}, FzAll K H (kvs.map (·.2)) ds → rows kvs ds ++ [(kD k, d)] = rows (kvs ++ [(k, v)]) (ds ++ [d]) := fun {kvs} h => by
  unfold rows
  rw [List.map_append, List.zip_append]
  · rfl
  · have := h.length
    rw [List.length_map] at this
    rw [List.length_map]
    exact this
theorem rows_put (hd : Fz K H v d) {kvs : List (Key × V)} {ds : List D} (h : FzAll K H (kvs.map (·.2)) ds) : ∃ ds', dPutL (rows kvs ds) k d = rows (putK kvs k v) ds' ∧ FzAll K H ((putK kvs k v).map (·.2)) ds' := by
  unfold dPutL putK
  rw [rows_has h]
  by_cases q : (kvs.any fun kv => decide (kv.1 = k)) = true
  · rw [if_pos q, if_pos q]
    exact rows_map hd h
  · rw [if_neg q, if_neg q]
    refine ⟨ds ++ [d], rows_app h, ?_⟩
    rw [List.map_append]
    exact h.append (.cons hd .nil)
theorem rows_look {kvs : List (Key × V)} {ds : List D} (h : FzAll K H (kvs.map (·.2)) ds) : (valV kvs k = none ∧ dLook (rows kvs ds) k = none) ∨ ∃ v d, valV kvs k = some v ∧ dLook (rows kvs ds) k = some d ∧ Fz K H v d := look_ok k h
end
section
variable {g : Gh} {Hf H : Hp} {σ : St} {Γ : Ev} {fr : List (V × Va)}
theorem NewV.od {K : PySem.W.Frag} {p : Addr} {kvs : List (Key × V)} {ds : List D} (s : Same Hf H) (n : H p = none) (h : FzAll K Hf (kvs.map (·.2)) ds) : NewV K Hf H (upd H p (.dK kvs)) Hf (.ref p) (.d .z, .dict (rows kvs ds)) :=
  ⟨same_new n, Same.refl _, s.trans (same_new n), fun _ n => .inl n, [p], ⟨p, kvs, ds, [], rfl, rfl, upd_same, OwnL.of_zs h, rfl⟩, by simp, fun a ha => by rw [List.mem_singleton.mp ha]; exact ⟨n, Same.free s n⟩⟩
/-- the object at a slot's own address is another one -/
theorem StOk.mutH {i : Nat} {x x' : Va} {a : Addr} {u : HO} (h : StOk g Hf H σ Γ fr) (hi : Γ[i]? = some (some x)) (ha : σ[i]? = some (some (.ref a))) (hx : ∀ A, Own g.K Hf H x.1 (.ref a) x.2 A → a ∈ A) (hv : Own g.K Hf (upd H a u) x'.1 (.ref a) x'.2 [a]) :
    StOk g Hf (upd H a u) σ (Γ.set i (some x')) fr := by
  obtain ⟨ω, h⟩ := h
  obtain ⟨v, e, A, o, nd, hA⟩ := h.slots i _ hi
  rw [e] at ha
  cases ha
  have wa : ω a = some (.inl i) := hA a (hx A o)
  have ow := h.own a _ wa
  have k : ∀ b j, j ≠ Sum.inl i → ω b = some j → upd H a u b = H b := fun b j hj e => upd_ne (fun z => hj (by rw [z, wa] at e; exact (Option.some.inj e).symm))
  refine ⟨ω, fun b o e => ?_, fun b o e => ?_, h.old, h.new, fun b j e => ⟨(h.own b j e).1, (h.own b j e).2.1, ?_⟩, by rw [List.length_set]; exact h.len, fun j y e' => ?_, h.fr.mono (Same.refl _) fun b j _ e => ⟨k b (.inr j) (fun z => nomatch z) e, e⟩⟩
  · rw [upd_ne (ne_of_none e ow.1)]; exact h.base b o e
  · rw [upd_ne (ne_of_none e ow.2.1)]; exact h.sub b o e
  · by_cases z : b = a
    · subst z; rw [upd_same]; exact fun z => nomatch z
    · rw [upd_ne z]; exact (h.own b j e).2.2
  · by_cases hj : i = j
    · subst hj
      rw [List.getElem?_set_self (List.getElem?_eq_some_iff.mp hi).1] at e'
      cases e'
      exact ⟨.ref a, e, [a], hv, by simp, fun b hb => by rw [List.mem_singleton.mp hb]; exact wa⟩
    · rw [List.getElem?_set_ne hj] at e'
      obtain ⟨w, e2, q⟩ := h.slots j y e'
      exact ⟨w, e2, q.mono (Same.refl _) fun b e => ⟨k b _ (fun z => by cases z; exact hj rfl) e, e⟩⟩
/-- .. on the top of the frame -/
theorem StOk.mutTopH {x x' : Va} {a : Addr} {u : HO} (h : StOk g Hf H σ Γ ((.ref a, x) :: fr)) (hx : ∀ A, Own g.K Hf H x.1 (.ref a) x.2 A → a ∈ A) (hv : Own g.K Hf (upd H a u) x'.1 (.ref a) x'.2 [a]) : StOk g Hf (upd H a u) σ Γ ((.ref a, x') :: fr) := by
  obtain ⟨ω, h⟩ := h
  obtain ⟨⟨A, o, nd, hA⟩, hr⟩ := h.fr
  have wa : ω a = some (.inr fr.length) := hA a (hx A o)
  have ow := h.own a _ wa
  have k : ∀ b j, j ≠ Sum.inr fr.length → ω b = some j → upd H a u b = H b := fun b j hj e => upd_ne (fun z => hj (by rw [z, wa] at e; exact (Option.some.inj e).symm))
  refine ⟨ω, fun b o e => ?_, fun b o e => ?_, h.old, h.new, fun b j e => ⟨(h.own b j e).1, (h.own b j e).2.1, ?_⟩, h.len, fun j y e' => ?_, ⟨⟨[a], hv, by simp, fun b hb => by rw [List.mem_singleton.mp hb]; exact wa⟩, hr.mono (Same.refl _) fun b j hj e => ⟨k b (.inr j) (fun z => by cases z; exact absurd hj (Nat.lt_irrefl _)) e, e⟩⟩⟩
  · rw [upd_ne (ne_of_none e ow.1)]; exact h.base b o e
  · rw [upd_ne (ne_of_none e ow.2.1)]; exact h.sub b o e
  · by_cases z : b = a
    · subst z; rw [upd_same]; exact fun z => nomatch z
    · rw [upd_ne z]; exact (h.own b j e).2.2
  · obtain ⟨w, e2, q⟩ := h.slots j y e'
    exact ⟨w, e2, q.mono (Same.refl _) fun b e => ⟨k b (.inl j) (fun z => nomatch z) e, e⟩⟩
theorem own_d_mem {K : PySem.W.Frag} {s : Sh} {a : Addr} {d : D} {A : List Addr} (h : Own K Hf H (.d s) (.ref a) d A) : a ∈ A := by
  obtain ⟨a', kvs, ds, B, e1, e2, e3, r, e4⟩ := h
  cases e1
  rw [e4]
  exact List.mem_cons_self
theorem own_d_z {K : PySem.W.Frag} {a : Addr} {kvs : List (Key × V)} {ds : List D} (h : FzAll K Hf (kvs.map (·.2)) ds) : Own K Hf (upd H a (.dK kvs)) (.d .z) (.ref a) (.dict (rows kvs ds)) [a] := ⟨a, kvs, ds, [], rfl, rfl, upd_same, OwnL.of_zs h, rfl⟩
/-- the rows of a dict that a slot holds, owned or frozen -/
def dic (o : Option (Option Va)) : Option (List (D × D)) := match o with
  | some (some (.d .z, .dict rs)) => some rs
  | some (some (.z, .dict rs)) => if (rs.all fun p => (dKey p.1).isSome) = true then some rs else none
  | _ => none
theorem StOk.getDic {i : Nat} {rs : List (D × D)} (h : StOk g Hf H σ Γ fr) (hi : dic (Γ[i]?) = some rs) : ∃ a kvs ds, σ[i]? = some (some (.ref a)) ∧ H a = some (.dK kvs) ∧ FzAll g.K Hf (kvs.map (·.2)) ds ∧ rs = rows kvs ds := by
  unfold dic at hi
  split at hi
  · rename_i rs' hg
    cases hi
    obtain ⟨ω, h⟩ := h
    obtain ⟨v, e, A, o, _⟩ := h.slots i _ hg
    obtain ⟨a, kvs, ds, B, e1, e2, e3, r, e4⟩ := o
    subst e1
    cases e2
    exact ⟨a, kvs, ds, e, e3, r.zs.2, rfl⟩
  · rename_i rs' hg
    split at hi
    · rename_i hk
      cases hi
      obtain ⟨v, e, z⟩ := h.getZ hg
      obtain ⟨a, kvs, ds, rfl, ha, f, e2⟩ := fz_dict z hk
      have sub : Same Hf H := by
        obtain ⟨ω, h⟩ := h
        exact h.sub
      exact ⟨a, kvs, ds, e, sub _ _ ha, f, e2⟩
    · cases hi
  · cases hi
theorem StOk.getOd {i : Nat} {rs : List (D × D)} (h : StOk g Hf H σ Γ fr) (hi : Γ[i]? = some (some (.d .z, .dict rs))) : ∃ a kvs ds, σ[i]? = some (some (.ref a)) ∧ H a = some (.dK kvs) ∧ FzAll g.K Hf (kvs.map (·.2)) ds ∧ rs = rows kvs ds := h.getDic (by rw [hi]; rfl)
theorem StOk.mutD {i : Nat} {x : D} {a : Addr} {kvs : List (Key × V)} {ds : List D} (h : StOk g Hf H σ Γ fr) (hi : Γ[i]? = some (some (.d .z, x))) (ha : σ[i]? = some (some (.ref a))) (hv : FzAll g.K Hf (kvs.map (·.2)) ds) : StOk g Hf (upd H a (.dK kvs)) σ (Γ.set i (some (.d .z, .dict (rows kvs ds)))) fr :=
  h.mutH hi ha (fun _ o => own_d_mem o) (own_d_z hv)
end
theorem key_val {K : PySem.W.Frag} {H : Hp} {v : V} {d : D} {k : Key} (h : Fz K H v d) (e : dKey d = some k) : v = kV k ∧ d = kD k := by
  cases h <;> cases e <;> exact ⟨rfl, rfl⟩
/-! ### the terms -/
def vDct0 : Ev → Out Va := fun Γ => .ok (.d .z, .dict []) Γ
def fDIn (neg : Bool) (i : Nat) (fk : Ev → Out D) : Ev → Out D := fun Γ => (fk Γ).bind fun k Γ1 => .of ((dic (Γ1[i]?)).bind fun rs => (dKey k).map fun y => .bool (if neg then !(dLook rs y).isSome else (dLook rs y).isSome)) Γ1
def dicS (o : Option (Option Va)) (r : Out D) : Out D := match dic o with
  | some _ => r
  | none => .st
def fDAt (i : Nat) (fk : Ev → Out D) : Ev → Out D := fun Γ => dicS (Γ[i]?) <| (fk Γ).bind fun k Γ1 => .of ((dic (Γ1[i]?)).bind fun rs => (dKey k).bind fun y => dLook rs y) Γ1
def fDG1 (i : Nat) (fk : Ev → Out D) : Ev → Out D := fun Γ => dicS (Γ[i]?) <| (fk Γ).bind fun k Γ1 => .of ((dic (Γ1[i]?)).bind fun rs => (dKey k).map fun y => (dLook rs y).getD .none) Γ1
def fDG2 (i : Nat) (fk fx : Ev → Out D) : Ev → Out D := fun Γ => dicS (Γ[i]?) <| (fk Γ).bind fun k Γ1 => (fx Γ1).bind fun x Γ2 => .of ((dic (Γ2[i]?)).bind fun rs => (dKey k).map fun y => (dLook rs y).getD x) Γ2
def dputE (i : Nat) (d : D) (o : Option (Option Va)) (k : D) (Γ : Ev) : SO := match o with
  | some (some (.d .z, .dict rs)) => (match dKey k with | some y => if rs.length < 16777216 then .nx (Γ.set i (some (.d .z, .dict (dPutL rs y d)))) else .st | none => .st)
  | _ => .st
def dputS (o : Option (Option Va)) (r : SO) : SO := match o with
  | some (some (.d .z, .dict _)) => r
  | _ => .st
def sDPutI (i : Nat) (fv fk : Ev → Out D) : Ev → SO := fun Γ => sB (fv Γ) fun d Γ1 => dputS (Γ1[i]?) (sB (fk Γ1) fun k Γ2 => dputE i d (Γ2[i]?) k Γ2)
section
variable {X : Cx} {W : WX} {e f ix value : Expr} {x : Str} {p pos apos cpos tpos : Pos} {fk fx fv : Ev → Out D}
theorem pv_dct0 : PV X W (.Dict [] [] pos) vDct0 := ⟨fun f0 h0 => pe_dnewK.imp fun σ H Q ⟨Hf, Γ, fr, st, p⟩ a n =>
  p _ _ _ (Same.refl _) (st.pushN (NewV.od (kvs := []) (ds := []) st.sub n .nil))⟩
theorem pf_din_core {g : GW} {i : Nat} {fk : Ev → Out D} {σ : St} {H : Hp} {Q : VK} (h : tF g (fDIn false i fk) σ H Q) : tDIn (tF g fk) (tVar i) σ H Q := by
  obtain ⟨Hf, Γ, fr, st, p⟩ := h
  exact ⟨Hf, Γ, fr, st, Post.bind p fun k Γ1 _ w H1 Hf1 s1 ⟨st1, z1⟩ q => by
    obtain ⟨c, e, q'⟩ := Post.of q
    clear q
    cases hr : dic (Γ1[i]?) with
    | none => rw [hr] at e; cases e
    | some rs =>
      rw [hr] at e
      obtain ⟨a, kvs, ds, e1, e2, f1, rfl⟩ := st1.getDic hr
      cases hy : dKey k with
      | none => rw [Option.bind_some, hy] at e; cases e
      | some y =>
        rw [Option.bind_some, hy] at e
        cases e
        obtain ⟨rfl, rfl⟩ := key_val z1 hy
        refine ⟨.ref a, e1, a, valV kvs y, rfl, DGet.k e2, ?_⟩
        rcases rows_look (k := y) f1 with ⟨h1, h2⟩ | ⟨v', d', h1, h2, h3⟩
        · rw [h1]; dsimp only at q'; rw [h2] at q'
          exact q' _ H1 Hf1 (Same.refl _) ⟨st1, .bl _⟩
        · rw [h1]; dsimp only at q'; rw [h2] at q'
          exact q' _ H1 Hf1 (Same.refl _) ⟨st1, .bl _⟩⟩
theorem pf_din (i : Nat) (hu : X.A.units + 1 < cLine) (hk : PF X W e fk) (hm : behindInMarks .In (.Name x p) = false := by rfl)
    (hN : X.N[i]? = some x := by rfl) (hv : Vis X.env.scope x := by first | exact Or.inl rfl | exact Or.inr (Or.inl rfl) | exact Or.inr (Or.inr rfl)) (hd : (x == ("__debug__" : Str)) = false := by decide) (hcd : (x == ("__classdict__" : Str)) = false := by decide) :
    PF X W (.Compare e [.In] [.Name x p] pos) (fDIn false i fk) :=
  ⟨fun f0 h0 => (pe_cmp (pc_din hu (hk.run f0 h0) (pe_var hN hv hd hcd)) hm).imp fun σ H Q h => pf_din_core (g := gh X W f0 h0) h⟩
theorem pb_din (i : Nat) (hu : X.A.units + 1 < cLine) (hk : PF X W e fk) (hm : behindInMarks .In (.Name x p) = false := by rfl)
    (hN : X.N[i]? = some x := by rfl) (hv : Vis X.env.scope x := by first | exact Or.inl rfl | exact Or.inr (Or.inl rfl) | exact Or.inr (Or.inr rfl)) (hd : (x == ("__debug__" : Str)) = false := by decide) (hcd : (x == ("__classdict__" : Str)) = false := by decide) :
    PB X W (.Compare e [.In] [.Name x p] pos) (bF (fDIn false i fk)) :=
  ⟨fun f0 h0 => (pt_cmp (pc_din hu (hk.run f0 h0) (pe_var hN hv hd hcd)) hm).imp fun σ H Q h => tTestF (f := fDIn false i fk) (fun Q h => pf_din_core (g := gh X W f0 h0) h) h⟩
theorem pf_dnin_core {g : GW} {i : Nat} {fk : Ev → Out D} {σ : St} {H : Hp} {Q : VK} (h : tF g (fDIn true i fk) σ H Q) : tDNotIn (tF g fk) (tVar i) σ H Q := by
  obtain ⟨Hf, Γ, fr, st, p⟩ := h
  exact ⟨Hf, Γ, fr, st, Post.bind p fun k Γ1 _ w H1 Hf1 s1 ⟨st1, z1⟩ q => by
    obtain ⟨c, e, q'⟩ := Post.of q
    clear q
    cases hr : dic (Γ1[i]?) with
    | none => rw [hr] at e; cases e
    | some rs =>
      rw [hr] at e
      obtain ⟨a, kvs, ds, e1, e2, f1, rfl⟩ := st1.getDic hr
      cases hy : dKey k with
      | none => rw [Option.bind_some, hy] at e; cases e
      | some y =>
        rw [Option.bind_some, hy] at e
        cases e
        obtain ⟨rfl, rfl⟩ := key_val z1 hy
        refine ⟨.ref a, e1, a, valV kvs y, rfl, DGet.k e2, ?_⟩
        rcases rows_look (k := y) f1 with ⟨h1, h2⟩ | ⟨v', d', h1, h2, h3⟩
        · rw [h1]; dsimp only at q'; rw [h2] at q'
          exact q' _ H1 Hf1 (Same.refl _) ⟨st1, .bl _⟩
        · rw [h1]; dsimp only at q'; rw [h2] at q'
          exact q' _ H1 Hf1 (Same.refl _) ⟨st1, .bl _⟩⟩
theorem pf_dnin (i : Nat) (hu : X.A.units + 1 < cLine) (hk : PF X W e fk) (hm : behindInMarks .NotIn (.Name x p) = false := by rfl)
    (hN : X.N[i]? = some x := by rfl) (hv : Vis X.env.scope x := by first | exact Or.inl rfl | exact Or.inr (Or.inl rfl) | exact Or.inr (Or.inr rfl)) (hd : (x == ("__debug__" : Str)) = false := by decide) (hcd : (x == ("__classdict__" : Str)) = false := by decide) :
    PF X W (.Compare e [.NotIn] [.Name x p] pos) (fDIn true i fk) :=
  ⟨fun f0 h0 => (pe_cmp (pc_dnotin hu (hk.run f0 h0) (pe_var hN hv hd hcd)) hm).imp fun σ H Q h => pf_dnin_core (g := gh X W f0 h0) h⟩
theorem pb_dnin (i : Nat) (hu : X.A.units + 1 < cLine) (hk : PF X W e fk) (hm : behindInMarks .NotIn (.Name x p) = false := by rfl)
    (hN : X.N[i]? = some x := by rfl) (hv : Vis X.env.scope x := by first | exact Or.inl rfl | exact Or.inr (Or.inl rfl) | exact Or.inr (Or.inr rfl)) (hd : (x == ("__debug__" : Str)) = false := by decide) (hcd : (x == ("__classdict__" : Str)) = false := by decide) :
    PB X W (.Compare e [.NotIn] [.Name x p] pos) (bF (fDIn true i fk)) :=
  ⟨fun f0 h0 => (pt_cmp (pc_dnotin hu (hk.run f0 h0) (pe_var hN hv hd hcd)) hm).imp fun σ H Q h => tTestF (f := fDIn true i fk) (fun Q h => pf_dnin_core (g := gh X W f0 h0) h) h⟩
theorem dic_at {g : GW} {Hf H : Hp} {σ : St} {Γ : Ev} {fr : List (V × Va)} {i : Nat} {rs : List (D × D)} (st : StOk g.h Hf H σ Γ fr) (h : dic (Γ[i]?) = some rs) {k : D} {y : Key} {w : V} (hy : dKey k = some y) (z : Fz g.h.K Hf w k) : ∃ a o, σ[i]? = some (some (.ref a)) ∧ IsD H a ∧ DGet H a w o ∧ ((o = none ∧ dLook rs y = none) ∨ ∃ v d, o = some v ∧ dLook rs y = some d ∧ Fz g.h.K Hf v d) := by
  obtain ⟨a, kvs, ds, e1, e2, f1, rfl⟩ := st.getDic h
  obtain ⟨rfl, rfl⟩ := key_val z hy
  exact ⟨a, valV kvs y, e1, .inl ⟨kvs, .inl e2⟩, DGet.k e2, rows_look f1⟩
theorem pf_dat (i : Nat) (hu : X.A.units + 1 < cLine) (hk : PF X W e fk) (hs : NoSl e)
    (hN : X.N[i]? = some x := by rfl) (hv : Vis X.env.scope x := by first | exact Or.inl rfl | exact Or.inr (Or.inl rfl) | exact Or.inr (Or.inr rfl)) (hd : (x == ("__debug__" : Str)) = false := by decide) (hcd : (x == ("__classdict__" : Str)) = false := by decide) :
    PF X W (.Subscript (.Name x p) e pos) (fDAt i fk) :=
  ⟨fun f0 h0 => (pe_dget hu (pe_var hN hv hd hcd) (hk.run f0 h0) hs).imp fun σ H Q ⟨Hf, Γ, fr, st, p⟩ => by
    unfold fDAt dicS at p
    cases hr : dic (Γ[i]?) with
    | none => rw [hr] at p; exact p.elim
    | some rs0 =>
      rw [hr] at p
      obtain ⟨a, kvs, ds, e1, _⟩ := st.getDic hr
      refine ⟨.ref a, e1, Hf, Γ, fr, st, Post.bind p fun k Γ1 _ w H1 Hf1 s1 ⟨st1, z1⟩ q => ?_⟩
      obtain ⟨c, e, q'⟩ := Post.of q
      clear q
      cases hr1 : dic (Γ1[i]?) with
      | none => rw [hr1] at e; cases e
      | some rs =>
        rw [hr1, Option.bind_some] at e
        cases hy : dKey k with
        | none => rw [hy] at e; cases e
        | some y =>
          rw [hy, Option.bind_some] at e
          obtain ⟨a', o, e3, d, g, hh⟩ := dic_at (g := gh X W f0 h0) st1 hr1 hy z1
          rw [e1] at e3
          cases e3
          rcases hh with ⟨_, h2⟩ | ⟨v, d', rfl, h2, h3⟩
          · rw [h2] at e; cases e
          · rw [h2] at e
            cases e
            exact ⟨a, v, rfl, g, q' _ H1 Hf1 (Same.refl _) ⟨st1, h3⟩⟩⟩
theorem pf_dg1 (i : Nat) (hu : X.A.units + 1 < cLine) (hk : PF X W e fk) (m : M1 X (.Name x p) "get" apos e cpos)
    (hN : X.N[i]? = some x := by rfl) (hv : Vis X.env.scope x := by first | exact Or.inl rfl | exact Or.inr (Or.inl rfl) | exact Or.inr (Or.inr rfl)) (hd : (x == ("__debug__" : Str)) = false := by decide) (hcd : (x == ("__classdict__" : Str)) = false := by decide) :
    PF X W (.Call (.Attribute (.Name x p) "get" apos) [e] [] cpos) (fDG1 i fk) :=
  ⟨fun f0 h0 => (pe_dget1 hu (pe_var hN hv hd hcd) (hk.run f0 h0) m).imp fun σ H Q ⟨Hf, Γ, fr, st, p⟩ => by
    unfold fDG1 dicS at p
    cases hr : dic (Γ[i]?) with
    | none => rw [hr] at p; exact p.elim
    | some rs0 =>
      rw [hr] at p
      obtain ⟨a, kvs, ds, e1, e2, _⟩ := st.getDic hr
      refine ⟨.ref a, e1, a, rfl, .inl ⟨kvs, .inl e2⟩, Hf, Γ, fr, st, Post.bind p fun k Γ1 _ w H1 Hf1 s1 ⟨st1, z1⟩ q => ?_⟩
      obtain ⟨c, e, q'⟩ := Post.of q
      clear q
      cases hr1 : dic (Γ1[i]?) with
      | none => rw [hr1] at e; cases e
      | some rs =>
        rw [hr1, Option.bind_some] at e
        cases hy : dKey k with
        | none => rw [hy] at e; cases e
        | some y =>
          rw [hy, Option.map_some] at e
          cases e
          obtain ⟨a', o, e3, d, g, hh⟩ := dic_at (g := gh X W f0 h0) st1 hr1 hy z1
          rw [e1] at e3
          cases e3
          rcases hh with ⟨rfl, h2⟩ | ⟨v, d', rfl, h2, h3⟩
          · try dsimp only at q'
            rw [h2] at q'
            exact ⟨none, g, q' _ H1 Hf1 (Same.refl _) ⟨st1, .non⟩⟩
          · try dsimp only at q'
            rw [h2] at q'
            exact ⟨some v, g, q' _ H1 Hf1 (Same.refl _) ⟨st1, h3⟩⟩⟩
theorem pf_dg2 (i : Nat) (hu : X.A.units + 1 < cLine) (hk : PF X W e fk) (hx : PF X W f fx) (m : M2 X (.Name x p) "get" apos e f cpos)
    (hN : X.N[i]? = some x := by rfl) (hv : Vis X.env.scope x := by first | exact Or.inl rfl | exact Or.inr (Or.inl rfl) | exact Or.inr (Or.inr rfl)) (hd : (x == ("__debug__" : Str)) = false := by decide) (hcd : (x == ("__classdict__" : Str)) = false := by decide) :
    PF X W (.Call (.Attribute (.Name x p) "get" apos) [e, f] [] cpos) (fDG2 i fk fx) :=
  ⟨fun f0 h0 => (pe_dget2 hu (pe_var hN hv hd hcd) (hk.run f0 h0) (hx.run f0 h0) m).imp fun σ H Q ⟨Hf, Γ, fr, st, p⟩ => by
    unfold fDG2 dicS at p
    cases hr : dic (Γ[i]?) with
    | none => rw [hr] at p; exact p.elim
    | some rs0 =>
      rw [hr] at p
      obtain ⟨a, kvs, ds, e1, e2, _⟩ := st.getDic hr
      refine ⟨.ref a, e1, a, rfl, .inl ⟨kvs, .inl e2⟩, Hf, Γ, fr, st, Post.bind p fun k Γ1 _ w H1 Hf1 s1 ⟨st1, z1⟩ q => ⟨Hf1, Γ1, fr, st1, Post.bind q fun xd Γ2 _ u H2 Hf2 s2 ⟨st2, z2⟩ q2 => ?_⟩⟩
      obtain ⟨c, e, q'⟩ := Post.of q2
      clear q2 q
      cases hr1 : dic (Γ2[i]?) with
      | none => rw [hr1] at e; cases e
      | some rs =>
        rw [hr1, Option.bind_some] at e
        cases hy : dKey k with
        | none => rw [hy] at e; cases e
        | some y =>
          rw [hy, Option.map_some] at e
          cases e
          obtain ⟨a', o, e3, d, g, hh⟩ := dic_at (g := gh X W f0 h0) st2 hr1 hy (z1.mono s2)
          rw [e1] at e3
          cases e3
          rcases hh with ⟨rfl, h2⟩ | ⟨v, d', rfl, h2, h3⟩
          · try dsimp only at q'
            rw [h2] at q'
            exact ⟨none, g, q' _ H2 Hf2 (Same.refl _) ⟨st2, z2⟩⟩
          · try dsimp only at q'
            rw [h2] at q'
            exact ⟨some v, g, q' _ H2 Hf2 (Same.refl _) ⟨st2, h3⟩⟩⟩
theorem ps_dputI (i : Nat) (hu : X.A.units + 1 < cLine) (hv : PF X W value fv) (hk : PF X W ix fk)
    (hN : X.N[i]? = some x := by rfl) (hvis : Vis X.env.scope x := by first | exact Or.inl rfl | exact Or.inr (Or.inl rfl) | exact Or.inr (Or.inr rfl)) (hd : (x == ("__debug__" : Str)) = false := by decide) (hcd : (x == ("__classdict__" : Str)) = false := by decide)
    (hs : swapsWith value (some (.Subscript (.Name x p) ix tpos)) pos.line X.env = pure false := by rfl) :
    PSt X W (.Assign [.Subscript (.Name x p) ix tpos] value pos) (sDPutI i fv fk) :=
  ⟨fun f0 h0 => (ps_dput hu (pe_var hN hvis hd hcd) (hk.run f0 h0) (hv.run f0 h0) hs).imp fun D σ H ⟨Hf, Γ, fr, st, p⟩ => by
    refine ⟨Hf, Γ, fr, st, PostS.bind p fun d Γ1 _ v H1 Hf1 s1 ⟨st1, z1⟩ q => ?_⟩
    unfold dputS at q
    split at q
    · rename_i rs0 hΓ
      obtain ⟨a, kvs, ds, e1, e2, f1, _⟩ := st1.getOd hΓ
      refine ⟨.ref a, e1, Hf1, Γ1, fr, st1, PostS.bind q fun k Γ2 _ y H2 Hf2 s2 ⟨st2, z2⟩ q2 => ?_⟩
      unfold dputE at q2
      split at q2
      · rename_i rs hΓ2
        cases hy : dKey k with
        | none => rw [hy] at q2; exact q2.elim
        | some y' =>
          rw [hy] at q2
          dsimp only at q2
          split at q2
          · rename_i hlen
            obtain ⟨a', kvs2, ds2, e3, e4, f4, rfl⟩ := st2.getOd hΓ2
            rw [e1] at e3
            cases e3
            obtain ⟨rfl, rfl⟩ := key_val z2 hy
            obtain ⟨ds', e5, f5⟩ := rows_put (k := y') (z1.mono s2) f4
            rw [e5] at q2
            rw [rows_len f4] at hlen
            exact ⟨a, _, rfl, DPut.k e4 (by rw [sizeLine_eq]; exact hlen), q2 _ _ Hf2 (Same.refl _) (st2.mutD hΓ2 e1 f5)⟩
          · exact q2.elim
      · exact q2.elim
    · exact q.elim⟩
end
end PV
namespace PV
open PySem PySem.Spec PyProof.Rows L2
/-! ### {k: v} -/
def vDct1 (fk fv : Ev → Out D) : Ev → Out Va := fun Γ => (fk Γ).bind fun k Γ1 => (fv Γ1).bind fun d Γ2 => .of ((dKey k).map fun _ => ((.d .z, PyData.dict [(k, d)]) : Va)) Γ2
section
variable {g : GW} {σ : St} {fr : List (V × Va)} {q : V × Va}
theorem PEx.push {Hf : Hp} {e : Exc} {Γ : Ev} (h : PEx g Hf σ fr e Γ) : PEx g Hf σ (q :: fr) e Γ := fun cls dx H' Hf' s xo st => h cls dx H' Hf' s xo st.pop
end
section
variable {X : Cx} {W : WX} {pos : Pos}
theorem pv_dct1 {ek ev : Expr} {fk fv : Ev → Out D} (hk : PF X W ek fk) (hv : PF X W ev fv) : PV X W (.Dict [some ek] [ev] pos) (vDct1 fk fv) :=
  ⟨fun f0 h0 => (pe_disp (pps_cons (hk.run f0 h0) (hv.run f0 h0) pps_nil) rfl rfl (fun h => nomatch h) (show (1 : Nat) ≤ 15 by decide)).imp fun σ H Q ⟨Hf, Γ, fr, st, p⟩ a n => by
    have st1 := st.pushN (NewV.od (K := X.K) (kvs := []) (ds := []) st.sub n .nil)
    unfold vDct1 at p
    refine ⟨Hf, Γ, (.ref a, (.d .z, .dict (rows [] []))) :: fr, st1, ?_⟩
    cases h1 : fk Γ with
    | st => rw [h1] at p; exact p.elim
    | ex e Γ1 => rw [h1] at p; exact PEx.push (show PEx _ Hf σ fr e Γ1 from p)
    | ok k Γ1 =>
      rw [h1] at p
      intro x H1 Hf1 s1 ⟨st2, z2⟩
      refine ⟨Hf1, Γ1, _, st2, ?_⟩
      have p := Post.mono p s1
      cases h2 : fv Γ1 with
      | st => dsimp only [Out.bind] at p; rw [h2] at p; exact p.elim
      | ex e Γ2 => dsimp only [Out.bind] at p; rw [h2] at p; exact PEx.push (show PEx _ Hf1 σ fr e Γ2 from p)
      | ok d Γ2 =>
        dsimp only [Out.bind] at p
        rw [h2] at p
        intro y H2 Hf2 s2 ⟨st3, z3⟩
        have p := Post.mono p s2
        dsimp only at p
        obtain ⟨c, e, p⟩ := Post.of p
        cases hy : dKey k with
        | none => rw [hy] at e; cases e
        | some kk =>
          rw [hy] at e
          cases e
          obtain ⟨rfl, rfl⟩ := key_val z2 hy
          obtain ⟨ω, w⟩ := id st3
          obtain ⟨⟨A, ⟨a', kvs, ds, B, e1, e2, e3, r, e4⟩, nd, hA⟩, hr⟩ := w.fr
          cases e1
          have hk0 : kvs = [] := by
            cases kvs with
            | nil => rfl
            | cons kv kvs =>
              cases r with
              | cons _ _ => cases e2
          subst hk0
          have hf : FzAll X.K Hf2 (([(kk, y)] : List (Key × V)).map (·.2)) [d] := .cons z3 .nil
          exact ⟨e3, [(kk, y)], rfl, (show (1 : Nat) ≤ 15 by decide), p _ _ Hf2 (Same.refl _) (st3.mutTopH (fun _ o => own_d_mem o) (own_d_z hf))⟩⟩
end
/-! ### comprehensions with two clauses -/
def compL2 (is : List Nat) (t : D → Ev → Option Ev) (c : Ev → Out Bool) (f1 : Ev → Out (List D)) (is1 : List Nat) (t1 : D → Ev → Option Ev) (c1 : Ev → Out Bool) (fe : Ev → Out D) : List D → Ev → Option (List D × Ev)
  | [], Γ => some ([], Γ)
  | d :: ds, Γ => match t d Γ with
    | none => none
    | some Γ1 => match c Γ1 with
      | .ok true Γ2 => (match f1 Γ2 with
        | .ok ds1 Γ3 => (match compL is1 t1 c1 fe ds1 (wipeG Γ3 is1) with
          | some (es, Γ4) => (compL2 is t c f1 is1 t1 c1 fe ds (wipeG Γ4 is)).map fun p => (es ++ p.1, p.2)
          | none => none)
        | _ => none)
      | .ok false Γ2 => compL2 is t c f1 is1 t1 c1 fe ds (wipeG Γ2 is)
      | _ => none
def vComp2 (is : List Nat) (f : Ev → Out (List D)) (t : D → Ev → Option Ev) (c : Ev → Out Bool) (f1 : Ev → Out (List D)) (is1 : List Nat) (t1 : D → Ev → Option Ev) (c1 : Ev → Out Bool) (fe : Ev → Out D) : Ev → Out Va := fun Γ => (f Γ).bind fun ds Γ1 =>
    (match compL2 is t c f1 is1 t1 c1 fe ds (wipeG Γ1 is) with | some (es, Γ2) => if es.length ≤ 16777216 then .ok (.l .z, .list es) (restG Γ1 Γ2 is) else .st | none => .st)
/-- the names of a block wiped twice -/
theorem wipe_twice {σ : St} {is : List Nat} : ∀ js : List Nat, (∀ j ∈ js, j ∈ is) → wipe (wipe σ is) js = wipe σ is
  | [], _ => rfl
  | j :: js, hj => by
    show (wipe (wipe σ is) js).set j none = wipe σ is
    rw [wipe_twice js fun k hk => hj k (List.mem_cons_of_mem _ hk)]
    have hj' := hj j List.mem_cons_self
    apply List.ext_getElem?
    intro k
    by_cases e : j = k
    · subst e
      rw [List.getElem?_set]
      have : ∀ {l : List Nat}, j ∈ l → ∀ {τ : St}, (wipe τ l)[j]? = if j < τ.length then some none else none := fun {l} hl {τ} => by
        induction l with
        | nil => cases hl
        | cons b l ih2 =>
          show ((wipe τ l).set b none)[j]? = _
          by_cases e2 : b = j
          · subst e2
            rw [List.getElem?_set]
            simp [wipe_length]
          · rw [List.getElem?_set_ne e2]
            exact ih2 ((List.mem_cons.mp hl).resolve_left (fun z => e2 z.symm))
      rw [this hj' (τ := σ)]
      simp [wipe_length]
    · rw [List.getElem?_set_ne e]
/-- the loop of the second clause -/
theorem comp_in {g : GW} {is1 : List Nat} {t1 : D → Ev → Option Ev} {c1 : Ev → Out Bool} {fe : Ev → Out D} {σ2 : St} {H4 Hf4 : Hp} {J1 : It} {ds1 es : List D} {Γ3 Γ4 : Ev} {fr : List (V × Va)} {a : Addr} {acc0 : List D} {Nx : Hp → Prop}
    (it : ItOk g.h.K Hf4 J1 ds1) (st : StOk g.h Hf4 H4 (wipe σ2 is1) Γ3 ((.ref a, (.l .z, .list acc0)) :: fr)) (hn : ∀ j ∈ is1, ∀ x, Γ3[j]? ≠ some (some x)) (hcl : compL is1 t1 c1 fe ds1 Γ3 = some (es, Γ4)) (hlen : acc0.length + es.length ≤ 16777216)
    (q : ∀ H' Hf', Same Hf4 Hf' → StOk g.h Hf' H' (wipe σ2 is1) Γ4 ((.ref a, (.l .z, .list (acc0 ++ es))) :: fr) → Nx H') :
    ∃ W1 : Nat → Nat → Hp → Prop, (∃ m, W1 0 m H4) ∧ ∀ j k H, W1 j k H →
      (J1.stop j H ∧ Nx H) ∨ (J1.go j H ∧ ∃ Nx1 : Hp → Prop, (∀ H', Nx1 H' → ∃ k', k' < k ∧ W1 (j + 1) k' H') ∧ ∀ x H', J1.yld j H x H' → tG g is1 t1 x (wipe σ2 is1) H' fun σ3 H5 => wipe σ3 is1 = wipe σ2 is1 ∧ tT ⟨g.h, g.mg, W0⟩ c1 σ3 H5 fun b H6 =>
        if b = true then tF ⟨g.h, g.mg, W0⟩ fe σ3 H6 fun y H7 => ∃ acc, H7 a = some (.lst acc) ∧ acc.length < sizeLine ∧ Nx1 (upd H7 a (.lst (acc ++ [y]))) else Nx1 H6) := by
  refine ⟨fun i m H => m = ds1.length - i ∧ i ≤ ds1.length ∧ ∃ Hf2 Γ5 acc es', Same Hf4 Hf2 ∧ StOk g.h Hf2 H (wipe σ2 is1) Γ5 ((.ref a, (.l .z, .list acc)) :: fr) ∧ (∀ j ∈ is1, ∀ x, Γ5[j]? ≠ some (some x)) ∧
    compL is1 t1 c1 fe (ds1.drop i) Γ5 = some (es', Γ4) ∧ acc ++ es' = acc0 ++ es, ⟨_, rfl, Nat.zero_le _, Hf4, Γ3, acc0, es, Same.refl _, st, hn, hcl, rfl⟩, ?_⟩
  rintro i m H2 ⟨rfl, hi, Hf2, Γ5, acc, es', s2, st2, hn2, hcl2, hes⟩
  obtain ⟨g1, g2⟩ := it i Hf2 H2 s2 st2.sub
  cases h : ds1[i]? with
  | none =>
    rw [List.drop_eq_nil_of_le (List.getElem?_eq_none_iff.mp h)] at hcl2
    have hcl' : ([], Γ5) = (es', Γ4) := Option.some.inj hcl2
    cases hcl'
    rw [List.append_nil] at hes
    subst hes
    exact .inl ⟨g2 h, q H2 Hf2 s2 st2⟩
  | some d =>
    obtain ⟨go, yl⟩ := g1 d h
    have hlt := (List.getElem?_eq_some_iff.mp h).1
    have ed : ds1.drop i = d :: ds1.drop (i + 1) := by
      rw [List.drop_eq_getElem_cons hlt]
      rw [List.getElem?_eq_getElem hlt] at h
      rw [Option.some.inj h]
    rw [ed] at hcl2
    refine .inr ⟨go, fun H' => (i + 1 ≤ ds1.length ∧ ∃ Hf2 Γ5 acc' es'', Same Hf4 Hf2 ∧ StOk g.h Hf2 H' (wipe σ2 is1) Γ5 ((.ref a, (.l .z, .list acc')) :: fr) ∧ (∀ j ∈ is1, ∀ x, Γ5[j]? ≠ some (some x)) ∧
      compL is1 t1 c1 fe (ds1.drop (i + 1)) Γ5 = some (es'', Γ4) ∧ acc' ++ es'' = acc0 ++ es), fun H' n => ⟨ds1.length - (i + 1), by omega, rfl, n⟩, fun x H' y => ?_⟩
    obtain ⟨Hf3, a1, a2, a3, a4, z⟩ := yl x H' y
    have st3 := st2.freeze a1 a2 a3 a4
    unfold compL at hcl2
    cases ht : t1 d Γ5 with
    | none => rw [ht] at hcl2; cases hcl2
    | some Γ6 =>
      rw [ht] at hcl2
      dsimp only at hcl2
      refine ⟨Hf3, Γ5, _, d, st3, z, Γ6, ht, fun σ5 H5 Hf5 s5 st5 w5 => ?_⟩
      have w5' : wipe σ5 is1 = wipe σ2 is1 := by rw [w5]; exact wipe_twice is1 fun j hj => hj
      refine ⟨w5', Hf5, Γ6, _, st5, ?_⟩
      have sA : Same Hf4 Hf5 := (s2.trans a2).trans s5
      cases hcc : c1 Γ6 with
      | ex e Γ7 => rw [hcc] at hcl2; cases hcl2
      | st => rw [hcc] at hcl2; cases hcl2
      | ok k Γ7 =>
        rw [hcc] at hcl2
        intro k' H6 Hf6 s6 ⟨st6, ek⟩
        subst ek
        cases k' with
        | false =>
          dsimp only at hcl2
          rw [if_neg Bool.false_ne_true]
          exact ⟨hlt, Hf6, _, acc, es', sA.trans s6, st6.back w5', wipeG_none, hcl2, hes⟩
        | true =>
          dsimp only at hcl2
          rw [if_pos rfl]
          refine ⟨Hf6, Γ7, _, st6, ?_⟩
          cases he : fe Γ7 with
          | ex e Γ8 => rw [he] at hcl2; cases hcl2
          | st => rw [he] at hcl2; cases hcl2
          | ok e Γ8 =>
            rw [he] at hcl2
            dsimp only at hcl2
            intro v H7 Hf7 s7 ⟨st7, z7⟩
            obtain ⟨vs, e8, f8⟩ := st7.topL
            cases hr : compL is1 t1 c1 fe (ds1.drop (i + 1)) (wipeG Γ8 is1) with
            | none => rw [hr] at hcl2; cases hcl2
            | some r =>
              obtain ⟨es2, Γ9⟩ := r
              rw [hr] at hcl2
              cases hcl2
              have hl : acc.length + (es2.length + 1) = acc0.length + es.length := by
                have := congrArg List.length hes
                rw [List.length_append, List.length_append, List.length_cons] at this
                exact this
              refine ⟨vs, e8, ?_, hlt, Hf7, _, acc ++ [e], es2, (sA.trans s6).trans s7, (st7.mutTop (f8.append (.cons z7 .nil))).back w5', wipeG_none, hr, ?_⟩
              · rw [f8.length, sizeLine_eq]; omega
              · rw [List.append_assoc]; exact hes
theorem wipe_get {l : List Nat} {τ : St} {j : Nat} : (wipe τ l)[j]? = if j ∈ l then (if j < τ.length then some none else none) else τ[j]? := by
  by_cases h : j ∈ l
  · rw [if_pos h]
    induction l with
    | nil => cases h
    | cons b l ih =>
      show ((wipe τ l).set b none)[j]? = _
      by_cases e : b = j
      · subst e
        rw [List.getElem?_set]
        simp [wipe_length]
      · rw [List.getElem?_set_ne e]
        exact ih ((List.mem_cons.mp h).resolve_left (fun z => e z.symm))
  · rw [if_neg h]
    exact wipe_out h
theorem wipe_in {σ : St} {is1 is : List Nat} (hv : ∀ i ∈ is1, i ∈ is) : wipe (wipe σ is1) is = wipe σ is := by
  apply List.ext_getElem?
  intro j
  have e1 : (wipe (wipe σ is1) is)[j]? = if j ∈ is then (if j < (wipe σ is1).length then some none else none) else (wipe σ is1)[j]? := wipe_get
  have e2 : (wipe σ is)[j]? = if j ∈ is then (if j < σ.length then some none else none) else σ[j]? := wipe_get
  have e3 : (wipe σ is1)[j]? = if j ∈ is1 then (if j < σ.length then some none else none) else σ[j]? := wipe_get
  rw [e1, e2, wipe_length]
  by_cases h : j ∈ is
  · rw [if_pos h, if_pos h]
  · rw [if_neg h, if_neg h, e3, if_neg fun z => h (hv j z)]
section
variable {X : Cx} {W : WX}
theorem comp2_core {g : GW} {is is1 : List Nat} {f f1 : Ev → Out (List D)} {t t1 : D → Ev → Option Ev} {c c1 : Ev → Out Bool} {fe : Ev → Out D} {σ : St} {H : Hp} {Q : VK} (hv : ∀ i ∈ is1, i ∈ is) (h : tV g (vComp2 is f t c f1 is1 t1 c1 fe) σ H Q) :
    tLc2 (tI g f) (tG g is t) (tT ⟨g.h, g.mg, W0⟩ c) (tI ⟨g.h, g.mg, W0⟩ f1) (tG g is1 t1) (tT ⟨g.h, g.mg, W0⟩ c1) (tF ⟨g.h, g.mg, W0⟩ fe) is is1 σ H Q := by
  obtain ⟨Hf, Γ, fr, st, p⟩ := h
  refine ⟨Hf, Γ, fr, st, Post.bind p fun ds Γ1 _ J H1 Hf1 s1 ⟨st1, it⟩ q => ?_⟩
  cases hc : compL2 is t c f1 is1 t1 c1 fe ds (wipeG Γ1 is) with
  | none => rw [hc] at q; exact q.elim
  | some r =>
    obtain ⟨es, Γ2⟩ := r
    rw [hc] at q
    dsimp only at q
    split at q
    · rename_i lenOk
      intro a na
      have stD : StOk g.h Hf1 (upd H1 a (.lst [])) (wipe σ is) (wipeG Γ1 is) ((.ref a, (.l .z, .list [])) :: fr) := ((st1.pushN (NewV.lst st1.sub na .nil)).wipe is)
      refine ⟨fun i m H => m = ds.length - i ∧ i ≤ ds.length ∧ ∃ Hf2 Γ3 acc es', Same Hf1 Hf2 ∧ StOk g.h Hf2 H (wipe σ is) Γ3 ((.ref a, (.l .z, .list acc)) :: fr) ∧ (∀ j ∈ is, ∀ x, Γ3[j]? ≠ some (some x)) ∧
        compL2 is t c f1 is1 t1 c1 fe (ds.drop i) Γ3 = some (es', Γ2) ∧ acc ++ es' = es, ⟨_, rfl, Nat.zero_le _, Hf1, _, [], es, Same.refl _, stD, wipeG_none, hc, rfl⟩, ?_⟩
      rintro i m H2 ⟨rfl, hi, Hf2, Γ3, acc, es', s2, st2, hn, hcl, hes⟩
      obtain ⟨g1, g2⟩ := it i Hf2 H2 s2 st2.sub
      cases h : ds[i]? with
      | none =>
        rw [List.drop_eq_nil_of_le (List.getElem?_eq_none_iff.mp h)] at hcl
        have hcl' : ([], Γ3) = (es', Γ2) := Option.some.inj hcl
        cases hcl'
        rw [List.append_nil] at hes
        subst hes
        exact .inl ⟨g2 h, q _ H2 Hf2 s2 (StOk.rest st1 s2 st2 hn is)⟩
      | some d =>
        obtain ⟨go, yl⟩ := g1 d h
        have hlt := (List.getElem?_eq_some_iff.mp h).1
        have ed : ds.drop i = d :: ds.drop (i + 1) := by
          rw [List.drop_eq_getElem_cons hlt]
          rw [List.getElem?_eq_getElem hlt] at h
          rw [Option.some.inj h]
        rw [ed] at hcl
        refine .inr ⟨go, fun H' => (i + 1 ≤ ds.length ∧ ∃ Hf2 Γ3 acc' es'', Same Hf1 Hf2 ∧ StOk g.h Hf2 H' (wipe σ is) Γ3 ((.ref a, (.l .z, .list acc')) :: fr) ∧ (∀ j ∈ is, ∀ x, Γ3[j]? ≠ some (some x)) ∧
          compL2 is t c f1 is1 t1 c1 fe (ds.drop (i + 1)) Γ3 = some (es'', Γ2) ∧ acc' ++ es'' = es), fun H' n => ⟨ds.length - (i + 1), by omega, rfl, n⟩, fun x H' y => ?_⟩
        obtain ⟨Hf3, a1, a2, a3, a4, z⟩ := yl x H' y
        have st3 := st2.freeze a1 a2 a3 a4
        unfold compL2 at hcl
        cases ht : t d Γ3 with
        | none => rw [ht] at hcl; cases hcl
        | some Γ4 =>
          rw [ht] at hcl
          dsimp only at hcl
          refine ⟨Hf3, Γ3, _, d, st3, z, Γ4, ht, fun σ5 H5 Hf5 s5 st5 w5 => ?_⟩
          have w5' : wipe σ5 is = wipe σ is := by rw [w5]; exact wipe_twice is fun j hj => hj
          refine ⟨w5', Hf5, Γ4, _, st5, ?_⟩
          have sA : Same Hf1 Hf5 := (s2.trans a2).trans s5
          cases hcc : c Γ4 with
          | ex e Γ5 => rw [hcc] at hcl; cases hcl
          | st => rw [hcc] at hcl; cases hcl
          | ok k Γ5 =>
            rw [hcc] at hcl
            intro k' H6 Hf6 s6 ⟨st6, ek⟩
            subst ek
            cases k' with
            | false =>
              dsimp only at hcl
              rw [if_neg Bool.false_ne_true]
              exact ⟨hlt, Hf6, _, acc, es', sA.trans s6, st6.back w5', wipeG_none, hcl, hes⟩
            | true =>
              dsimp only at hcl
              rw [if_pos rfl]
              refine ⟨Hf6, Γ5, _, st6, ?_⟩
              cases he : f1 Γ5 with
              | ex e Γ6 => rw [he] at hcl; cases hcl
              | st => rw [he] at hcl; cases hcl
              | ok ds1 Γ6 =>
                rw [he] at hcl
                dsimp only at hcl
                intro J1 H7 Hf7 s7 ⟨st7, it7⟩
                cases hr1 : compL is1 t1 c1 fe ds1 (wipeG Γ6 is1) with
                | none => rw [hr1] at hcl; cases hcl
                | some r1 =>
                  obtain ⟨es1, Γ7⟩ := r1
                  rw [hr1] at hcl
                  dsimp only at hcl
                  cases hr : compL2 is t c f1 is1 t1 c1 fe (ds.drop (i + 1)) (wipeG Γ7 is) with
                  | none => rw [hr] at hcl; cases hcl
                  | some r =>
                    obtain ⟨es2, Γ8⟩ := r
                    rw [hr] at hcl
                    cases hcl
                    have hl : acc.length + (es1.length + es2.length) = es.length := by
                      have := congrArg List.length hes
                      rw [List.length_append, List.length_append] at this
                      exact this
                    refine comp_in (g := g) it7 (st7.wipe is1) wipeG_none hr1 (by omega) fun H8 Hf8 s8 st8 => ?_
                    refine ⟨hlt, Hf8, wipeG Γ7 is, acc ++ es1, es2, ((sA.trans s6).trans s7).trans s8, ?_, wipeG_none, hr, by rw [List.append_assoc]; exact hes⟩
                    exact st8.back (by rw [wipe_in hv]; exact w5')
    · exact q.elim
theorem pv_lc2 {elt tg iter tg1 iter1 : Expr} {ifs ifs1 : List Expr} {scope : Scope} {own : List (Str × Nat)} {is1 : List Nat} {pos : Pos} {f f1 : Ev → Out (List D)} {t t1 : D → Ev → Option Ev} {c c1 : Ev → Out Bool} {fe : Ev → Out D} (hc : X.calm = true) (hN : X.N.Nodup) (ok : BlkOk X.N X.env.scope scope own) (hi : PIt X W tg iter f) (hv : ∀ i ∈ is1, i ∈ own.map (·.2))
    (hg : ∀ (s : Shared) (H : L2.Hp) (C : Addr) (cl : List (Str × Addr)) (fp : List Addr), PGt (X.blk s H scope (compEnvC scope cl C X.env) fp) tg (own.map (·.2)) t)
    (ht : ∀ (s : Shared) (H : L2.Hp) (C : Addr) (cl : List (Str × Addr)) (fp : List Addr), PBs (X.blk s H scope (compEnvC scope cl C X.env) fp) W0 ifs c)
    (hi1 : ∀ (s : Shared) (H : L2.Hp) (C : Addr) (cl : List (Str × Addr)) (fp : List Addr), PIt (X.blk s H scope (compEnvC scope cl C X.env) fp) W0 tg1 iter1 f1)
    (hg1 : ∀ (s : Shared) (H : L2.Hp) (C : Addr) (cl : List (Str × Addr)) (fp : List Addr), PGt (X.blk s H scope (compEnvC scope cl C X.env) fp) tg1 is1 t1)
    (ht1 : ∀ (s : Shared) (H : L2.Hp) (C : Addr) (cl : List (Str × Addr)) (fp : List Addr), PBs (X.blk s H scope (compEnvC scope cl C X.env) fp) W0 ifs1 c1)
    (he : ∀ (s : Shared) (H : L2.Hp) (C : Addr) (cl : List (Str × Addr)) (fp : List Addr), PF (X.blk s H scope (compEnvC scope cl C X.env) fp) W0 elt fe) (hs : ∀ x, foldedSetIterable iter X.env x = pure x := by intro _; rfl) (hs1 : ∀ env x, foldedSetIterable iter1 env x = pure x := by intro _ _; rfl) :
    PV X W (.ListComp elt [⟨tg, iter, ifs, 0⟩, ⟨tg1, iter1, ifs1, 0⟩] scope pos) (vComp2 (own.map (·.2)) f t c f1 is1 t1 c1 fe) :=
  ⟨fun f0 h0 => (pe_lc2 hc hN (hi.run f0 h0) ok hv (fun s H C cl fp => (hg s H C cl fp).run (gh X W f0 h0) rfl) (fun s H C cl fp => (ht s H C cl fp).run f0 h0) (fun s H C cl fp => (hi1 s H C cl fp).run f0 h0) (fun s H C cl fp => (hg1 s H C cl fp).run (gh X W f0 h0) rfl) (fun s H C cl fp => (ht1 s H C cl fp).run f0 h0) (fun s H C cl fp => (he s H C cl fp).run f0 h0) hs hs1).imp fun σ H Q h => comp2_core (g := gh X W f0 h0) hv h⟩
theorem ps_lc2 (i : Nat) {y : Str} {py : Pos} {elt tg iter tg1 iter1 : Expr} {ifs ifs1 : List Expr} {scope : Scope} {own : List (Str × Nat)} {is1 : List Nat} {pos spos : Pos} {f f1 : Ev → Out (List D)} {t t1 : D → Ev → Option Ev} {c c1 : Ev → Out Bool} {fe : Ev → Out D} (hc : X.calm = true) (hN : X.N.Nodup) (ok : BlkOk X.N X.env.scope scope own)
    (hy : X.N[i]? = some y) (hyl : X.env.scope.names.lookup y = some .local) (hsw : swapsWith (.ListComp elt [⟨tg, iter, ifs, 0⟩, ⟨tg1, iter1, ifs1, 0⟩] scope pos) (some (.Name y py)) spos.line X.env = pure true) (hi : PIt X W tg iter f) (hv : ∀ i ∈ is1, i ∈ own.map (·.2))
    (hg : ∀ (s : Shared) (H : L2.Hp) (C : Addr) (cl : List (Str × Addr)) (fp : List Addr), PGt (X.blk s H scope (compEnvC scope cl C X.env) fp) tg (own.map (·.2)) t)
    (ht : ∀ (s : Shared) (H : L2.Hp) (C : Addr) (cl : List (Str × Addr)) (fp : List Addr), PBs (X.blk s H scope (compEnvC scope cl C X.env) fp) W0 ifs c)
    (hi1 : ∀ (s : Shared) (H : L2.Hp) (C : Addr) (cl : List (Str × Addr)) (fp : List Addr), PIt (X.blk s H scope (compEnvC scope cl C X.env) fp) W0 tg1 iter1 f1)
    (hg1 : ∀ (s : Shared) (H : L2.Hp) (C : Addr) (cl : List (Str × Addr)) (fp : List Addr), PGt (X.blk s H scope (compEnvC scope cl C X.env) fp) tg1 is1 t1)
    (ht1 : ∀ (s : Shared) (H : L2.Hp) (C : Addr) (cl : List (Str × Addr)) (fp : List Addr), PBs (X.blk s H scope (compEnvC scope cl C X.env) fp) W0 ifs1 c1)
    (he : ∀ (s : Shared) (H : L2.Hp) (C : Addr) (cl : List (Str × Addr)) (fp : List Addr), PF (X.blk s H scope (compEnvC scope cl C X.env) fp) W0 elt fe) (hs : ∀ x, foldedSetIterable iter X.env x = pure x := by intro _; rfl) (hs1 : ∀ env x, foldedSetIterable iter1 env x = pure x := by intro _ _; rfl) :
    PSt X W (.Assign [.Name y py] (.ListComp elt [⟨tg, iter, ifs, 0⟩, ⟨tg1, iter1, ifs1, 0⟩] scope pos) spos) (sAsg i (vComp2 (own.map (·.2)) f t c f1 is1 t1 c1 fe)) :=
  ⟨fun f0 h0 => (ps_setLc2 hc hN hy hyl hsw (hi.run f0 h0) ok hv (fun s H C cl fp => (hg s H C cl fp).run (gh X W f0 h0) rfl) (fun s H C cl fp => (ht s H C cl fp).run f0 h0) (fun s H C cl fp => (hi1 s H C cl fp).run f0 h0) (fun s H C cl fp => (hg1 s H C cl fp).run (gh X W f0 h0) rfl) (fun s H C cl fp => (ht1 s H C cl fp).run f0 h0) (fun s H C cl fp => (he s H C cl fp).run f0 h0) hs hs1).imp fun D σ H ⟨Hf, Γ, fr, st, p⟩ =>
    comp2_core (g := gh X W f0 h0) hv ⟨Hf, Γ, fr, st, PostS.bind p fun x Γ1 _ v H1 Hf1 s1 st1 q => q _ H1 Hf1 (Same.refl _) (st1.store i)⟩⟩
end
/-! ### try .. except C as e -/
theorem raw_inv {K : PySem.W.Frag} {H : Hp} {v : V} {a : Addr} (h : Fz K H v (.dict [(.none, .int ((a : Nat) : Int))])) : v = .ref a := by
  generalize hd : PyData.dict [(PyData.none, PyData.int ((a : Nat) : Int))] = d at h
  cases h with
  | raw a' =>
    unfold rawD at hd
    have e := PyData.dict.inj hd
    have e2 := congrArg (fun l : List (D × D) => match l with | [(_, .int n)] => n | _ => 0) e
    have e3 : ((a : Nat) : Int) = ((a' : Nat) : Int) := e2
    exact congrArg V.ref (Int.ofNat.inj e3).symm
  | scr ns h =>
    have e := PyData.dict.inj hd
    have e2 := congrArg (fun l : List (D × D) => match l with | [(_, .int _)] => true | _ => false) e
    cases e2
  | @dK a0 kvs ds h r =>
    have e := PyData.dict.inj hd
    exfalso
    cases kvs with
    | nil => cases e
    | cons kv kvs =>
      cases r with
      | cons _ _ =>
        have e2 := congrArg (fun l : List (D × D) => match l with | (.none, _) :: _ => true | _ => false) e
        obtain ⟨k, w⟩ := kv
        cases k <;> cases e2
  | _ => cases hd
def sClr (i : Nat) (r : SO) : SO := match r with
  | .nx Γ => .nx (Γ.set i none)
  | .rt x Γ => .rt x (Γ.set i none)
  | .bk Γ => .bk (Γ.set i none)
  | .ct Γ => .ct (Γ.set i none)
  | .ex _ _ => .st
  | .st => .st
def tryA (m : Str → Option Bool) (i : Nat) (fs : Addr → Exc → Ev → SO) (r : SO) : SO := match r with
  | .ex e Γ1 => (match m e.c with
    | some true => if e.fs.isEmpty = true then sClr i (fs 0 e (Γ1.set i (some (.z, rawD 0)))) else .st
    | some false => .ex e Γ1
    | none => .st)
  | r => r
def sTryA (m : Str → Option Bool) (i : Nat) (fb : Ev → SO) (fs : Addr → Exc → Ev → SO) : Ev → SO := fun Γ => tryA m i fs (fb Γ)
def rawS (a : Addr) (o : Option (Option Va)) (r : Out D) : Out D := match o with
  | some (some (.z, .dict [(.none, .int n)])) => if n = (a : Nat) then r else .st
  | _ => .st
/-- isinstance(e, C), e the caught exception -/
def fIsX (i : Nat) (isx : Str → Option Bool) (a : Addr) (e : Exc) : Ev → Out D := fun Γ => rawS a (Γ[i]?) (match isx e.c with | some b => .ok (.bool b) Γ | none => .st)
section
variable {g : GW} {D : Ends} {fr : List (V × Va)} {Hf H : Hp} {σ : St} {Γ : Ev}
theorem StOk.clr (h : StOk g.h Hf H σ Γ fr) (i : Nat) : StOk g.h Hf H (σ.set i none) (Γ.set i none) fr := by
  have hl : Γ.length = σ.length := by
    obtain ⟨ω, h⟩ := h
    exact h.len
  refine h.weak (by rw [List.length_set, List.length_set, hl]) fun j x e => ?_
  have hj : i ≠ j := fun z => by
    subst z
    rw [List.getElem?_set] at e
    simp at e
  rw [List.getElem?_set_ne hj] at e
  exact ⟨e, List.getElem?_set_ne hj⟩
theorem PostS.clr {mg' : Str → Option Value} {W' : WX} {i : Nat} {r : SO} (p : PostS g D fr Hf (sClr i r)) : PostS ⟨g.h, mg', W'⟩ { nx := fun σ' H' => D.nx (σ'.set i none) H', rt := D.rt, bk := fun σ' H' => D.bk (σ'.set i none) H', ct := fun σ' H' => D.ct (σ'.set i none) H' } fr Hf r := by
  cases r with
  | nx Γ => exact fun σ' H' Hf' s st => p _ H' Hf' s (st.clr i)
  | rt x Γ => exact fun v σ' H' Hf' s st => p v _ H' Hf' s (st.clr i)
  | bk Γ => exact fun σ' H' Hf' s st => p _ H' Hf' s (st.clr i)
  | ct Γ => exact fun σ' H' Hf' s st => p _ H' Hf' s (st.clr i)
  | ex e Γ => exact p.elim
  | st => exact p.elim
end
section
variable {X : Cx} {W : WX} {pos : Pos}
theorem pf_isx {x y n : Str} {p p1 p2 : Pos} {i : Nat} {a Dd : Addr} {oe : Obj} {pn : List (Addr × Obj)} {isx : Str → Option Bool} {e : Exc} {Cc : Addr} (hz : Zc (.ref Dd) none oe) (hf : ∃ vs, oe.data = .fields vs) (hD : X.mg e.c = some (.ref Dd))
    (hk : ∀ c b D0, isx c = some b → X.mg c = some (.ref D0) → ExcC X.K D0 ∧ PySem.W.kitOne X.K (.ref D0) (.ref Cc) = some b)
    (hg : Gl (X.suite a ((a, oe) :: pn)) x) (hm : X.mg x = none) (hv : bootBuiltins x = some (.builtin "isinstance"))
    (hN : X.N[i]? = some n) (hvis : Vis X.env.scope n) (hd : (n == ("__debug__" : Str)) = false) (hcd : (n == ("__classdict__" : Str)) = false)
    (hg2 : Gl (X.suite a ((a, oe) :: pn)) y) (hm2 : X.mg y = some (.ref Cc))
    (hn : x ≠ "__name__" := by decide) (hdb : (x == ("__debug__" : Str)) = false := by decide) (hdb2 : (y == ("__debug__" : Str)) = false := by decide)
    (he : starEach [.Name n p1, .Name y p2] X.env = (false, eval (.Name n p1) X.env) :: starEach [.Name y p2] X.env := by rfl) (hpl : (backTo pos (starEach [.Name y p2] X.env)).any (·.1) = false := by rfl)
    (he2 : starEach [.Name y p2] X.env = (false, eval (.Name y p2) X.env) :: starEach [] X.env := by rfl) :
    PF (X.suite a ((a, oe) :: pn)) W (.Call (.Name x p) [.Name n p1, .Name y p2] [] pos) (fIsX i isx a e) :=
  ⟨fun f0 h0 => by
    cases hb : isx e.c with
    | none =>
      refine ⟨fun pins s σ H Q I h => ?_⟩
      obtain ⟨Hf, Γ, fr, st, q⟩ := h
      exfalso
      unfold fIsX rawS at q
      rw [hb] at q
      split at q
      · split at q <;> exact q.elim
      · exact q.elim
    | some b =>
      obtain ⟨hC, hkit⟩ := hk e.c b Dd hb hD
      refine (pe_callB (call_isE hC hz hf) hg hm hv (pa_cons (pe_var (X := X.suite a ((a, oe) :: pn)) hN hvis hd hcd) (pa_cons (pe_glob hg2 hm2 (v := .ref Cc) rfl hdb2) pa_nil he2) he) hn hdb he hpl).imp fun σ H Q ⟨Hf, Γ, fr, st, q⟩ => ?_
      unfold fIsX rawS at q
      rw [hb] at q
      split at q
      · rename_i k hg
        split at q
        · rename_i hka
          subst hka
          obtain ⟨v, e1, z⟩ := st.getZ hg
          have ev : v = .ref a := raw_inv z
          subst ev
          exact ⟨.ref a, e1, .ref Cc, .ref Cc, b, rfl, fun u r => r, hkit, q _ H Hf (Same.refl _) ⟨st, .bl _⟩⟩
        · exact q.elim
      · exact q.elim⟩
theorem ps_tryA {x n : Str} {i : Nat} {c : Value} {body suite : List Stmt} {b₀ : Stmt} {np pos' : Pos} {m : Str → Option Bool} {fb : Ev → SO} {fs : Addr → Exc → Ev → SO} (hs : X.stack = X.env :: X.outer) (hf : X.env.frame = some X.env.locals) (hN : X.N.Nodup) (hi : X.N[i]? = some n) (hln : X.env.kindOf n = some .local) (hc : Names X x c) (tk : Takes X W)
    (hm : ∀ n b cls, m n = some b → X.mg n = some cls → PySem.W.exmOne X.K cls c = some b) (hcr : ∀ n cls, m n = some true → X.mg n = some cls → ∃ D0, cls = .ref D0)
    (hp : ∀ (a : Addr) (e : Exc) (Γ : Ev), sClr i (fs a e (Γ.set i (some (.z, rawD a)))) = sClr i (fs 0 e (Γ.set i (some (.z, rawD 0)))))
    (hb : ∀ (W' : WX) (pn : List (Addr × Obj)) (xe : Value → Shared → Prop), Takes (X.tr pn xe) W' → PassesOwn (model X.prog X.w) X.A X.env xe → PSts (X.tr pn xe) W' body fb)
    (hsu : ∀ (a : Addr) (oe : Obj) (Dd : Addr) (e : Exc) (pn : List (Addr × Obj)), Zc (.ref Dd) none oe → (∃ vs, oe.data = .fields vs) → X.mg e.c = some (.ref Dd) → PSts (X.suite a ((a, oe) :: pn)) W0 (b₀ :: suite) (fs a e)) :
    PSt X W (.Try body [.ExceptHandler (some (.Name x np)) (some n) (b₀ :: suite) pos'] [] [] pos) (sTryA m i fb fs) :=
  ⟨fun f0 h0 => (L2.ps_try_as (tb := fun W' => tS ⟨⟨X.K, f0, h0⟩, X.mg, W'⟩ fb) (ts := fun a cls d D σ H => ∃ e Dd, X.mg e.c = some (.ref Dd) ∧ cls = .ref Dd ∧ d = none ∧ tS ⟨⟨X.K, f0, h0⟩, X.mg, W0⟩ (fs a e) D σ H) hs hf hN hi hln hc tk (fun W' pn xe tk' pw => (hb W' pn xe tk' pw).run f0 h0)
    (fun a oe cls d pn hz hfl => ⟨fun pins s σ H D I h => by
      obtain ⟨e, Dd, h1, rfl, rfl, h2⟩ := h
      exact ((hsu a oe Dd e pn hz hfl h1).run f0 h0).run pins s σ H D I h2⟩)).imp fun D σ H ⟨Hf, Γ, fr, st, p⟩ => by
    refine ⟨Hf, Γ, fr, st, ?_⟩
    unfold sTryA at p
    cases h : fb Γ with
    | nx Γ1 => rw [h] at p; exact p
    | rt x Γ1 => rw [h] at p; exact p
    | bk Γ1 => rw [h] at p; exact p
    | ct Γ1 => rw [h] at p; exact p
    | st => rw [h] at p; exact p
    | ex e Γ1 =>
      rw [h] at p
      unfold tryA at p
      dsimp only at p
      intro σ' cls dx H' Hf' s' xo st'
      cases hmm : m e.c with
      | none => rw [hmm] at p; exact p.elim
      | some b =>
        rw [hmm] at p
        refine ⟨b, hm e.c b cls hmm xo.1, fun eb a na => ?_, fun eb => ?_⟩
        · subst eb
          dsimp only at p
          split at p
          · rename_i hfs
            obtain ⟨Dd, rfl⟩ := hcr _ _ hmm xo.1
            have hdx : dx = none := by
              rcases xo.2 with ⟨_, z⟩ | ⟨a1, fv, z1, z2, z3, z4, z5⟩
              · exact z
              · exact absurd (List.isEmpty_iff.mp hfs) z5
            refine ⟨e, Dd, xo.1, rfl, hdx, Hf', Γ1.set i (some (.z, rawD a)), fr, (st'.push (.raw a)).store i, ?_⟩
            rw [← hp a] at p
            exact PostS.mono (PostS.clr (g := gh X W f0 h0) p) s'
          · exact p.elim
        · subst eb
          exact p σ' cls dx H' Hf' s' xo st'⟩
end
end PV
namespace PV
open PySem PySem.Spec PyProof.Rows L2
/-! ### classes of exceptions, one against another -/
section
variable {K : PySem.W.Frag} {R C : Addr} {b : Bool}
theorem kitCls_of (h2 : PySem.W.isClsIn K C = true) (h3 : PySem.W.typeIn K (.ref C) = some (.type "type")) (h4 : PySem.W.subIn K (.ref R) (.ref C) = some b) : PySem.W.kitCls K (.ref R) (.ref C) = some b := by
  have a2 : ((PySem.W.clsIn K C).isSome && PySem.W.typeIn K (.ref C) == some (.type "type")) = true := by
    have z : (PySem.W.clsIn K C).isSome = true := h2
    rw [z, h3]
    rfl
  unfold PySem.W.kitCls
  simp only [a2, if_true]
  exact h4
theorem exm_of2 (h1 : PySem.W.subIn K (.ref C) (.type "BaseException") = some true) (h2 : PySem.W.isClsIn K C = true) (h3 : PySem.W.typeIn K (.ref C) = some (.type "type")) (h4 : PySem.W.subIn K (.ref R) (.ref C) = some b) :
    PySem.W.exmOne K (.ref R) (.ref C) = some b := by
  have a1 : (PySem.W.subIn K (.ref C) (.type "BaseException") == some true) = true := by rw [h1]; rfl
  unfold PySem.W.exmOne
  simp only [a1, if_true]
  exact kitCls_of h2 h3 h4
theorem kit_of2 (h0 : PySem.W.subIn K (.ref R) (.ref R) = some true) (h2 : PySem.W.isClsIn K C = true) (h3 : PySem.W.typeIn K (.ref C) = some (.type "type")) (h4 : PySem.W.subIn K (.ref R) (.ref C) = some b) :
    PySem.W.kitOne K (.ref R) (.ref C) = some b := by
  unfold PySem.W.kitOne
  by_cases e : ((Value.ref R == Value.ref C) = true)
  · rw [if_pos e]
    have e' : R = C := Value.ref.inj (beq_iff_eq.mp e)
    subst e'
    rw [h0] at h4
    exact h4
  · rw [if_neg e]
    exact kitCls_of h2 h3 h4
end
end PV
namespace PV
open PySem PySem.Spec PyProof.Rows L2
/-! ### slots forgotten -/
def sWp (is : List Nat) (a : Ev → SO) : Ev → SO := fun Γ => match a Γ with
  | .nx Γ1 => .nx (wipeG Γ1 is)
  | .ct Γ1 => .ct (wipeG Γ1 is)
  | .bk Γ1 => .bk (wipeG Γ1 is)
  | r => r
def sPre (is : List Nat) (a : Ev → SO) : Ev → SO := fun Γ => a (wipeG Γ is)
theorem StOk.wiped {g : Gh} {Hf H : Hp} {σ : St} {Γ : Ev} {fr : List (V × Va)} (h : StOk g Hf H σ Γ fr) (is : List Nat) : StOk g Hf H σ (wipeG Γ is) fr := by
  have hl : Γ.length = σ.length := by
    obtain ⟨ω, h⟩ := h
    exact h.len
  exact h.weak (by rw [wipeG_len, hl]) fun i x e => ⟨(wipeG_get e).1, rfl⟩
theorem PostS.unwp {g : GW} {D : Ends} {fr : List (V × Va)} {Hf : Hp} {is : List Nat} {a : Ev → SO} {Γ : Ev} (q : PostS g D fr Hf (sWp is a Γ)) : PostS g D fr Hf (a Γ) := by
  unfold sWp at q
  cases h : a Γ with
  | nx Γ1 => rw [h] at q; exact fun σ' H' Hf' s st => q σ' H' Hf' s (st.wiped is)
  | ct Γ1 => rw [h] at q; exact fun σ' H' Hf' s st => q σ' H' Hf' s (st.wiped is)
  | bk Γ1 => rw [h] at q; exact fun σ' H' Hf' s st => q σ' H' Hf' s (st.wiped is)
  | rt x Γ1 => rw [h] at q; exact q
  | ex e Γ1 => rw [h] at q; exact q
  | st => rw [h] at q; exact q
theorem ps_wp {X : Cx} {W : WX} {st : Stmt} {a : Ev → SO} (is : List Nat) (h : PSt X W st a) : PSt X W st (sWp is a) := ⟨fun f0 h0 => (h.run f0 h0).imp fun D σ H ⟨Hf, Γ, fr, st, q⟩ => ⟨Hf, Γ, fr, st, q.unwp⟩⟩
theorem pss_wp {X : Cx} {W : WX} {st : List Stmt} {a : Ev → SO} (is : List Nat) (h : PSts X W st a) : PSts X W st (sWp is a) := ⟨fun f0 h0 => (h.run f0 h0).imp fun D σ H ⟨Hf, Γ, fr, st, q⟩ => ⟨Hf, Γ, fr, st, q.unwp⟩⟩
theorem ps_pre {X : Cx} {W : WX} {st : Stmt} {a : Ev → SO} (is : List Nat) (h : PSt X W st a) : PSt X W st (sPre is a) := ⟨fun f0 h0 => (h.run f0 h0).imp fun D σ H ⟨Hf, Γ, fr, st, q⟩ => ⟨Hf, wipeG Γ is, fr, st.wiped is, q⟩⟩
theorem wp_nx {is : List Nat} {a : Ev → SO} {Γ Γ1 : Ev} (h : a Γ = .nx Γ1) : sWp is a Γ = .nx (wipeG Γ1 is) := by unfold sWp; rw [h]
end PV
namespace PV
open PySem PySem.Spec PyProof.Rows L2
theorem hU65 {k : Nat} {A : Around} (hr : Room k A) : A.units + 65 < cLine := by have := hr.un; omega
/-! ### in, not in: data of any depth -/
def dInX (x y : D) : Option Bool := match y with
  | .list ds => if SeqAt.shaped x && SeqAt.shaped (.list ds) then some (ds.any fun z => PyData.eqv z x) else none
  | _ => none
def dInD (a b : D) : Option Va := b2 (dInX a b)
def dNinD (a b : D) : Option Va := b2 ((dInX a b).map not)
section
variable {K : PySem.W.Frag}
theorem inX_ok {Hf H : Hp} {x y : V} {dx dy : D} {c : Bool} (s : Same Hf H) (h1 : Fz1 K Hf H x dx) (h2 : Fz1 K Hf H y dy) (e : dInX dx dy = some c) : ∃ d ds, Dp K H x d ∧ Dp K H y (.list ds) ∧ SeqAt.shaped d = true ∧ SeqAt.shaped (.list ds) = true ∧ (ds.any fun z => PyData.eqv z d) = c := by
  unfold dInX at e
  split at e
  · split at e
    · rename_i hf
      rw [Bool.and_eq_true] at hf
      exact ⟨_, _, h1.dp s (SeqAt.canLay_of_shaped hf.1), h2.dp s (SeqAt.canLay_of_shaped hf.2), hf.1, hf.2, Option.some.inj e⟩
    · cases e
  · cases e
theorem ops_inD : OpS K (rInD K) dInD := fun Hf H x y dx dy z Q s h1 h2 e q => by
  cases h : dInX dx dy with
  | none => rw [dInD, h] at e; cases e
  | some c =>
    rw [dInD, h] at e
    cases e
    obtain ⟨d, ds, a1, a2, a3, a4, a5⟩ := inX_ok s h1 h2 h
    exact ⟨d, ds, a1, a2, a3, a4, by rw [a5]; exact q _ H Hf (.z s (.bl c))⟩
theorem ops_ninD : OpS K (rNotInD K) dNinD := fun Hf H x y dx dy z Q s h1 h2 e q => by
  cases h : dInX dx dy with
  | none => rw [dNinD, h] at e; cases e
  | some c =>
    rw [dNinD, h] at e
    cases e
    obtain ⟨d, ds, a1, a2, a3, a4, a5⟩ := inX_ok s h1 h2 h
    exact ⟨d, ds, a1, a2, a3, a4, by rw [a5]; exact q _ H Hf (.z s (.bl (!c)))⟩
end
/-! ### a built-in method of a frozen receiver that changes nothing -/
def rcvT (T : String) (d : D) : Bool := match d with
  | .list _ => T == "list"
  | .str _ => T == "str"
  | _ => false
def fBM (T : String) (op : D → List D → Option Va) (fr : Ev → Out D) (fs : Ev → Out (List D)) : Ev → Out Va := fun Γ => (fr Γ).bind fun d Γ1 => if rcvT T d = true then ((fs Γ1).bind fun ds Γ2 => .of (op d ds) Γ2) else .st
def BmS (K : PySem.W.Frag) (r : V → List V → Hp → VK → Prop) (op : D → List D → Option Va) : Prop := ∀ (Hf H : Hp) (x : V) (xs : List V) (d : D) (ds : List D) (z : Va) (Q : VK), Same Hf H → Fz K Hf x d → FzAll K Hf xs ds → op d ds = some z → (∀ v H' Hf', NewV K Hf H H' Hf' v z → Q v H') → r x xs H Q
theorem rcv_ty {K : PySem.W.Frag} {Hf H : Hp} {v : V} {d : D} {T : String} (h : Fz K Hf v d) (s : Same Hf H) (c : rcvT T d = true) : tyV K T v H := by
  cases h with
  | lst h r => exact .inl ⟨eq_of_beq c, _, SqL.of (s _ _ h)⟩
  | str x => exact eq_of_beq c
  | _ => cases c
section
variable {X : Cx} {W : WX} {e o : Expr} {es : List Expr} {name : Str} {apos cpos : Pos} {T id : String} {r : V → List V → Hp → VK → Prop} {op : D → List D → Option Va} {fr : Ev → Out D} {fs : Ev → Out (List D)}
theorem pv_bm (pa : PlainAttrs T) (slot : Slot T name id) (hty : typeOf (.builtin id) = pure (.type "method_descriptor")) (hm : MtR X id r) (hs : BmS X.K r op) (ho : PF X W o fr) (ha : PFs X W (e :: es) fs)
    (hbase : attributeBase o name X.env (eval o X.env) = eval o X.env := by rfl)
    (hfew : ((backTo cpos (starEach (e :: es) X.env)).all (fun x => !x.1) && (backToKw cpos (keywordEach [] X.env)).all (fun x => x.1.isSome)
      && decide ((e :: es).length + ([] : List Keyword).length + (if ([] : List Keyword).isEmpty then 0 else 1) < 30)) = true := by rfl)
    (hline : (apos.endLine == cpos.line) = true := by rfl) (hst : starEach (e :: es) X.env = (false, eval e X.env) :: starEach es X.env := by rfl) (hplain : (backTo cpos (starEach es X.env)).any (·.1) = false := by rfl) :
    PV X W (.Call (.Attribute o name apos) (e :: es) [] cpos) (fBM T op fr fs) :=
  ⟨fun f0 h0 => (pe_bm pa slot hty hm (ho.run f0 h0) (ha.run f0 h0) hbase hfew hline hst hplain).imp fun σ H Q ⟨Hf, Γ, fr, st, p⟩ => ⟨Hf, Γ, fr, st, Post.bind p fun d Γ1 _ v H1 Hf1 s1 ⟨st1, z⟩ q => by
    split at q
    · rename_i c
      refine ⟨rcv_ty z st1.sub c, Hf1, Γ1, fr, st1, Post.bind q fun ds Γ2 _ vs H2 Hf2 s2 ⟨st2, l2⟩ q => ?_⟩
      obtain ⟨x, e, q⟩ := Post.of q
      exact hs Hf2 H2 v vs d ds x Q st2.sub (z.mono s2) l2 e fun v H' Hf' n => q v H' Hf' n.f1 (st2.pushN n)
    · exact q.elim⟩⟩
theorem pv_bm0 (pa : PlainAttrs T) (slot : Slot T name id) (hty : typeOf (.builtin id) = pure (.type "method_descriptor")) (hm : MtR X id r) (hs : BmS X.K r op) (ho : PF X W o fr)
    (hbase : attributeBase o name X.env (eval o X.env) = eval o X.env := by rfl) (hline : (apos.endLine == cpos.line) = true := by rfl) :
    PV X W (.Call (.Attribute o name apos) [] [] cpos) (fBM T op fr fsN) :=
  ⟨fun f0 h0 => (pe_bm0 pa slot hty hm (ho.run f0 h0) hbase hline).imp fun σ H Q ⟨Hf, Γ, fr, st, p⟩ => ⟨Hf, Γ, fr, st, Post.bind p fun d Γ1 _ v H1 Hf1 s1 ⟨st1, z⟩ q => by
    split at q
    · rename_i c
      have q' : Post (gh X W f0 h0) σ fr (RV (gh X W f0 h0) σ fr) Hf1 Q (.of (op d []) Γ1) := q
      obtain ⟨x, e, q⟩ := Post.of q'
      exact ⟨rcv_ty z st1.sub c, hs Hf1 H1 v [] d [] x Q st1.sub z .nil e fun v H' Hf' n => q v H' Hf' n.f1 (st1.pushN n)⟩
    · exact q.elim⟩⟩
end
/-! list.index -/
def dIndex : D → List D → Option Va
  | .list ds, [k] => if SeqAt.shaped k && SeqAt.shaped (.list ds) then (ds.findIdx? fun z => PyData.eqv z k).map fun j => (.z, .int (j : Nat)) else none
  | _, _ => none
theorem bm_index {K : PySem.W.Frag} : BmS K (rIndexD K) dIndex := fun Hf H x xs d ds z Q s h1 h2 e q => by
  unfold dIndex at e
  split at e
  · rename_i ds k
    split at e
    · rename_i hf
      rw [Bool.and_eq_true] at hf
      obtain ⟨v, rfl, hv⟩ := h2.one
      cases hj : ds.findIdx? fun z => PyData.eqv z k with
      | none => rw [hj] at e; cases e
      | some j =>
        rw [hj] at e
        cases e
        cases h1 with
        | lst hl r =>
          have hdl : Dp K H _ (.list ds) := Fz.dp ((Fz.lst hl r).mono s) (SeqAt.canLay_of_shaped hf.2)
          have hdk : Dp K H v k := Fz.dp (hv.mono s) (SeqAt.canLay_of_shaped hf.1)
          obtain ⟨hlt, h3, h4⟩ := List.findIdx?_eq_some_iff_getElem.mp hj
          refine ⟨_, v, k, ds, j, ds[j], rfl, rfl, hdl, hdk, hf.2, hf.1, List.getElem?_eq_getElem hlt, h3, fun m z' hm hz' => ?_, q _ H Hf (.z s (.int _))⟩
          have hml : m < ds.length := by omega
          rw [List.getElem?_eq_getElem hml] at hz'
          cases hz'
          have := h4 m hm
          cases hc : PyData.eqv ds[m] k with
          | true => exact absurd hc this
          | false => rfl
    · cases e
  · cases e
end PV
namespace PV
open PySem PySem.Spec PyProof.Rows L2
/-! ### dicts whose keys are tuples -/
def dKeys : List D → Option (List Key)
  | [] => some []
  | d :: ds => (dKey d).bind fun k => (dKeys ds).map (k :: ·)
def tKey : D → Option (List Key)
  | .tuple ds => dKeys ds
  | _ => none
theorem dKeys_kD : ∀ (ks : List Key), dKeys (ks.map kD) = some ks
  | [] => rfl
  | k :: ks => by
    show ((dKey (kD k)).bind fun k => (dKeys (ks.map kD)).map (k :: ·)) = _
    rw [dKey_kD, dKeys_kD ks]; rfl
theorem tKey_kT (ks : List Key) : tKey (kT ks) = some ks := dKeys_kD ks
theorem dKeys_val {K : PySem.W.Frag} {H : Hp} : ∀ {vs : List V} {ds : List D} {ks : List Key}, FzAll K H vs ds → dKeys ds = some ks → vs = ks.map kV ∧ ds = ks.map kD
  | _, _, _, .nil, e => by cases e; exact ⟨rfl, rfl⟩
  | _, _, _, .cons (d := d) (ds := ds) h r, e => by
    change ((dKey d).bind fun k => (dKeys ds).map (k :: ·)) = _ at e
    cases h1 : dKey d with
    | none => rw [h1] at e; cases e
    | some k =>
      cases h2 : dKeys ds with
      | none => rw [h1, h2] at e; cases e
      | some ks' =>
        rw [h1, h2] at e
        cases e
        obtain ⟨e1, e2⟩ := dKeys_val r h2
        obtain ⟨e3, e4⟩ := key_val h h1
        exact ⟨by rw [e1, e3]; rfl, by rw [e2, e4]; rfl⟩
theorem tkey_val {K : PySem.W.Frag} {H : Hp} {v : V} {d : D} {ks : List Key} (h : Fz K H v d) (e : tKey d = some ks) : ∃ b, v = .ref b ∧ H b = some (.tup (ks.map kV)) ∧ d = kT ks := by
  cases h with
  | tup h r =>
    obtain ⟨rfl, rfl⟩ := dKeys_val r e
    exact ⟨_, rfl, h, rfl⟩
  | _ => cases e
def tLook : List (D × D) → List Key → Option D
  | [], _ => none
  | (k, d) :: r, x => if tKey k = some x then some d else tLook r x
theorem tlook_ok {K : PySem.W.Frag} {Hf : Hp} (x : List Key) : ∀ {kvs : List (List Key × V)} {ds : List D}, FzAll K Hf (kvs.map (·.2)) ds → (valV kvs x = none ∧ tLook ((kvs.map fun p => kT p.1).zip ds) x = none) ∨ ∃ v d, valV kvs x = some v ∧ tLook ((kvs.map fun p => kT p.1).zip ds) x = some d ∧ Fz K Hf v d
  | [], _, _ => .inl ⟨rfl, by cases ‹List D› <;> rfl⟩
  | (k, v) :: kvs, _, .cons (d := d) (ds := ds) h r => by
    show (valV ((k, v) :: kvs) x = none ∧ (if tKey (kT k) = some x then some d else tLook ((kvs.map fun p => kT p.1).zip ds) x) = none) ∨ _
    rw [tKey_kT]
    by_cases e : k = x
    · subst e
      exact .inr ⟨v, d, by unfold valV; simp, by
        show (if tKey (kT k) = some k then some d else _) = some d
        rw [tKey_kT, if_pos rfl], h⟩
    · have n : ¬ (some k = some x) := fun z => e (Option.some.inj z)
      have e2 : valV ((k, v) :: kvs) x = valV kvs x := by
        unfold valV
        rw [List.find?_cons_of_neg (by simpa using e)]
      rw [if_neg n, e2]
      rcases tlook_ok x r with h | ⟨v', d', h1, h2, h3⟩
      · exact .inl h
      · exact .inr ⟨v', d', h1, by
          show (if tKey (kT k) = some x then some d else _) = some d'
          rw [tKey_kT, if_neg n]
          exact h2, h3⟩
/-! ### dicts at a slot -/
def trows (kvs : List (List Key × V)) (ds : List D) : List (D × D) := (kvs.map fun p => kT p.1).zip ds
def tHas (rs : List (D × D)) (k : List Key) : Bool := rs.any fun p => decide (tKey p.1 = some k)
def tPutL (rs : List (D × D)) (k : List Key) (d : D) : List (D × D) := if tHas rs k = true then rs.map (fun p => if tKey p.1 = some k then (p.1, d) else p) else rs ++ [(kT k, d)]
section
variable {K : PySem.W.Frag} {H : Hp} {k : List Key} {v : V} {d : D}
theorem trows_len : ∀ {kvs : List (List Key × V)} {ds : List D}, FzAll K H (kvs.map (·.2)) ds → (trows kvs ds).length = kvs.length
  | [], _, .nil => rfl
  | _ :: kvs, _, .cons _ r => congrArg (· + 1) (trows_len (kvs := kvs) r)
theorem trows_has : ∀ {kvs : List (List Key × V)} {ds : List D}, FzAll K H (kvs.map (·.2)) ds → tHas (trows kvs ds) k = kvs.any fun kv => decide (kv.1 = k)
  | [], _, .nil => rfl
  | p :: kvs, d :: ds, .cons _ r => by
    have ih := trows_has (kvs := kvs) r
    unfold tHas at ih ⊢
    show ((kT p.1, d) :: trows kvs ds).any _ = _
    rw [List.any_cons, List.any_cons, ih]
    congr 1
    show decide (tKey (kT p.1) = some k) = _
    rw [tKey_kT]
    by_cases e : p.1 = k
    · rw [decide_eq_true (congrArg some e), decide_eq_true e]
    · rw [decide_eq_false (fun z => e (Option.some.inj z)), decide_eq_false e]
theorem trows_map (hd : Fz K H v d) : ∀ {kvs : List (List Key × V)} {ds : List D}, FzAll K H (kvs.map (·.2)) ds →
    ∃ ds', (trows kvs ds).map (fun p => if tKey p.1 = some k then (p.1, d) else p) = trows (kvs.map fun kv => if kv.1 = k then (kv.1, v) else kv) ds' ∧ FzAll K H ((kvs.map fun kv => if kv.1 = k then (kv.1, v) else kv).map (·.2)) ds'
  | [], _, .nil => ⟨[], rfl, .nil⟩
  | p :: kvs, d0 :: ds, .cons h r => by
    obtain ⟨ds', e, f⟩ := trows_map hd (kvs := kvs) r
    by_cases q : p.1 = k
    · refine ⟨d :: ds', ?_, ?_⟩
      · show (if tKey (kT p.1) = some k then (kT p.1, d) else (kT p.1, d0)) :: (trows kvs ds).map _ = trows ((if p.1 = k then (p.1, v) else p) :: _) (d :: ds')
        rw [tKey_kT, if_pos (congrArg some q), if_pos q, e]
        rfl
      · show FzAll K H ((if p.1 = k then (p.1, v) else p).2 :: _) (d :: ds')
        rw [if_pos q]
        exact .cons hd f
    · refine ⟨d0 :: ds', ?_, ?_⟩
      · show (if tKey (kT p.1) = some k then (kT p.1, d) else (kT p.1, d0)) :: (trows kvs ds).map _ = trows ((if p.1 = k then (p.1, v) else p) :: _) (d0 :: ds')
        rw [tKey_kT, if_neg (fun z => q (Option.some.inj z)), if_neg q, e]
        rfl
      · show FzAll K H ((if p.1 = k then (p.1, v) else p).2 :: _) (d0 :: ds')
        rw [if_neg q]
        exact .cons h f
theorem trows_app {ds : List D} : ∀ {kvs : List (List Key × V)}, FzAll K H (kvs.map (·.2)) ds → trows kvs ds ++ [(kT k, d)] = trows (kvs ++ [(k, v)]) (ds ++ [d]) := fun {kvs} h => by
  unfold trows
  rw [List.map_append, List.zip_append]
  · rfl
  · have := h.length
    rw [List.length_map] at this
    rw [List.length_map]
    exact this
theorem trows_put (hd : Fz K H v d) {kvs : List (List Key × V)} {ds : List D} (h : FzAll K H (kvs.map (·.2)) ds) : ∃ ds', tPutL (trows kvs ds) k d = trows (putK kvs k v) ds' ∧ FzAll K H ((putK kvs k v).map (·.2)) ds' := by
  unfold tPutL putK
  rw [trows_has h]
  by_cases q : (kvs.any fun kv => decide (kv.1 = k)) = true
  · rw [if_pos q, if_pos q]
    exact trows_map hd h
  · rw [if_neg q, if_neg q]
    refine ⟨ds ++ [d], trows_app h, ?_⟩
    rw [List.map_append]
    exact h.append (.cons hd .nil)
theorem trows_look {kvs : List (List Key × V)} {ds : List D} (h : FzAll K H (kvs.map (·.2)) ds) : (valV kvs k = none ∧ tLook (trows kvs ds) k = none) ∨ ∃ v d, valV kvs k = some v ∧ tLook (trows kvs ds) k = some d ∧ Fz K H v d := tlook_ok k h
end
section
variable {g : Gh} {Hf H : Hp} {σ : St} {Γ : Ev} {fr : List (V × Va)}
theorem NewV.te {K : PySem.W.Frag} {p : Addr} {kvs : List (List Key × V)} {ds : List D} (s : Same Hf H) (n : H p = none) (h : FzAll K Hf (kvs.map (·.2)) ds) : NewV K Hf H (upd H p (.dT kvs)) Hf (.ref p) (.e .z, .dict ((.bool true, .none) :: trows kvs ds)) :=
  ⟨same_new n, Same.refl _, s.trans (same_new n), fun _ n => .inl n, [p], ⟨p, kvs, ds, [], rfl, rfl, upd_same, OwnL.of_zs h, rfl⟩, by simp, fun a ha => by rw [List.mem_singleton.mp ha]; exact ⟨n, Same.free s n⟩⟩

theorem own_e_mem {K : PySem.W.Frag} {s : Sh} {a : Addr} {d : D} {A : List Addr} (h : Own K Hf H (.e s) (.ref a) d A) : a ∈ A := by
  obtain ⟨a', kvs, ds, B, e1, e2, e3, r, e4⟩ := h
  cases e1
  rw [e4]
  exact List.mem_cons_self
theorem own_e_z {K : PySem.W.Frag} {a : Addr} {kvs : List (List Key × V)} {ds : List D} (h : FzAll K Hf (kvs.map (·.2)) ds) : Own K Hf (upd H a (.dT kvs)) (.e .z) (.ref a) (.dict ((.bool true, .none) :: trows kvs ds)) [a] := ⟨a, kvs, ds, [], rfl, rfl, upd_same, OwnL.of_zs h, rfl⟩

theorem fz_dT {K : PySem.W.Frag} {Hf : Hp} {v : V} {rs : List (D × D)} (h : Fz K Hf v (.dict ((.bool true, .none) :: rs))) : ∃ a kvs ds, v = .ref a ∧ Hf a = some (.dT kvs) ∧ FzAll K Hf (kvs.map (·.2)) ds ∧ rs = trows kvs ds := by
  generalize hd : PyData.dict ((.bool true, .none) :: rs) = d at h
  cases h with
  | dT h r =>
    unfold tRows at hd
    injection hd with hd
    injection hd with _ hd
    exact ⟨_, _, _, rfl, h, r, hd⟩
  | @dK a kvs ds' h r =>
    injection hd with hd
    cases kvs with
    | nil => cases ds' <;> cases hd
    | cons p kvs =>
      cases ds' with
      | nil => cases hd
      | cons d' ds' =>
        rw [List.map_cons, List.zip_cons_cons] at hd
        injection hd with hd _
        injection hd with hd _
        obtain ⟨k, w⟩ := p
        cases k <;> cases hd
  | raw a => unfold rawD at hd; cases hd
  | _ => cases hd
def tdic (o : Option (Option Va)) : Option (List (D × D)) := match o with
  | some (some (.e .z, .dict ((.bool true, .none) :: rs))) => some rs
  | some (some (.z, .dict ((.bool true, .none) :: rs))) => some rs
  | _ => none
theorem StOk.getTd {i : Nat} {rs : List (D × D)} (h : StOk g Hf H σ Γ fr) (hi : tdic (Γ[i]?) = some rs) : ∃ a kvs ds, σ[i]? = some (some (.ref a)) ∧ H a = some (.dT kvs) ∧ FzAll g.K Hf (kvs.map (·.2)) ds ∧ rs = trows kvs ds := by
  unfold tdic at hi
  split at hi
  · rename_i rs' hg
    cases hi
    obtain ⟨ω, h⟩ := h
    obtain ⟨v, e, A, o, _⟩ := h.slots i _ hg
    obtain ⟨a, kvs, ds, B, e1, e2, e3, r, e4⟩ := o
    subst e1
    unfold tRows at e2
    injection e2 with e2
    injection e2 with _ e2
    exact ⟨a, kvs, ds, e, e3, r.zs.2, e2⟩
  · rename_i rs' hg
    cases hi
    obtain ⟨v, e, z⟩ := h.getZ hg
    obtain ⟨a, kvs, ds, rfl, ha, f, e2⟩ := fz_dT z
    have sub : Same Hf H := by
      obtain ⟨ω, h⟩ := h
      exact h.sub
    exact ⟨a, kvs, ds, e, sub _ _ ha, f, e2⟩
  · cases hi
theorem StOk.getTo {i : Nat} {rs : List (D × D)} (h : StOk g Hf H σ Γ fr) (hi : Γ[i]? = some (some (.e .z, .dict ((.bool true, .none) :: rs)))) : ∃ a kvs ds, σ[i]? = some (some (.ref a)) ∧ H a = some (.dT kvs) ∧ FzAll g.K Hf (kvs.map (·.2)) ds ∧ rs = trows kvs ds := h.getTd (by rw [hi]; rfl)
theorem StOk.mutTd {i : Nat} {x : D} {a : Addr} {kvs : List (List Key × V)} {ds : List D} (h : StOk g Hf H σ Γ fr) (hi : Γ[i]? = some (some (.e .z, x))) (ha : σ[i]? = some (some (.ref a))) (hv : FzAll g.K Hf (kvs.map (·.2)) ds) : StOk g Hf (upd H a (.dT kvs)) σ (Γ.set i (some (.e .z, .dict ((.bool true, .none) :: trows kvs ds)))) fr :=
  h.mutH hi ha (fun _ o => own_e_mem o) (own_e_z hv)
end
/-! ### the terms -/
def vTct0 : Ev → Out Va := fun Γ => .ok (.e .z, .dict [(.bool true, .none)]) Γ
def fTIn (neg : Bool) (i : Nat) (fk : Ev → Out D) : Ev → Out D := fun Γ => (fk Γ).bind fun k Γ1 => .of ((tdic (Γ1[i]?)).bind fun rs => (tKey k).map fun y => .bool (if neg then !(tLook rs y).isSome else (tLook rs y).isSome)) Γ1
def tdicS (o : Option (Option Va)) (r : Out D) : Out D := match tdic o with
  | some _ => r
  | none => .st
def fTAt (i : Nat) (fk : Ev → Out D) : Ev → Out D := fun Γ => tdicS (Γ[i]?) <| (fk Γ).bind fun k Γ1 => .of ((tdic (Γ1[i]?)).bind fun rs => (tKey k).bind fun y => tLook rs y) Γ1
def fTG1 (i : Nat) (fk : Ev → Out D) : Ev → Out D := fun Γ => tdicS (Γ[i]?) <| (fk Γ).bind fun k Γ1 => .of ((tdic (Γ1[i]?)).bind fun rs => (tKey k).map fun y => (tLook rs y).getD .none) Γ1
def fTG2 (i : Nat) (fk fx : Ev → Out D) : Ev → Out D := fun Γ => tdicS (Γ[i]?) <| (fk Γ).bind fun k Γ1 => (fx Γ1).bind fun x Γ2 => .of ((tdic (Γ2[i]?)).bind fun rs => (tKey k).map fun y => (tLook rs y).getD x) Γ2
def tputE (i : Nat) (d : D) (o : Option (Option Va)) (k : D) (Γ : Ev) : SO := match o with
  | some (some (.e .z, .dict ((.bool true, .none) :: rs))) => (match tKey k with | some y => if rs.length < 16777216 then .nx (Γ.set i (some (.e .z, .dict ((.bool true, .none) :: tPutL rs y d)))) else .st | none => .st)
  | _ => .st
def tputS (o : Option (Option Va)) (r : SO) : SO := match o with
  | some (some (.e .z, .dict ((.bool true, .none) :: _))) => r
  | _ => .st
def sTPutI (i : Nat) (fv fk : Ev → Out D) : Ev → SO := fun Γ => sB (fv Γ) fun d Γ1 => tputS (Γ1[i]?) (sB (fk Γ1) fun k Γ2 => tputE i d (Γ2[i]?) k Γ2)
section
variable {X : Cx} {W : WX} {e f ix value : Expr} {x : Str} {p pos apos cpos tpos : Pos} {fk fx fv : Ev → Out D}
theorem pv_tct0 : PV X W (.Dict [] [] pos) vTct0 := ⟨fun f0 h0 => pe_dnewT.imp fun σ H Q ⟨Hf, Γ, fr, st, p⟩ a n =>
  p _ _ _ (Same.refl _) (st.pushN (NewV.te (kvs := []) (ds := []) st.sub n .nil))⟩
theorem pf_tin_core {g : GW} {i : Nat} {fk : Ev → Out D} {σ : St} {H : Hp} {Q : VK} (h : tF g (fTIn false i fk) σ H Q) : tDIn (tF g fk) (tVar i) σ H Q := by
  obtain ⟨Hf, Γ, fr, st, p⟩ := h
  exact ⟨Hf, Γ, fr, st, Post.bind p fun k Γ1 _ w H1 Hf1 s1 ⟨st1, z1⟩ q => by
    obtain ⟨c, e, q'⟩ := Post.of q
    clear q
    cases hr : tdic (Γ1[i]?) with
    | none => rw [hr] at e; cases e
    | some rs =>
      rw [hr] at e
      obtain ⟨a, kvs, ds, e1, e2, f1, rfl⟩ := st1.getTd hr
      cases hy : tKey k with
      | none => rw [Option.bind_some, hy] at e; cases e
      | some y =>
        rw [Option.bind_some, hy] at e
        cases e
        obtain ⟨kb, rfl, hkb, rfl⟩ := tkey_val z1 hy
        refine ⟨.ref a, e1, a, valV kvs y, rfl, DGet.t e2 (st1.sub _ _ hkb), ?_⟩
        rcases trows_look (k := y) f1 with ⟨h1, h2⟩ | ⟨v', d', h1, h2, h3⟩
        · rw [h1]; dsimp only at q'; rw [h2] at q'
          exact q' _ H1 Hf1 (Same.refl _) ⟨st1, .bl _⟩
        · rw [h1]; dsimp only at q'; rw [h2] at q'
          exact q' _ H1 Hf1 (Same.refl _) ⟨st1, .bl _⟩⟩
theorem pf_tin (i : Nat) (hu : X.A.units + 1 < cLine) (hk : PF X W e fk) (hm : behindInMarks .In (.Name x p) = false := by rfl)
    (hN : X.N[i]? = some x := by rfl) (hv : Vis X.env.scope x := by first | exact Or.inl rfl | exact Or.inr (Or.inl rfl) | exact Or.inr (Or.inr rfl)) (hd : (x == ("__debug__" : Str)) = false := by decide) (hcd : (x == ("__classdict__" : Str)) = false := by decide) :
    PF X W (.Compare e [.In] [.Name x p] pos) (fTIn false i fk) :=
  ⟨fun f0 h0 => (pe_cmp (pc_din hu (hk.run f0 h0) (pe_var hN hv hd hcd)) hm).imp fun σ H Q h => pf_tin_core (g := gh X W f0 h0) h⟩
theorem pb_tin (i : Nat) (hu : X.A.units + 1 < cLine) (hk : PF X W e fk) (hm : behindInMarks .In (.Name x p) = false := by rfl)
    (hN : X.N[i]? = some x := by rfl) (hv : Vis X.env.scope x := by first | exact Or.inl rfl | exact Or.inr (Or.inl rfl) | exact Or.inr (Or.inr rfl)) (hd : (x == ("__debug__" : Str)) = false := by decide) (hcd : (x == ("__classdict__" : Str)) = false := by decide) :
    PB X W (.Compare e [.In] [.Name x p] pos) (bF (fTIn false i fk)) :=
  ⟨fun f0 h0 => (pt_cmp (pc_din hu (hk.run f0 h0) (pe_var hN hv hd hcd)) hm).imp fun σ H Q h => tTestF (f := fTIn false i fk) (fun Q h => pf_tin_core (g := gh X W f0 h0) h) h⟩
theorem pf_tnin_core {g : GW} {i : Nat} {fk : Ev → Out D} {σ : St} {H : Hp} {Q : VK} (h : tF g (fTIn true i fk) σ H Q) : tDNotIn (tF g fk) (tVar i) σ H Q := by
  obtain ⟨Hf, Γ, fr, st, p⟩ := h
  exact ⟨Hf, Γ, fr, st, Post.bind p fun k Γ1 _ w H1 Hf1 s1 ⟨st1, z1⟩ q => by
    obtain ⟨c, e, q'⟩ := Post.of q
    clear q
    cases hr : tdic (Γ1[i]?) with
    | none => rw [hr] at e; cases e
    | some rs =>
      rw [hr] at e
      obtain ⟨a, kvs, ds, e1, e2, f1, rfl⟩ := st1.getTd hr
      cases hy : tKey k with
      | none => rw [Option.bind_some, hy] at e; cases e
      | some y =>
        rw [Option.bind_some, hy] at e
        cases e
        obtain ⟨kb, rfl, hkb, rfl⟩ := tkey_val z1 hy
        refine ⟨.ref a, e1, a, valV kvs y, rfl, DGet.t e2 (st1.sub _ _ hkb), ?_⟩
        rcases trows_look (k := y) f1 with ⟨h1, h2⟩ | ⟨v', d', h1, h2, h3⟩
        · rw [h1]; dsimp only at q'; rw [h2] at q'
          exact q' _ H1 Hf1 (Same.refl _) ⟨st1, .bl _⟩
        · rw [h1]; dsimp only at q'; rw [h2] at q'
          exact q' _ H1 Hf1 (Same.refl _) ⟨st1, .bl _⟩⟩
theorem pf_tnin (i : Nat) (hu : X.A.units + 1 < cLine) (hk : PF X W e fk) (hm : behindInMarks .NotIn (.Name x p) = false := by rfl)
    (hN : X.N[i]? = some x := by rfl) (hv : Vis X.env.scope x := by first | exact Or.inl rfl | exact Or.inr (Or.inl rfl) | exact Or.inr (Or.inr rfl)) (hd : (x == ("__debug__" : Str)) = false := by decide) (hcd : (x == ("__classdict__" : Str)) = false := by decide) :
    PF X W (.Compare e [.NotIn] [.Name x p] pos) (fTIn true i fk) :=
  ⟨fun f0 h0 => (pe_cmp (pc_dnotin hu (hk.run f0 h0) (pe_var hN hv hd hcd)) hm).imp fun σ H Q h => pf_tnin_core (g := gh X W f0 h0) h⟩
theorem pb_tnin (i : Nat) (hu : X.A.units + 1 < cLine) (hk : PF X W e fk) (hm : behindInMarks .NotIn (.Name x p) = false := by rfl)
    (hN : X.N[i]? = some x := by rfl) (hv : Vis X.env.scope x := by first | exact Or.inl rfl | exact Or.inr (Or.inl rfl) | exact Or.inr (Or.inr rfl)) (hd : (x == ("__debug__" : Str)) = false := by decide) (hcd : (x == ("__classdict__" : Str)) = false := by decide) :
    PB X W (.Compare e [.NotIn] [.Name x p] pos) (bF (fTIn true i fk)) :=
  ⟨fun f0 h0 => (pt_cmp (pc_dnotin hu (hk.run f0 h0) (pe_var hN hv hd hcd)) hm).imp fun σ H Q h => tTestF (f := fTIn true i fk) (fun Q h => pf_tnin_core (g := gh X W f0 h0) h) h⟩
theorem tdic_at {g : GW} {Hf H : Hp} {σ : St} {Γ : Ev} {fr : List (V × Va)} {i : Nat} {rs : List (D × D)} (st : StOk g.h Hf H σ Γ fr) (h : tdic (Γ[i]?) = some rs) {k : D} {y : List Key} {w : V} (hy : tKey k = some y) (z : Fz g.h.K Hf w k) : ∃ a o, σ[i]? = some (some (.ref a)) ∧ IsD H a ∧ DGet H a w o ∧ ((o = none ∧ tLook rs y = none) ∨ ∃ v d, o = some v ∧ tLook rs y = some d ∧ Fz g.h.K Hf v d) := by
  obtain ⟨a, kvs, ds, e1, e2, f1, rfl⟩ := st.getTd h
  obtain ⟨kb, rfl, hkb, rfl⟩ := tkey_val z hy
  exact ⟨a, valV kvs y, e1, .inr ⟨kvs, .inl e2⟩, DGet.t e2 (st.sub _ _ hkb), trows_look f1⟩
theorem pf_tat (i : Nat) (hu : X.A.units + 1 < cLine) (hk : PF X W e fk) (hs : NoSl e)
    (hN : X.N[i]? = some x := by rfl) (hv : Vis X.env.scope x := by first | exact Or.inl rfl | exact Or.inr (Or.inl rfl) | exact Or.inr (Or.inr rfl)) (hd : (x == ("__debug__" : Str)) = false := by decide) (hcd : (x == ("__classdict__" : Str)) = false := by decide) :
    PF X W (.Subscript (.Name x p) e pos) (fTAt i fk) :=
  ⟨fun f0 h0 => (pe_dget hu (pe_var hN hv hd hcd) (hk.run f0 h0) hs).imp fun σ H Q ⟨Hf, Γ, fr, st, p⟩ => by
    unfold fTAt tdicS at p
    cases hr : tdic (Γ[i]?) with
    | none => rw [hr] at p; exact p.elim
    | some rs0 =>
      rw [hr] at p
      obtain ⟨a, kvs, ds, e1, _⟩ := st.getTd hr
      refine ⟨.ref a, e1, Hf, Γ, fr, st, Post.bind p fun k Γ1 _ w H1 Hf1 s1 ⟨st1, z1⟩ q => ?_⟩
      obtain ⟨c, e, q'⟩ := Post.of q
      clear q
      cases hr1 : tdic (Γ1[i]?) with
      | none => rw [hr1] at e; cases e
      | some rs =>
        rw [hr1, Option.bind_some] at e
        cases hy : tKey k with
        | none => rw [hy] at e; cases e
        | some y =>
          rw [hy, Option.bind_some] at e
          obtain ⟨a', o, e3, d, g, hh⟩ := tdic_at (g := gh X W f0 h0) st1 hr1 hy z1
          rw [e1] at e3
          cases e3
          rcases hh with ⟨_, h2⟩ | ⟨v, d', rfl, h2, h3⟩
          · rw [h2] at e; cases e
          · rw [h2] at e
            cases e
            exact ⟨a, v, rfl, g, q' _ H1 Hf1 (Same.refl _) ⟨st1, h3⟩⟩⟩
theorem pf_tg1 (i : Nat) (hu : X.A.units + 1 < cLine) (hk : PF X W e fk) (m : M1 X (.Name x p) "get" apos e cpos)
    (hN : X.N[i]? = some x := by rfl) (hv : Vis X.env.scope x := by first | exact Or.inl rfl | exact Or.inr (Or.inl rfl) | exact Or.inr (Or.inr rfl)) (hd : (x == ("__debug__" : Str)) = false := by decide) (hcd : (x == ("__classdict__" : Str)) = false := by decide) :
    PF X W (.Call (.Attribute (.Name x p) "get" apos) [e] [] cpos) (fTG1 i fk) :=
  ⟨fun f0 h0 => (pe_dget1 hu (pe_var hN hv hd hcd) (hk.run f0 h0) m).imp fun σ H Q ⟨Hf, Γ, fr, st, p⟩ => by
    unfold fTG1 tdicS at p
    cases hr : tdic (Γ[i]?) with
    | none => rw [hr] at p; exact p.elim
    | some rs0 =>
      rw [hr] at p
      obtain ⟨a, kvs, ds, e1, e2, _⟩ := st.getTd hr
      refine ⟨.ref a, e1, a, rfl, .inr ⟨kvs, .inl e2⟩, Hf, Γ, fr, st, Post.bind p fun k Γ1 _ w H1 Hf1 s1 ⟨st1, z1⟩ q => ?_⟩
      obtain ⟨c, e, q'⟩ := Post.of q
      clear q
      cases hr1 : tdic (Γ1[i]?) with
      | none => rw [hr1] at e; cases e
      | some rs =>
        rw [hr1, Option.bind_some] at e
        cases hy : tKey k with
        | none => rw [hy] at e; cases e
        | some y =>
          rw [hy, Option.map_some] at e
          cases e
          obtain ⟨a', o, e3, d, g, hh⟩ := tdic_at (g := gh X W f0 h0) st1 hr1 hy z1
          rw [e1] at e3
          cases e3
          rcases hh with ⟨rfl, h2⟩ | ⟨v, d', rfl, h2, h3⟩
          · try dsimp only at q'
            rw [h2] at q'
            exact ⟨none, g, q' _ H1 Hf1 (Same.refl _) ⟨st1, .non⟩⟩
          · try dsimp only at q'
            rw [h2] at q'
            exact ⟨some v, g, q' _ H1 Hf1 (Same.refl _) ⟨st1, h3⟩⟩⟩
theorem pf_tg2 (i : Nat) (hu : X.A.units + 1 < cLine) (hk : PF X W e fk) (hx : PF X W f fx) (m : M2 X (.Name x p) "get" apos e f cpos)
    (hN : X.N[i]? = some x := by rfl) (hv : Vis X.env.scope x := by first | exact Or.inl rfl | exact Or.inr (Or.inl rfl) | exact Or.inr (Or.inr rfl)) (hd : (x == ("__debug__" : Str)) = false := by decide) (hcd : (x == ("__classdict__" : Str)) = false := by decide) :
    PF X W (.Call (.Attribute (.Name x p) "get" apos) [e, f] [] cpos) (fTG2 i fk fx) :=
  ⟨fun f0 h0 => (pe_dget2 hu (pe_var hN hv hd hcd) (hk.run f0 h0) (hx.run f0 h0) m).imp fun σ H Q ⟨Hf, Γ, fr, st, p⟩ => by
    unfold fTG2 tdicS at p
    cases hr : tdic (Γ[i]?) with
    | none => rw [hr] at p; exact p.elim
    | some rs0 =>
      rw [hr] at p
      obtain ⟨a, kvs, ds, e1, e2, _⟩ := st.getTd hr
      refine ⟨.ref a, e1, a, rfl, .inr ⟨kvs, .inl e2⟩, Hf, Γ, fr, st, Post.bind p fun k Γ1 _ w H1 Hf1 s1 ⟨st1, z1⟩ q => ⟨Hf1, Γ1, fr, st1, Post.bind q fun xd Γ2 _ u H2 Hf2 s2 ⟨st2, z2⟩ q2 => ?_⟩⟩
      obtain ⟨c, e, q'⟩ := Post.of q2
      clear q2 q
      cases hr1 : tdic (Γ2[i]?) with
      | none => rw [hr1] at e; cases e
      | some rs =>
        rw [hr1, Option.bind_some] at e
        cases hy : tKey k with
        | none => rw [hy] at e; cases e
        | some y =>
          rw [hy, Option.map_some] at e
          cases e
          obtain ⟨a', o, e3, d, g, hh⟩ := tdic_at (g := gh X W f0 h0) st2 hr1 hy (z1.mono s2)
          rw [e1] at e3
          cases e3
          rcases hh with ⟨rfl, h2⟩ | ⟨v, d', rfl, h2, h3⟩
          · try dsimp only at q'
            rw [h2] at q'
            exact ⟨none, g, q' _ H2 Hf2 (Same.refl _) ⟨st2, z2⟩⟩
          · try dsimp only at q'
            rw [h2] at q'
            exact ⟨some v, g, q' _ H2 Hf2 (Same.refl _) ⟨st2, h3⟩⟩⟩
theorem ps_tputI (i : Nat) (hu : X.A.units + 1 < cLine) (hv : PF X W value fv) (hk : PF X W ix fk)
    (hN : X.N[i]? = some x := by rfl) (hvis : Vis X.env.scope x := by first | exact Or.inl rfl | exact Or.inr (Or.inl rfl) | exact Or.inr (Or.inr rfl)) (hd : (x == ("__debug__" : Str)) = false := by decide) (hcd : (x == ("__classdict__" : Str)) = false := by decide)
    (hs : swapsWith value (some (.Subscript (.Name x p) ix tpos)) pos.line X.env = pure false := by rfl) :
    PSt X W (.Assign [.Subscript (.Name x p) ix tpos] value pos) (sTPutI i fv fk) :=
  ⟨fun f0 h0 => (ps_dput hu (pe_var hN hvis hd hcd) (hk.run f0 h0) (hv.run f0 h0) hs).imp fun D σ H ⟨Hf, Γ, fr, st, p⟩ => by
    refine ⟨Hf, Γ, fr, st, PostS.bind p fun d Γ1 _ v H1 Hf1 s1 ⟨st1, z1⟩ q => ?_⟩
    unfold tputS at q
    split at q
    · rename_i rs0 hΓ
      obtain ⟨a, kvs, ds, e1, e2, f1, _⟩ := st1.getTo hΓ
      refine ⟨.ref a, e1, Hf1, Γ1, fr, st1, PostS.bind q fun k Γ2 _ y H2 Hf2 s2 ⟨st2, z2⟩ q2 => ?_⟩
      unfold tputE at q2
      split at q2
      · rename_i rs hΓ2
        cases hy : tKey k with
        | none => rw [hy] at q2; exact q2.elim
        | some y' =>
          rw [hy] at q2
          dsimp only at q2
          split at q2
          · rename_i hlen
            obtain ⟨a', kvs2, ds2, e3, e4, f4, rfl⟩ := st2.getTo hΓ2
            rw [e1] at e3
            cases e3
            obtain ⟨kb, rfl, hkb, rfl⟩ := tkey_val z2 hy
            obtain ⟨ds', e5, f5⟩ := trows_put (k := y') (z1.mono s2) f4
            rw [e5] at q2
            rw [trows_len f4] at hlen
            exact ⟨a, _, rfl, DPut.t e4 (st2.sub _ _ hkb) (by rw [sizeLine_eq]; exact hlen), q2 _ _ Hf2 (Same.refl _) (st2.mutTd hΓ2 e1 f5)⟩
          · exact q2.elim
      · exact q2.elim
    · exact q.elim⟩
end

end PV
namespace PV
open PySem PySem.Spec PyProof.Rows L2
/-! ### dict comprehensions, the keys ints and texts, or tuples of them -/
/-- the block's own write -/
theorem put_blk {X : L2.Cx} {ps : List (Addr × Obj)} {τ : St} {G G' : Hp} {z : Shared} {d : Addr} {x y : V} {ux uy : Value} {Er : Value → Shared → Prop} {Pq : Unit → Shared → Prop} (hu : X.A.units + 1 < cLine) (J : Inv X ps τ G z) (w : DPut G d x y G') (rx : RelV x ux) (ry : RelV y uy)
    (k : ∀ z', Inv X ps τ G' z' → Pq () z') : wpAny (model X.prog X.w) X.A (dictSet d ux uy) Pq Er z := by
  rcases w with ⟨kvs, q, e, rfl, hl, rfl⟩ | ⟨kvs, q, b, e, rfl, eb, hl, rfl⟩
  · obtain ⟨le, nd, us, pr, dd⟩ := dk_of J.hok e
    have l1 : us.length ≤ sizeLine := pr.length ▸ le
    have l2 : (putK kvs q y).length ≤ sizeLine := Nat.le_trans (length_putK kvs q y) hl
    exact wpAny_dictSet_pairs (hsz := l1) (kV_is rx) dd fun g' dd' sb => k _ (d_write J (by rw [e]; trivial) sb (by obtain ⟨o, _, _, ho, _⟩ := dd'; exact ⟨o, ho⟩) (dk_new l2 nd (pr.put q ry) dd'))
  · obtain rfl : ux = .ref b := rx
    obtain ⟨le, nd, us, pr, dd⟩ := dt_of J.hok e
    have l1 : us.length ≤ sizeLine := Paired.length pr ▸ le
    have l2 : (putK kvs q y).length ≤ sizeLine := Nat.le_trans (length_putK kvs q y) hl
    refine wpAny_dictSet_heap (hsz := l1) (show X.A.units < cLine by omega) (key_of J.hok eb) dd fun g' dd' sb => k _ ?_
    obtain ⟨o, es, ep, ho, p2, p3, p4, _, p5⟩ := dd'
    refine d_write J (by rw [e]; trivial) sb ⟨o, ho⟩ ⟨l2, nd, _, KT.keeps (pr.put q eb ry) fun c ys ec => ?_, o, es, ep, ho, p2, p3, p4, p5⟩
    have ne : c ≠ d := ne_of ec e fun z => nomatch z
    rw [upd_ne ne, ec]
/-- what a dict comprehension asks; o0 is the new dict, empty -/
def tDcX (o0 : HO) (wi : TI) (tg : TG) (tt : TT) (tk tv : TE) (js : List Nat) : TE := fun τ G Q => wi τ G fun J G1 => ∀ d, G1 d = none → ∃ Wx : Nat → Nat → Hp → Prop, (∃ m, Wx 0 m (upd G1 d o0)) ∧ ∀ i m G2, Wx i m G2 →
  (J.stop i G2 ∧ Q (.ref d) G2) ∨ (J.go i G2 ∧ ∃ Nx : Hp → Prop, (∀ G3, Nx G3 → ∃ k, k < m ∧ Wx (i + 1) k G3) ∧ ∀ x G3, J.yld i G2 x G3 → tg x (wipe τ js) G3 fun τ2 G4 => wipe τ2 js = wipe τ js ∧ tt τ2 G4 fun b G5 =>
    if b = true then tk τ2 G5 fun y G6 => tv τ2 G6 fun z G7 => ∃ G8, DPut G7 d y z G8 ∧ Nx G8 else Nx G5)
section
variable {X : L2.Cx}
theorem dcX_core {o0 : HO} {ek ev tg iter : Expr} {ifs : List Expr} {sc : Scope} {own : List (Str × Nat)} {pos pos' : Pos} {wi : TI} {gg : TG} {tt : TT} {tk tv : TE} {ps : List (Addr × Obj)} {z : Shared} {τ : St} {G : Hp} {Q : VK} {us : Option (Value → Sem Unit)} {Qf : Value → Shared → Prop}
    (h0 : o0 = .dK [] ∨ o0 = .dT []) (hu : X.A.units + 1 < cLine) (hc : X.calm = true) (hN : X.N.Nodup) (J : Inv X ps τ G z) (hi : PI X tg iter wi) (bok : BlkOk X.N X.env.scope sc own)
    (hg : ∀ z G C cl fp, PG (X.blk z G sc (compEnvC sc cl C X.env) fp) tg gg) (ht : ∀ z G C cl fp, PTs (X.blk z G sc (compEnvC sc cl C X.env) fp) ifs tt)
    (hk : ∀ z G C cl fp, PE (X.blk z G sc (compEnvC sc cl C X.env) fp) ek tk) (hv : ∀ z G C cl fp, PE (X.blk z G sc (compEnvC sc cl C X.env) fp) ev tv)
    (hf : ∀ x, foldedSetIterable iter X.env x = pure x) (h : tDcX o0 wi gg tt tk tv (own.map (·.2)) τ G Q)
    (hend : ∀ d C z' m G', Inv X ps τ G' z' → Q (.ref d) G' → z'.heap.Ns C m → FpOk X ps G' C → compPost (model X.prog X.w) X.A X.xe us Qf (.ref d) C (.ok .next) z') :
    wpAny (model X.prog X.w) X.A (comprehension (.DictComp ek ev [⟨tg, iter, ifs, 0⟩] sc pos) sc X.env pos' newDict false (eval iter X.env) us) Qf X.xe z := by
  have clo : ∀ y ∈ sc.names, y.2 = .free → ∃ c, X.env.cells.lookup y.1 = some c := fun y hy e => (bok.free y hy e).elim (fun k => J.ok.has _ (.inl k)) fun k => J.ok.has _ (.inr k)
  refine wpAny_comprehension_free (use := us) rfl hf (closure_ok clo) bok.kind (fun y hy e => by rw [bok.uniq y hy, e]) (thn (hi.run ps z τ G _ J h) fun xv z1 hx => thn hx fun itv z2 ⟨it, fp, tn, It1, G2, eit, J2, T, t2, f2, q⟩ => ?_)
  subst eit
  refine wpAny_newObj_type (newEnv_comp ?_)
  obtain ⟨d, hd⟩ : ∃ d, z2.heap.objs.size = d := ⟨_, rfl⟩
  rw [hd]
  have dn : G2 d = none := J2.hok.fresh (Nat.le_of_eq hd)
  obtain ⟨Wx, ⟨m0, w0⟩, turn⟩ := q d dn
  obtain ⟨z3, hz3⟩ : ∃ z3 : Shared, z3 = { z2 with heap := z2.heap.push { cls := .type "dict", data := .dict #[] } } := ⟨_, rfl⟩
  have hh3 : z3.heap = z2.heap.push { cls := .type "dict", data := .dict #[] } := by rw [hz3]
  have J3 : Inv X ps τ (upd G2 d o0) z3 := by
    subst hz3
    exact J2.laid (t' := z2.toks) (fun _ _ e => Heap.get?_push_of_some _ e) (Nat.le_of_eq hd) (by
      subst hd
      rcases h0 with rfl | rfl
      · exact dk_empty z2.heap J2.big
      · exact dt_empty z2.heap J2.big)
  have low : ∀ b ∈ fp, b < z2.heap.objs.size := fun b hb => let ⟨_, e, _⟩ := T.obj _ _ t2 b hb; Heap.lt_size e
  have f3 : ∀ b ∈ fp, FpOk X ps (upd G2 d o0) b ∧ b < z3.heap.objs.size := fun b hb => ⟨⟨by rw [upd_ne (hd ▸ Nat.ne_of_lt (low b hb))]; exact (f2 b hb).1, (f2 b hb).2⟩, by rw [hh3, Heap.size_push]; exact Nat.lt_succ_of_lt (low b hb)⟩
  have t3 : tn 0 z3.heap := T.keep _ _ _ t2 fun b _ o e => hh3 ▸ Heap.get?_push_of_some _ e
  have J4 := block_start J3 bok hN f3
  have nfp : ∀ b ∈ fp, upd G2 d o0 b = none := fun b hb => (f3 b hb).1.1
  rw [show ({ z2 with heap := z2.heap.push { cls := .type "dict", data := .dict #[] } } : Shared) = z3 from hz3.symm]
  obtain ⟨ce, hce⟩ : ∃ ce, compEnvC sc (cellsFrom (z3.heap.objs.size + 1) sc.names (cloFrom X.env.cells sc.names [])) z3.heap.objs.size X.env = ce := ⟨_, rfl⟩
  obtain ⟨G3, hG3⟩ : ∃ G3, upd G2 d o0 = G3 := ⟨_, rfl⟩
  have pg := hg z3 G3 z3.heap.objs.size (cellsFrom (z3.heap.objs.size + 1) sc.names (cloFrom X.env.cells sc.names [])) fp
  have pt := ht z3 G3 z3.heap.objs.size (cellsFrom (z3.heap.objs.size + 1) sc.names (cloFrom X.env.cells sc.names [])) fp
  have pk := hk z3 G3 z3.heap.objs.size (cellsFrom (z3.heap.objs.size + 1) sc.names (cloFrom X.env.cells sc.names [])) fp
  have pv := hv z3 G3 z3.heap.objs.size (cellsFrom (z3.heap.objs.size + 1) sc.names (cloFrom X.env.cells sc.names [])) fp
  rw [hG3] at J3 J4 w0 nfp f3
  rw [hce] at J4 pg pt pk pv
  have cl : ce.locals = z3.heap.objs.size := by rw [← hce]; rfl
  obtain ⟨z4, hz4⟩ : ∃ z4 : Shared, z4 = { z3 with heap := pushCells (z3.heap.push { cls := .type "dict", data := .dict #[] }) sc.names } := ⟨_, rfl⟩
  show codeAny _ _ (.compStart (.DictComp ek ev [⟨tg, iter, ifs, 0⟩] sc pos) 0 (.ref it) (.ref d) (compEnvC sc (cellsFrom (z3.heap.objs.size + 1) sc.names (cloFrom X.env.cells sc.names [])) z3.heap.objs.size X.env)) _ { z3 with heap := pushCells (z3.heap.push { cls := .type "dict", data := .dict #[] }) sc.names }
  rw [hce, ← hz4]
  rw [← hz4] at J4
  have t4 : tn 0 z4.heap := T.keep _ _ _ t3 fun b _ o e => hz4 ▸ pushCells_keeps _ _ _ _ (Heap.get?_push_of_some _ e)
  have stat : ∀ {τ' G' z'}, Inv (X.blk z3 G3 sc ce fp) [] τ' G' z' → (∀ b ∈ fp, G' b = none) → ∀ b ∈ fp, FpOk (X.blk z3 G3 sc ce fp) [] G' b := fun J' n b hb =>
    ⟨n b hb, (J'.ok.exf b hb).1, J'.ok.exfs b hb, .inl hb, fun x c e => (J'.ok.exf b hb).2 x c e, fun p hp => absurd (show p ∈ ([] : List (Addr × Obj)) ++ [] from hp) (by simp)⟩
  refine codeAny_compStart_dict ?L (T.self X.A 0 _ _ _ t4 ?L)
  refine compLoop_anyD (fun n z' => ∃ i G', Inv (X.blk z3 G3 sc ce fp) [] (wipe τ (own.map (·.2))) G' z' ∧ tn i z'.heap ∧ (∀ b ∈ fp, G' b = none) ∧ Wx i n G') (fun n z5 ⟨i, G5, J5, t5, n5, w5⟩ => ?_) m0 ⟨0, G3, J4, t4, nfp, w0⟩
  rcases turn i n G5 w5 with ⟨stop, fin⟩ | ⟨go, Nx, hNx, step⟩
  · refine thnF (T.done (X.blk z3 G3 sc ce fp) rfl rfl rfl hc i [] z5 _ G5 (fun _ _ => False) J5 (stat J5 n5) t5 stop) fun r z6 ⟨er, J6⟩ => ?_
    subst er
    have J7 : Inv X ps τ G5 z6 := J3.call' (ch := fp) J6.os J6.base J6.hok J6.bare fun b hb => ⟨(f3 b hb).1.2.2.2.1, (f3 b hb).1.2.1, (f3 b hb).1.2.2.2.2.1, (f3 b hb).1.2.2.2.2.2⟩
    have nC : G5 z3.heap.objs.size = none := cl ▸ (show G5 ce.locals = none from J6.free)
    obtain ⟨mm, hn, _⟩ := J6.loc
    have hn : z6.heap.Ns z3.heap.objs.size mm := cl ▸ (show z6.heap.Ns ce.locals mm from hn)
    exact hend d z3.heap.objs.size z6 mm G5 J7 fin hn (J3.fpOk (Nat.le_refl _) nC)
  · refine thnF (T.item (X.blk z3 G3 sc ce fp) rfl rfl rfl hc i [] z5 _ G5 (fun _ _ => False) J5 (stat J5 n5) t5 go) fun r z6 ⟨u, er, h6⟩ => ?_
    subst er
    refine thnF h6 fun _ z7 ⟨x, G7, J7, r7, y7, t7, n7⟩ => ?_
    refine thnF (pg.run _ z7 _ G7 x u _ (J7.pinned (stat J7 n7) (T.obj _ _ t7)) r7 (step x G7 y7)) fun _ z8 ⟨τ8, G8, J8, w8, q8⟩ => ?_
    refine thnF (pt.run _ z8 τ8 G8 _ J8 q8) fun b z9 ⟨G9, J9, q9⟩ => ?_
    have back : ∀ {z' : Shared} {G' : Hp}, Inv (X.blk z3 G3 sc ce fp) ([] ++ pinsAt fp z7.heap) τ8 G' z' → Nx G' → ∃ m, m < n ∧ ∃ i G', Inv (X.blk z3 G3 sc ce fp) [] (wipe τ (own.map (·.2))) G' z' ∧ tn i z'.heap ∧ (∀ b ∈ fp, G' b = none) ∧ Wx i m G' := fun {z' G'} J' nx => by
      obtain ⟨k, hk, w'⟩ := hNx G' nx
      have pin : ∀ b ∈ fp, ∀ o, z7.heap.get? b = some o → z'.heap.get? b = some o ∧ G' b = none := fun b hb o e =>
        let p := J'.pin (b, o) (List.mem_append_right _ (List.mem_append_right _ (mem_pinsAt hb e)))
        ⟨p.1, p.2.1⟩
      refine ⟨k, hk, i + 1, G', (J'.unpinned (pins := [])).weak (by rw [← w8, wipe_length]) fun j v e => (wipe_some (w8 ▸ e)).1, T.keep _ _ _ t7 fun b hb o e => (pin b hb o e).1, fun b hb => ?_, w'⟩
      obtain ⟨o, e, _⟩ := T.obj _ _ t7 b hb
      exact (pin b hb o e).2
    cases b with
    | false =>
      rw [if_neg Bool.false_ne_true] at q9 ⊢
      exact back J9 q9
    | true =>
      rw [if_pos rfl] at q9 ⊢
      exact thnF (pk.run _ z9 τ8 G9 _ J9 q9) fun u1 zA ⟨yk, GA, JA, rA, qA⟩ => thnF (pv.run _ zA τ8 GA _ JA qA) fun u2 zB ⟨yv, GB, JB, rB, G8', pp, nx⟩ =>
        put_blk (X := X.blk z3 G3 sc ce fp) hu JB pp rA rB fun zC JC => back JC nx
/-- as a value -/
theorem pe_dcX {o0 : HO} {ek ev tg iter : Expr} {ifs : List Expr} {sc : Scope} {own : List (Str × Nat)} {pos : Pos} {wi : TI} {gg : TG} {tt : TT} {tk tv : TE}
    (h0 : o0 = .dK [] ∨ o0 = .dT []) (hu : X.A.units + 1 < cLine) (hc : X.calm = true) (hN : X.N.Nodup) (hi : PI X tg iter wi) (bok : BlkOk X.N X.env.scope sc own)
    (hg : ∀ z G C cl fp, PG (X.blk z G sc (compEnvC sc cl C X.env) fp) tg gg) (ht : ∀ z G C cl fp, PTs (X.blk z G sc (compEnvC sc cl C X.env) fp) ifs tt)
    (hk : ∀ z G C cl fp, PE (X.blk z G sc (compEnvC sc cl C X.env) fp) ek tk) (hv : ∀ z G C cl fp, PE (X.blk z G sc (compEnvC sc cl C X.env) fp) ev tv)
    (hf : ∀ x, foldedSetIterable iter X.env x = pure x := by intro _; rfl) : PE X (.DictComp ek ev [⟨tg, iter, ifs, 0⟩] sc pos) (tDcX o0 wi gg tt tk tv (own.map (·.2))) := by
  refine ⟨fun ps z τ G Q J h => ?_⟩
  rw [arm_eval_DictComp]
  refine dcX_core h0 hu hc hN J hi bok hg ht hk hv hf h fun d C z' mm G' J' q hn ⟨g0, g1, g2, g3, g4, g5⟩ => ?_
  exact ⟨mm, hn, fun h'' sb => ⟨.ref d, G', J'.turned (t' := z'.toks) (fun b o hb e => (sb.2 b hb).trans e) g0 g1 g3 g4 g5, rfl, q⟩⟩
/-- stored at once -/
theorem ps_dcX {i : Nat} {y : Str} {py : Pos} {o0 : HO} {ek ev tg iter : Expr} {ifs : List Expr} {sc : Scope} {own : List (Str × Nat)} {pos spos : Pos} {wi : TI} {gg : TG} {tt : TT} {tk tv : TE}
    (h0 : o0 = .dK [] ∨ o0 = .dT []) (hu : X.A.units + 1 < cLine) (hc : X.calm = true) (hN : X.N.Nodup) (hy : X.N[i]? = some y) (hyl : X.env.scope.names.lookup y = some .local)
    (sw : swapsWith (.DictComp ek ev [⟨tg, iter, ifs, 0⟩] sc pos) (some (.Name y py)) spos.line X.env = pure true) (hi : PI X tg iter wi) (bok : BlkOk X.N X.env.scope sc own)
    (hg : ∀ z G C cl fp, PG (X.blk z G sc (compEnvC sc cl C X.env) fp) tg gg) (ht : ∀ z G C cl fp, PTs (X.blk z G sc (compEnvC sc cl C X.env) fp) ifs tt)
    (hk : ∀ z G C cl fp, PE (X.blk z G sc (compEnvC sc cl C X.env) fp) ek tk) (hv : ∀ z G C cl fp, PE (X.blk z G sc (compEnvC sc cl C X.env) fp) ev tv)
    (hf : ∀ x, foldedSetIterable iter X.env x = pure x := by intro _; rfl) :
    PS X (.Assign [.Name y py] (.DictComp ek ev [⟨tg, iter, ifs, 0⟩] sc pos) spos) (tAsg (tDcX o0 wi gg tt tk tv (own.map (·.2))) (gName i)) := by
  refine ⟨fun ps z τ G R J h => ?_⟩
  rw [exec_Assign_Name_used _ _ _ _ sw]
  refine wpAny_bind (wpAny_standAt (wpAny_bind ?_))
  show wpAny _ X.A ((comprehension (.DictComp ek ev [⟨tg, iter, ifs, 0⟩] sc pos) sc X.env (firstIterPos [⟨tg, iter, ifs, 0⟩] pos) newDict false (eval iter X.env) (some (assign (.Name y py) X.env))) >>= fun _ => _) _ _ z
  refine wpAny_bind (thn (dcX_core (Qf := fun _ z' => SP X ps R .next z') (Q := fun x G1 => gName i x τ G1 R.nx) h0 hu hc hN J hi bok hg ht hk hv hf h fun d C z' mm G' J' q hn f => ?_) fun _ _ hq => wpAny_pure (wpAny_pure hq))
  show wpAny _ _ (assign (.Name y py) X.env (.ref d)) _ _ _
  obtain ⟨g0, g1, g2, g3, g4, g5⟩ := f
  refine wpAny_assign_Name (store_ok2 (v := V.ref d) J' hN hy (.inl hyl) rfl (fun z2 J2 ⟨e, sb, he⟩ => ?_) (.inr hyl))
  have nC : C ≠ e := he.elim (fun k => k ▸ g1) fun k q => g4 y e k q.symm
  exact ⟨mm, hn.sameBut sb nC, fun h3 sb3 => ⟨_, G', J2.turned (t' := z2.toks) (fun b o hb q => (sb3.2 b hb).trans q) g0 g1 g3 g4 g5, q⟩⟩
theorem sw_dc {ek ev : Expr} {gs : List Comprehension} {sc : Scope} {pos py : Pos} {y : Str} {l : Nat} {env : Env} (hk : env.scope.kind = .function) (hy : env.scope.names.lookup y = some .local) (hl : (py.line == pos.line) = true)
    (ha : (sc.names.any fun (n, k) => n == y && (k == .local || k == .cell)) = false) : swapsWith (.DictComp ek ev gs sc pos) (some (.Name y py)) l env = pure true := by
  have e1 : env.kindOf y = some .local := hy
  have e2 : env.blockKind = .function := by unfold Env.blockKind; rw [hk]; rfl
  unfold swapsWith
  simp only [e2, e1, ha, Expr.pos, hl]
  rfl
end
end PV
namespace PV
open PySem PySem.Spec PyProof.Rows L2
/-! ### {k: v for ..}: keys ints and texts (false), tuples of them (true) -/
def flSh : Bool → Sh | false => .d .z | true => .e .z
def flD : Bool → List (D × D) → D | false, rs => .dict rs | true, rs => .dict ((.bool true, .none) :: rs)
def flPut : Bool → List (D × D) → D → D → Option (List (D × D))
  | false, rs, k, d => (dKey k).map fun y => dPutL rs y d
  | true, rs, k, d => (tKey k).map fun y => tPutL rs y d
def flO : Bool → HO | false => .dK [] | true => .dT []
theorem flO_is (t : Bool) : flO t = .dK [] ∨ flO t = .dT [] := by cases t <;> first | exact .inl rfl | exact .inr rfl
def putAll (t : Bool) : List D → List (D × D) → Option (List (D × D))
  | [], rs => some rs
  | .tuple [k, v] :: es, rs => (flPut t rs k v).bind fun rs' => putAll t es rs'
  | _ :: _, _ => none
def vDc (t : Bool) (is : List Nat) (f : Ev → Out (List D)) (g : D → Ev → Option Ev) (c : Ev → Out Bool) (fk fv : Ev → Out D) : Ev → Out Va := fun Γ => (f Γ).bind fun ds Γ1 => if ds.length ≤ 16777216 then
    (match compL is g c (fTup (fsC fk (fsC fv fsN))) ds (wipeG Γ1 is) with | some (es, Γ2) => (match putAll t es [] with | some rs => .ok (flSh t, flD t rs) (restG Γ1 Γ2 is) | none => .st) | none => .st) else .st
section
variable {g : Gh} {Hf H : Hp} {σ : St} {Γ : Ev} {fr : List (V × Va)}
theorem dc_put {t : Bool} {a : Addr} {rs rs' : List (D × D)} {y z : V} {k d : D} (st : StOk g Hf H σ Γ ((.ref a, (flSh t, flD t rs)) :: fr)) (zy : Fz g.K Hf y k) (zv : Fz g.K Hf z d) (e : flPut t rs k d = some rs') (hl : rs.length < 16777216) :
    ∃ H', DPut H a y z H' ∧ StOk g Hf H' σ Γ ((.ref a, (flSh t, flD t rs')) :: fr) ∧ rs'.length ≤ rs.length + 1 := by
  obtain ⟨ω, w⟩ := id st
  cases t with
  | false =>
    obtain ⟨A, ⟨a', kvs, ds, B, e1, e2, e3, r, e4⟩, nd, hA⟩ := w.fr.1
    cases e1
    injection e2 with e2
    subst e2
    change (dKey k).map _ = some rs' at e
    cases hy : dKey k with
    | none => rw [hy] at e; cases e
    | some q =>
      rw [hy] at e
      cases e
      obtain ⟨rfl, rfl⟩ := key_val zy hy
      obtain ⟨ds', e5, f5⟩ := rows_put (k := q) zv r.zs.2
      have l1 : kvs.length < 16777216 := by rw [show (List.map (fun p => kD p.fst) kvs).zip ds = rows kvs ds from rfl, rows_len r.zs.2] at hl; exact hl
      refine ⟨_, DPut.k e3 (by rw [sizeLine_eq]; exact l1), ?_, ?_⟩
      · show StOk g Hf _ σ Γ ((.ref a, (.d .z, .dict (dPutL (rows kvs ds) q d))) :: fr)
        rw [e5]
        exact st.mutTopH (fun _ o => own_d_mem o) (own_d_z f5)
      · show (dPutL (rows kvs ds) q d).length ≤ (rows kvs ds).length + 1
        rw [e5, rows_len f5, rows_len r.zs.2]
        exact length_putK kvs q z
  | true =>
    obtain ⟨A, ⟨a', kvs, ds, B, e1, e2, e3, r, e4⟩, nd, hA⟩ := w.fr.1
    cases e1
    injection e2 with e2
    injection e2 with _ e2
    subst e2
    change (tKey k).map _ = some rs' at e
    cases hy : tKey k with
    | none => rw [hy] at e; cases e
    | some q =>
      rw [hy] at e
      cases e
      obtain ⟨b, rfl, hb, rfl⟩ := tkey_val zy hy
      obtain ⟨ds', e5, f5⟩ := trows_put (k := q) zv r.zs.2
      have l1 : kvs.length < 16777216 := by rw [show (List.map (fun p => kT p.fst) kvs).zip ds = trows kvs ds from rfl, trows_len r.zs.2] at hl; exact hl
      refine ⟨_, DPut.t e3 (st.sub _ _ hb) (by rw [sizeLine_eq]; exact l1), ?_, ?_⟩
      · show StOk g Hf _ σ Γ ((.ref a, (.e .z, .dict ((.bool true, .none) :: tPutL (trows kvs ds) q d))) :: fr)
        rw [e5]
        exact st.mutTopH (fun _ o => own_e_mem o) (own_e_z f5)
      · show (tPutL (trows kvs ds) q d).length ≤ (trows kvs ds).length + 1
        rw [e5, trows_len f5, trows_len r.zs.2]
        exact length_putK kvs q z
theorem dc_new (t : Bool) {a : Addr} (st : StOk g Hf H σ Γ fr) (n : H a = none) : StOk g Hf (upd H a (flO t)) σ Γ ((.ref a, (flSh t, flD t [])) :: fr) := by
  cases t with
  | false => exact st.pushN (NewV.od (kvs := []) (ds := []) st.sub n .nil)
  | true => exact st.pushN (NewV.te (kvs := []) (ds := []) st.sub n .nil)
end
theorem pair_run {fk fv : Ev → Out D} {Γ : Ev} : fTup (fsC fk (fsC fv fsN)) Γ = (fk Γ).bind fun k Γ1 => (fv Γ1).bind fun v Γ2 => .ok (.tuple [k, v]) Γ2 := by
  unfold fTup fsC
  cases fk Γ with
  | ok k Γ1 =>
    simp only [Out.bind]
    cases fv Γ1 with
    | ok v Γ2 => rfl
    | ex e Γ2 => rfl
    | st => rfl
  | ex e Γ1 => rfl
  | st => rfl
theorem dc_core2 {t : Bool} {g : GW} {is : List Nat} {f : Ev → Out (List D)} {tt : D → Ev → Option Ev} {c : Ev → Out Bool} {fk fv : Ev → Out D} {σ : St} {H : Hp} {Q : VK} (h : tV g (vDc t is f tt c fk fv) σ H Q) :
    tDcX (flO t) (tI g f) (tG g is tt) (tT ⟨g.h, g.mg, W0⟩ c) (tF ⟨g.h, g.mg, W0⟩ fk) (tF ⟨g.h, g.mg, W0⟩ fv) is σ H Q := by
  obtain ⟨Hf, Γ, fr, st, p⟩ := h
  refine ⟨Hf, Γ, fr, st, Post.bind p fun ds Γ1 _ J H1 Hf1 s1 ⟨st1, it⟩ q => ?_⟩
  split at q
  · rename_i lenOk
    cases hc : compL is tt c (fTup (fsC fk (fsC fv fsN))) ds (wipeG Γ1 is) with
    | none => rw [hc] at q; exact q.elim
    | some r =>
      obtain ⟨es, Γ2⟩ := r
      rw [hc] at q
      dsimp only at q
      cases hp : putAll t es [] with
      | none => rw [hp] at q; exact q.elim
      | some rsF =>
        rw [hp] at q
        intro a na
        have stD : StOk g.h Hf1 (upd H1 a (flO t)) (wipe σ is) (wipeG Γ1 is) ((.ref a, (flSh t, flD t [])) :: fr) := (dc_new t st1 na).wipe is
        refine ⟨fun i m H => m = ds.length - i ∧ i ≤ ds.length ∧ ∃ Hf2 Γ3 rs es', Same Hf1 Hf2 ∧ rs.length ≤ i ∧ StOk g.h Hf2 H (wipe σ is) Γ3 ((.ref a, (flSh t, flD t rs)) :: fr) ∧ (∀ j ∈ is, ∀ x, Γ3[j]? ≠ some (some x)) ∧
          compL is tt c (fTup (fsC fk (fsC fv fsN))) (ds.drop i) Γ3 = some (es', Γ2) ∧ putAll t es' rs = some rsF, ⟨_, rfl, Nat.zero_le _, Hf1, _, [], es, Same.refl _, Nat.le_refl _, stD, wipeG_none, hc, hp⟩, ?_⟩
        rintro i m H2 ⟨rfl, hi, Hf2, Γ3, rs, es', s2, la, st2, hn, hcl, hpl⟩
        obtain ⟨g1, g2⟩ := it i Hf2 H2 s2 st2.sub
        cases h : ds[i]? with
        | none =>
          rw [List.drop_eq_nil_of_le (List.getElem?_eq_none_iff.mp h)] at hcl
          have hcl' : ([], Γ3) = (es', Γ2) := Option.some.inj hcl
          cases hcl'
          cases hpl
          exact .inl ⟨g2 h, q _ H2 Hf2 s2 (StOk.rest st1 s2 st2 hn is)⟩
        | some d =>
          obtain ⟨go, yl⟩ := g1 d h
          have hlt := (List.getElem?_eq_some_iff.mp h).1
          have ed : ds.drop i = d :: ds.drop (i + 1) := by
            rw [List.drop_eq_getElem_cons hlt]
            rw [List.getElem?_eq_getElem hlt] at h
            rw [Option.some.inj h]
          rw [ed] at hcl
          refine .inr ⟨go, fun H' => (i + 1 ≤ ds.length ∧ ∃ Hf2 Γ3 rs es', Same Hf1 Hf2 ∧ rs.length ≤ i + 1 ∧ StOk g.h Hf2 H' (wipe σ is) Γ3 ((.ref a, (flSh t, flD t rs)) :: fr) ∧ (∀ j ∈ is, ∀ x, Γ3[j]? ≠ some (some x)) ∧
            compL is tt c (fTup (fsC fk (fsC fv fsN))) (ds.drop (i + 1)) Γ3 = some (es', Γ2) ∧ putAll t es' rs = some rsF), fun H' n => ⟨ds.length - (i + 1), by omega, rfl, n⟩, fun x H' y => ?_⟩
          obtain ⟨Hf3, a1, a2, a3, a4, z⟩ := yl x H' y
          have st3 := st2.freeze a1 a2 a3 a4
          unfold compL at hcl
          cases ht : tt d Γ3 with
          | none => rw [ht] at hcl; cases hcl
          | some Γ4 =>
            rw [ht] at hcl
            dsimp only at hcl
            refine ⟨Hf3, Γ3, _, d, st3, z, Γ4, ht, fun σ5 H5 Hf5 s5 st5 w5 => ?_⟩
            have w5' : wipe σ5 is = wipe σ is := by rw [w5]; exact wipe_twice is fun j hj => hj
            refine ⟨w5', Hf5, Γ4, _, st5, ?_⟩
            have sA : Same Hf1 Hf5 := (s2.trans a2).trans s5
            cases hcc : c Γ4 with
            | ex e Γ5 => rw [hcc] at hcl; cases hcl
            | st => rw [hcc] at hcl; cases hcl
            | ok k Γ5 =>
              rw [hcc] at hcl
              intro k' H6 Hf6 s6 ⟨st6, ek⟩
              subst ek
              cases k' with
              | false =>
                dsimp only at hcl
                rw [if_neg Bool.false_ne_true]
                exact ⟨hlt, Hf6, _, rs, es', sA.trans s6, by omega, st6.back w5', wipeG_none, hcl, hpl⟩
              | true =>
                dsimp only at hcl
                rw [if_pos rfl]
                refine ⟨Hf6, Γ5, _, st6, ?_⟩
                rw [pair_run] at hcl
                cases hk : fk Γ5 with
                | ex e Γ6 => simp only [hk, Out.bind] at hcl; cases hcl
                | st => simp only [hk, Out.bind] at hcl; cases hcl
                | ok dk Γ6 =>
                  intro yv H7 Hf7 s7 ⟨st7, z7⟩
                  refine ⟨Hf7, Γ6, _, st7, ?_⟩
                  cases hv : fv Γ6 with
                  | ex e Γ7 => simp only [hk, hv, Out.bind] at hcl; cases hcl
                  | st => simp only [hk, hv, Out.bind] at hcl; cases hcl
                  | ok dv Γ7 =>
                    intro zv H8 Hf8 s8 ⟨st8, z8⟩
                    simp only [hk, hv, Out.bind] at hcl
                    change Option.map _ (compL is tt c (fTup (fsC fk (fsC fv fsN))) (ds.drop (i + 1)) (wipeG Γ7 is)) = _ at hcl
                    cases hr : compL is tt c (fTup (fsC fk (fsC fv fsN))) (ds.drop (i + 1)) (wipeG Γ7 is) with
                    | none => rw [hr] at hcl; cases hcl
                    | some r =>
                      obtain ⟨es2, Γ8⟩ := r
                      rw [hr] at hcl
                      cases hcl
                      change (flPut t rs dk dv).bind _ = _ at hpl
                      cases hq : flPut t rs dk dv with
                      | none => rw [hq] at hpl; cases hpl
                      | some rs' =>
                        rw [hq] at hpl
                        obtain ⟨H9, pp, st9, l9⟩ := dc_put st8 (z7.mono s8) z8 hq (by omega)
                        exact ⟨H9, pp, hlt, Hf8, _, rs', es2, ((sA.trans s6).trans s7).trans s8, by omega, st9.back w5', wipeG_none, hr, hpl⟩
  · exact q.elim
section
variable {X : Cx} {W : WX}
theorem pv_dc (t : Bool) {ek ev tg iter : Expr} {ifs : List Expr} {scope : Scope} {own : List (Str × Nat)} {pos : Pos} {f : Ev → Out (List D)} {tt : D → Ev → Option Ev} {c : Ev → Out Bool} {fk fv : Ev → Out D} (hu : X.A.units + 1 < cLine) (hc : X.calm = true) (hN : X.N.Nodup) (ok : BlkOk X.N X.env.scope scope own) (hi : PIt X W tg iter f)
    (hg : ∀ (s : Shared) (H : L2.Hp) (C : Addr) (cl : List (Str × Addr)) (fp : List Addr), PGt (X.blk s H scope (compEnvC scope cl C X.env) fp) tg (own.map (·.2)) tt)
    (ht : ∀ (s : Shared) (H : L2.Hp) (C : Addr) (cl : List (Str × Addr)) (fp : List Addr), PBs (X.blk s H scope (compEnvC scope cl C X.env) fp) W0 ifs c)
    (hk : ∀ (s : Shared) (H : L2.Hp) (C : Addr) (cl : List (Str × Addr)) (fp : List Addr), PF (X.blk s H scope (compEnvC scope cl C X.env) fp) W0 ek fk)
    (hv : ∀ (s : Shared) (H : L2.Hp) (C : Addr) (cl : List (Str × Addr)) (fp : List Addr), PF (X.blk s H scope (compEnvC scope cl C X.env) fp) W0 ev fv) (hs : ∀ x, foldedSetIterable iter X.env x = pure x := by intro _; rfl) :
    PV X W (.DictComp ek ev [⟨tg, iter, ifs, 0⟩] scope pos) (vDc t (own.map (·.2)) f tt c fk fv) :=
  ⟨fun f0 h0 => (pe_dcX (flO_is t) hu hc hN (hi.run f0 h0) ok (fun s H C cl fp => (hg s H C cl fp).run (gh X W f0 h0) rfl) (fun s H C cl fp => (ht s H C cl fp).run f0 h0) (fun s H C cl fp => (hk s H C cl fp).run f0 h0) (fun s H C cl fp => (hv s H C cl fp).run f0 h0) hs).imp fun σ H Q h => dc_core2 (t := t) (g := gh X W f0 h0) h⟩
theorem ps_dc (t : Bool) (i : Nat) {y : Str} {py : Pos} {ek ev tg iter : Expr} {ifs : List Expr} {scope : Scope} {own : List (Str × Nat)} {pos spos : Pos} {f : Ev → Out (List D)} {tt : D → Ev → Option Ev} {c : Ev → Out Bool} {fk fv : Ev → Out D} (hu : X.A.units + 1 < cLine) (hc : X.calm = true) (hN : X.N.Nodup) (ok : BlkOk X.N X.env.scope scope own)
    (hy : X.N[i]? = some y) (hyl : X.env.scope.names.lookup y = some .local) (hsw : swapsWith (.DictComp ek ev [⟨tg, iter, ifs, 0⟩] scope pos) (some (.Name y py)) spos.line X.env = pure true) (hi : PIt X W tg iter f)
    (hg : ∀ (s : Shared) (H : L2.Hp) (C : Addr) (cl : List (Str × Addr)) (fp : List Addr), PGt (X.blk s H scope (compEnvC scope cl C X.env) fp) tg (own.map (·.2)) tt)
    (ht : ∀ (s : Shared) (H : L2.Hp) (C : Addr) (cl : List (Str × Addr)) (fp : List Addr), PBs (X.blk s H scope (compEnvC scope cl C X.env) fp) W0 ifs c)
    (hk : ∀ (s : Shared) (H : L2.Hp) (C : Addr) (cl : List (Str × Addr)) (fp : List Addr), PF (X.blk s H scope (compEnvC scope cl C X.env) fp) W0 ek fk)
    (hv : ∀ (s : Shared) (H : L2.Hp) (C : Addr) (cl : List (Str × Addr)) (fp : List Addr), PF (X.blk s H scope (compEnvC scope cl C X.env) fp) W0 ev fv) (hs : ∀ x, foldedSetIterable iter X.env x = pure x := by intro _; rfl) :
    PSt X W (.Assign [.Name y py] (.DictComp ek ev [⟨tg, iter, ifs, 0⟩] scope pos) spos) (sAsg i (vDc t (own.map (·.2)) f tt c fk fv)) :=
  ⟨fun f0 h0 => (ps_dcX (flO_is t) hu hc hN hy hyl hsw (hi.run f0 h0) ok (fun s H C cl fp => (hg s H C cl fp).run (gh X W f0 h0) rfl) (fun s H C cl fp => (ht s H C cl fp).run f0 h0) (fun s H C cl fp => (hk s H C cl fp).run f0 h0) (fun s H C cl fp => (hv s H C cl fp).run f0 h0) hs).imp fun D σ H ⟨Hf, Γ, fr, st, p⟩ =>
    dc_core2 (t := t) (g := gh X W f0 h0) ⟨Hf, Γ, fr, st, PostS.bind p fun x Γ1 _ v H1 Hf1 s1 st1 q => q _ H1 Hf1 (Same.refl _) (st1.store i)⟩⟩
end
/-! a block within a block -/
theorem lookup_relab {x : Str} {P : Str → NameKind → Bool} : ∀ {names : List (Str × NameKind)}, names.lookup x = some .cell ∨ names.lookup x = some .free →
    (names.map fun (n, k) => if P n k = true then (n, NameKind.cell) else (n, k)).lookup x = some .cell ∨ (names.map fun (n, k) => if P n k = true then (n, NameKind.cell) else (n, k)).lookup x = some .free
  | [], h => by rcases h with h | h <;> cases h
  | (n, k) :: r, h => by
    rw [List.map_cons]
    rw [List.lookup_cons] at h
    by_cases c : P n k = true
    · dsimp only
      rw [if_pos c, List.lookup_cons]
      cases hx : x == n with
      | true => exact .inl rfl
      | false => rw [hx] at h; exact lookup_relab h
    · dsimp only
      rw [if_neg c, List.lookup_cons]
      cases hx : x == n with
      | true => rw [hx] at h; exact h
      | false => rw [hx] at h; exact lookup_relab h
theorem blkOk_nest {N : List Str} {sc1 scope : Scope} {own : List (Str × Nat)} {cl : List (Str × Addr)} {C : Addr} {env : Env} (h : blkC N sc1 scope own = true) : BlkOk N (compEnvC sc1 cl C env).scope scope own :=
  let b := blkOk_by h
  ⟨b.kind, b.uniq, b.ix, fun y hy e => lookup_relab (P := fun n k => k == NameKind.free && env.scope.kind == .function && env.kindOf n == some .cell) (b.free y hy e), b.own⟩
theorem set3 {α : Type} {l : List α} {i j : Nat} {a b c : α} (h : i ≠ j) : ((l.set i a).set j b).set i c = (l.set i c).set j b := by
  rw [List.set_comm _ _ (fun e => h e.symm), List.set_set]
end PV
namespace K10
open PySem PySem.Spec PyProof.Rows L2 PV

/-! ### the text -/
def topS (i : Nat) : Stmt := PySem.Challenge.pw_pinsalone_k10_tests_show_all_flaws.main.body.getD i (.Pass ⟨0, 0, 0, 0⟩)
abbrev s_cell_value : Stmt := topS 7
abbrev N_cell_value : List Str := ["kind", "values", "value"]
theorem sc_cell_value : FnScope N_cell_value ["kind", "values"] (defScope s_cell_value) := ⟨rfl, rfl, rfl, by decide +kernel, rfl, by decide +kernel, by decide +kernel⟩
abbrev s_latch_cells : Stmt := topS 9
abbrev N_latch_cells : List Str := ["circuit", "cell"]
theorem sc_latch_cells : FnScope N_latch_cells ["circuit"] (defScope s_latch_cells) := ⟨rfl, rfl, rfl, by decide +kernel, rfl, by decide +kernel, by decide +kernel⟩
abbrev s_settled_values : Stmt := topS 10
abbrev N_settled_values : List Str := ["circuit", "inputs", "states", "stuck", "values", "left", "kind", "sources", "output", "value", "net", "bit"]
theorem sc_settled_values : FnScope N_settled_values ["circuit", "inputs", "states", "stuck"] (defScope s_settled_values) := ⟨rfl, rfl, rfl, by decide +kernel, rfl, by decide +kernel, by decide +kernel⟩
abbrev s_bit_count : Stmt := topS 12
abbrev N_bit_count : List Str := ["circuit"]
theorem sc_bit_count : FnScope N_bit_count ["circuit"] (defScope s_bit_count) := ⟨rfl, rfl, rfl, by decide +kernel, rfl, by decide +kernel, by decide +kernel⟩
abbrev s_case_count : Stmt := topS 13
abbrev N_case_count : List Str := ["circuit"]
theorem sc_case_count : FnScope N_case_count ["circuit"] (defScope s_case_count) := ⟨rfl, rfl, rfl, by decide +kernel, rfl, by decide +kernel, by decide +kernel⟩
abbrev s_case_bits : Stmt := topS 14
abbrev N_case_bits : List Str := ["circuit", "case", "bits", "k"]
theorem sc_case_bits : FnScope N_case_bits ["circuit", "case"] (defScope s_case_bits) := ⟨rfl, rfl, rfl, by decide +kernel, rfl, by decide +kernel, by decide +kernel⟩
abbrev s_check_flaw : Stmt := topS 15
abbrev N_check_flaw : List Str := ["circuit", "flaw"]
theorem sc_check_flaw : FnScope N_check_flaw ["circuit", "flaw"] (defScope s_check_flaw) := ⟨rfl, rfl, rfl, by decide +kernel, rfl, by decide +kernel, by decide +kernel⟩
abbrev s_answers : Stmt := topS 16
abbrev N_answers : List Str := ["circuit", "case", "stuck", "inputs", "states", "values", "ends", "net", "cell"]
theorem sc_answers : FnScope N_answers ["circuit", "case", "stuck"] (defScope s_answers) := ⟨rfl, rfl, rfl, by decide +kernel, rfl, by decide +kernel, by decide +kernel⟩
abbrev s_shows : Stmt := topS 17
abbrev N_shows : List Str := ["circuit", "flaw", "case"]
theorem sc_shows : FnScope N_shows ["circuit", "flaw", "case"] (defScope s_shows) := ⟨rfl, rfl, rfl, by decide +kernel, rfl, by decide +kernel, by decide +kernel⟩
abbrev s_check_size : Stmt := topS 20
abbrev N_check_size : List Str := ["circuit"]
theorem sc_check_size : FnScope N_check_size ["circuit"] (defScope s_check_size) := ⟨rfl, rfl, rfl, by decide +kernel, rfl, by decide +kernel, by decide +kernel⟩
abbrev s_all_flaws : Stmt := topS 21
abbrev N_all_flaws : List Str := ["circuit", "net", "value"]
theorem sc_all_flaws : FnScope N_all_flaws ["circuit"] (defScope s_all_flaws) := ⟨rfl, rfl, rfl, by decide +kernel, rfl, by decide +kernel, by decide +kernel⟩
abbrev s_first_case : Stmt := topS 22
abbrev N_first_case : List Str := ["circuit", "flaw", "case"]
theorem sc_first_case : FnScope N_first_case ["circuit", "flaw"] (defScope s_first_case) := ⟨rfl, rfl, rfl, by decide +kernel, rfl, by decide +kernel, by decide +kernel⟩
abbrev s_hidden_flaws : Stmt := topS 23
abbrev N_hidden_flaws : List Str := ["circuit", "flaw"]
theorem sc_hidden_flaws : FnScope N_hidden_flaws ["circuit"] (defScope s_hidden_flaws) := ⟨rfl, rfl, rfl, by decide +kernel, rfl, by decide +kernel, by decide +kernel⟩
abbrev s_make_tests : Stmt := topS 24
abbrev N_make_tests : List Str := ["circuit", "shown", "case", "tests", "counts", "seen", "flaws", "flaw"]
theorem sc_make_tests : FnScope N_make_tests ["circuit"] (defScope s_make_tests) := ⟨rfl, rfl, rfl, by decide +kernel, rfl, by decide +kernel, by decide +kernel⟩
abbrev s_law_cell : Stmt := topS 26
abbrev N_law_cell : List Str := ["script", "k"]
theorem sc_law_cell : FnScope N_law_cell ["script", "k"] (defScope s_law_cell) := ⟨rfl, rfl, rfl, by decide +kernel, rfl, by decide +kernel, by decide +kernel⟩
abbrev s_law_parts : Stmt := topS 27
abbrev N_law_parts : List Str := ["cell", "sizes", "parts", "rest", "k", "mixed"]
theorem sc_law_parts : FnScope N_law_parts ["cell", "sizes"] (defScope s_law_parts) := ⟨rfl, rfl, rfl, by decide +kernel, rfl, by decide +kernel, by decide +kernel⟩
abbrev s_law_is_integer : Stmt := topS 28
abbrev N_law_is_integer : List Str := ["actual"]
theorem sc_law_is_integer : FnScope N_law_is_integer ["actual"] (defScope s_law_is_integer) := ⟨rfl, rfl, rfl, by decide +kernel, rfl, by decide +kernel, by decide +kernel⟩
abbrev s_law_kind : Stmt := topS 29
abbrev N_law_kind : List Str := ["parts", "nets", "latches", "kinds", "kind"]
theorem sc_law_kind : FnScope N_law_kind ["parts", "nets", "latches"] (defScope s_law_kind) := ⟨rfl, rfl, rfl, by decide +kernel, rfl, by decide +kernel, by decide +kernel⟩
abbrev s_law_drawn : Stmt := topS 30
abbrev N_law_drawn : List Str := ["parts", "count", "nets", "left", "drawn", "k"]
theorem sc_law_drawn : FnScope N_law_drawn ["parts", "count", "nets"] (defScope s_law_drawn) := ⟨rfl, rfl, rfl, by decide +kernel, rfl, by decide +kernel, by decide +kernel⟩
abbrev s_law_circuit : Stmt := topS 31
abbrev N_law_circuit : List Str := ["script", "most", "head", "cells", "latches", "total", "net", "parts", "kind", "outputs", "k"]
theorem sc_law_circuit : FnScope N_law_circuit ["script", "most"] (defScope s_law_circuit) := ⟨rfl, rfl, rfl, by decide +kernel, rfl, by decide +kernel, by decide +kernel⟩
abbrev s_law_value : Stmt := topS 32
abbrev N_law_value : List Str := ["kind", "bits"]
theorem sc_law_value : FnScope N_law_value ["kind", "bits"] (defScope s_law_value) := ⟨rfl, rfl, rfl, by decide +kernel, rfl, by decide +kernel, by decide +kernel⟩
abbrev s_law_answers : Stmt := topS 33
abbrev N_law_answers : List Str := ["circuit", "case", "net", "value", "nets", "count", "k", "cell", "ends", "end", "source"]
theorem sc_law_answers : FnScope N_law_answers ["circuit", "case", "net", "value"] (defScope s_law_answers) := ⟨rfl, rfl, rfl, by decide +kernel, rfl, by decide +kernel, by decide +kernel⟩
abbrev s_law_cases : Stmt := topS 34
abbrev N_law_cases : List Str := ["circuit", "count", "k", "cell"]
theorem sc_law_cases : FnScope N_law_cases ["circuit"] (defScope s_law_cases) := ⟨rfl, rfl, rfl, by decide +kernel, rfl, by decide +kernel, by decide +kernel⟩
abbrev s_law_refuses : Stmt := topS 35
abbrev N_law_refuses : List Str := ["circuit", "count", "e"]
theorem sc_law_refuses : FnScope N_law_refuses ["circuit"] (defScope s_law_refuses) := ⟨rfl, rfl, rfl, by decide +kernel, rfl, by decide +kernel, by decide +kernel⟩
abbrev s_law_shown : Stmt := topS 36
abbrev N_law_shown : List Str := ["circuit", "shown", "case", "plain", "row", "net", "value"]
theorem sc_law_shown : FnScope N_law_shown ["circuit"] (defScope s_law_shown) := ⟨rfl, rfl, rfl, by decide +kernel, rfl, by decide +kernel, by decide +kernel⟩
abbrev s_law_bare : Stmt := topS 37
abbrev N_law_bare : List Str := ["script", "circuit", "net"]
theorem sc_law_bare : FnScope N_law_bare ["script", "circuit"] (defScope s_law_bare) := ⟨rfl, rfl, rfl, by decide +kernel, rfl, by decide +kernel, by decide +kernel⟩
abbrev s_law_hidden : Stmt := topS 38
abbrev N_law_hidden : List Str := ["circuit", "shown", "hidden", "net", "value", "row"]
theorem sc_law_hidden : FnScope N_law_hidden ["circuit", "shown"] (defScope s_law_hidden) := ⟨rfl, rfl, rfl, by decide +kernel, rfl, by decide +kernel, by decide +kernel⟩
abbrev s_law : Stmt := topS 39
abbrev N_law : List Str := ["script", "parts", "inputs", "latches", "cells", "circuit", "kind", "rows", "actual", "shown", "test", "most", "seen", "k", "row", "flaw"]
theorem sc_law : FnScope N_law ["script"] (defScope s_law) := ⟨rfl, rfl, rfl, by decide +kernel, rfl, by decide +kernel, by decide +kernel⟩
/-! ### what each def computes -/
def m_GatesError : Str → Option Bool := fun n => if n = S "NoSuchThing" then some true else if n = S "TooLarge" then some true else none
def is_TooLarge : Str → Option Bool := fun n => if n = S "NoSuchThing" then some false else if n = S "TooLarge" then some true else none
def tab_CONSTANTS : List (Str × Option D) := [(S "tie0", some (.int 0)), (S "tie1", some (.int 1)), (S "not", none), (S "nand2", none), (S "nand3", none), (S "nor2", none), (S "nor3", none)]
def kd_MOST_CASES : D := (.int 64)
def kd_NANDS : D := (.dict [(.none, .tuple [(.str (S "not")), (.str (S "nand2")), (.str (S "nand3"))])])
def ce_cell_value_1 : Ev → Out D := (fV (o2 dEq (oF (fN 2)) (oF (fC (.int 1)))))
def ce_cell_value_2 : Ev → Out D := (fV (o2 dEq (oF (fN 2)) (oF (fC (.int 1)))))
def fb_cell_value : Ev → SO := (sSeq (sIf (bF (fIn false tab_CONSTANTS (oF (fN 0))))
  (sRet (vF (fGet tab_CONSTANTS (oF (fN 0)))))
  sNx)
  (sSeq (sIf (bV (o2 dIn (oF (fN 0)) (oF (fC kd_NANDS))))
  (sRet (vF (fV (fB dIntV (osC (oF (fNot (fV (fB dAll (osC (oF (fV (vComp [2] (iLT (fN 1)) (gN 2) bYes ce_cell_value_1))) osN))))) osN)))))
  sNx)
  (sRet (vF (fV (fB dIntV (osC (oF (fNot (fV (fB dAny (osC (oF (fV (vComp [2] (iLT (fN 1)) (gN 2) bYes ce_cell_value_2))) osN))))) osN)))))))
def F_cell_value : List D → Res := runD 3 2 fb_cell_value
def ce_latch_cells_1 : Ev → Out D := (fN 1)
def cc_latch_cells_1 : Ev → Out Bool := (bV (o2 dEq (oF (fV (o2 dAt (oF (fN 1)) (oF (fC (.int 0)))))) (oF (fC (.str (S "latch"))))))
def fb_latch_cells : Ev → SO := (sRet (vComp [1] (iLT (fV (o2 dAt (oF (fN 0)) (oF (fC (.int 1)))))) (gN 1) cc_latch_cells_1 ce_latch_cells_1))
def F_latch_cells : List D → Res := runD 2 1 fb_latch_cells
def ce_settled_values_1 : Ev → Out D := (fGet2 (fN 3) (fN 10) (fN 11))
def ce_settled_values_2 : Ev → Out D := (fV (o2 dAt (oB 4) (oF (fN 10))))
def lb_settled_values_1 : Ev → SO := (sWp [6, 7, 8, 9] (sSeq (sWp [] (sIf (bV (o2 dEq (oF (fN 6)) (oF (fC (.str (S "latch"))))))
  (sAsg 9 (vF (fMt 5 mPop (fsC (fC (.int 0)) fsN))))
  (sAsg 9 (vF (fV (fCall 2 F_cell_value (fsC (fN 6) (fsC (fV (vComp [10] (iLT (fN 7)) (gN 10) bYes ce_settled_values_2)) fsN))))))))
  (sExp (fMt 4 mAppend (fsC (fGet2 (fN 3) (fN 8) (fN 9)) fsN)))))
def fb_settled_values : Ev → SO := (sSeq (sAsg 4 (vComp [10, 11] (iEn (fsC (fN 1) fsN)) (gT (gsC (gN 10) (gsC (gN 11) gsN))) bYes ce_settled_values_1))
  (sSeq (sAsg 5 (fB dListOf (osC (oF (fN 2)) osN)))
  (sSeq (sPre [6, 7, 8, 9] (sFor (iLT (fV (o2 dAt (oF (fN 0)) (oF (fC (.int 1)))))) (gT (gsC (gN 6) (gsC (gN 7) (gsC (gN 8) gsN))))
  lb_settled_values_1))
  (sRet (vMv 4)))))
def F_settled_values : List D → Res := runD 12 4 fb_settled_values
def fb_bit_count : Ev → SO := (sRet (vF (fV (o2 dAdd (oF (fV (o2 dAt (oF (fN 0)) (oF (fC (.int 0)))))) (oF (fV (fB dLen (osC (oF (fV (fCall 1 F_latch_cells (fsC (fN 0) fsN)))) osN))))))))
def F_bit_count : List D → Res := runD 1 1 fb_bit_count
def fb_case_count : Ev → SO := (sRet (vF (fV (o2 dShl (oF (fC (.int 1))) (oF (fV (fCall 1 F_bit_count (fsC (fN 0) fsN))))))))
def F_case_count : List D → Res := runD 1 1 fb_case_count
def ce_case_bits_1 : Ev → Out D := (fV (o2 dAnd (oF (fV (o2 dShr (oF (fN 1)) (oF (fN 3))))) (oF (fC (.int 1)))))
def fb_case_bits : Ev → SO := (sSeq (sIf (bNot (bF (vCh dLe dLt (oF (fC (.int 0))) (oF (fN 1)) (oF (fV (fCall 1 F_case_count (fsC (fN 0) fsN)))))))
  (sRaise ⟨(S "NoSuchThing"), []⟩)
  sNx)
  (sSeq (sFz 2 (sAsg 2 (vComp [3] (iR1 (fsC (fV (fCall 1 F_bit_count (fsC (fN 0) fsN))) fsN)) (gN 3) bYes ce_case_bits_1)))
  (sRet (vF (fTup (fsC (fV (vCut (oF (fN 2)) fPN (fPS (fV (o2 dAt (oF (fN 0)) (oF (fC (.int 0)))))))) (fsC (fV (vCut (oF (fN 2)) (fPS (fV (o2 dAt (oF (fN 0)) (oF (fC (.int 0)))))) fPN)) fsN)))))))
def F_case_bits : List D → Res := runD 4 2 fb_case_bits
def fb_check_flaw : Ev → SO := (sIf (bOr (bNot (bF (vCh dLe dLt (oF (fC (.int 0))) (oF (fV (o2 dAt (oF (fN 1)) (oF (fC (.int 0)))))) (oF (fV (o2 dAdd (oF (fV (o2 dAt (oF (fN 0)) (oF (fC (.int 0)))))) (oF (fV (fB dLen (osC (oF (fV (o2 dAt (oF (fN 0)) (oF (fC (.int 1)))))) osN)))))))))) (bV (o2 dNin (oF (fV (o2 dAt (oF (fN 1)) (oF (fC (.int 1)))))) (oF (fTup (fsC (fC (.int 0)) (fsC (fC (.int 1)) fsN)))))))
  (sRaise ⟨(S "NoSuchThing"), []⟩)
  sNx)
def F_check_flaw : List D → Res := runD 2 2 fb_check_flaw
def ce_answers_1 : Ev → Out D := (fV (o2 dAt (oF (fV (o2 dAt (oF (fN 8)) (oF (fC (.int 1)))))) (oF (fC (.int 0)))))
def ce_answers_2 : Ev → Out D := (fV (o2 dAt (oF (fN 5)) (oF (fN 7))))
def fb_answers : Ev → SO := (sSeq (sTgt (gT (gsC (gN 3) (gsC (gN 4) gsN))) (fV (fCall 2 F_case_bits (fsC (fN 0) (fsC (fN 1) fsN)))))
  (sSeq (sAsg 5 (vF (fV (fCall 4 F_settled_values (fsC (fN 0) (fsC (fN 3) (fsC (fN 4) (fsC (fN 2) fsN))))))))
  (sSeq (sAsg 6 (vF (fV (o2 dAdd (oF (fV (fB dListOf (osC (oF (fV (o2 dAt (oF (fN 0)) (oF (fC (.int 2)))))) osN)))) (oF (fV (vComp [8] (iLT (fV (fCall 1 F_latch_cells (fsC (fN 0) fsN)))) (gN 8) bYes ce_answers_1)))))))
  (sRet (vComp [7] (iLT (fN 6)) (gN 7) bYes ce_answers_2)))))
def F_answers : List D → Res := runD 9 3 fb_answers
def fb_shows : Ev → SO := (sSeq (sExp (fV (fCall 2 F_check_flaw (fsC (fN 0) (fsC (fN 1) fsN)))))
  (sRet (vF (fV (o2 dNe (oF (fV (fCall 3 F_answers (fsC (fN 0) (fsC (fN 2) (fsC (fV (vDct1 (fV (o2 dAt (oF (fN 1)) (oF (fC (.int 0))))) (fV (o2 dAt (oF (fN 1)) (oF (fC (.int 1))))))) fsN)))))) (oF (fV (fCall 3 F_answers (fsC (fN 0) (fsC (fN 2) (fsC fDct0 fsN)))))))))))
def F_shows : List D → Res := runD 3 3 fb_shows
def fb_check_size : Ev → SO := (sIf (bV (o2 dGt (oF (fV (fCall 1 F_case_count (fsC (fN 0) fsN)))) (oF (fC kd_MOST_CASES))))
  (sRaise ⟨(S "TooLarge"), []⟩)
  sNx)
def F_check_size : List D → Res := runD 1 1 fb_check_size
def ce_all_flaws_1 : Ev → Out D := (fTup (fsC (fN 1) (fsC (fN 2) fsN)))
def ci_all_flaws_1 : Ev → Out (List D) := (iLT (fTup (fsC (fC (.int 0)) (fsC (fC (.int 1)) fsN))))
def fb_all_flaws : Ev → SO := (sRet (vComp2 [1, 2] (iR1 (fsC (fV (o2 dAdd (oF (fV (o2 dAt (oF (fN 0)) (oF (fC (.int 0)))))) (oF (fV (fB dLen (osC (oF (fV (o2 dAt (oF (fN 0)) (oF (fC (.int 1)))))) osN)))))) fsN)) (gN 1) bYes ci_all_flaws_1 [2] (gN 2) bYes ce_all_flaws_1))
def F_all_flaws : List D → Res := runD 3 1 fb_all_flaws
def lb_first_case_1 : Ev → SO := (sWp [2] (sIf (bO (oF (fV (fCall 3 F_shows (fsC (fN 0) (fsC (fN 1) (fsC (fN 2) fsN)))))))
  (sRet (vF (fN 2)))
  sNx))
def fb_first_case : Ev → SO := (sSeq (sExp (fV (fCall 1 F_check_size (fsC (fN 0) fsN))))
  (sSeq (sExp (fV (fCall 2 F_check_flaw (fsC (fN 0) (fsC (fN 1) fsN)))))
  (sSeq (sPre [2] (sFor (iR1 (fsC (fV (fCall 1 F_case_count (fsC (fN 0) fsN))) fsN)) (gN 2)
  lb_first_case_1))
  (sRet (vF (fC .none))))))
def F_first_case : List D → Res := runD 3 2 fb_first_case
def ce_hidden_flaws_1 : Ev → Out D := (fN 1)
def cc_hidden_flaws_1 : Ev → Out Bool := (bV (o2 dIs (oF (fV (fCall 2 F_first_case (fsC (fN 0) (fsC (fN 1) fsN))))) (oF (fC .none))))
def fb_hidden_flaws : Ev → SO := (sSeq (sExp (fV (fCall 1 F_check_size (fsC (fN 0) fsN))))
  (sRet (vComp [1] (iLT (fV (fCall 1 F_all_flaws (fsC (fN 0) fsN)))) (gN 1) cc_hidden_flaws_1 ce_hidden_flaws_1)))
def F_hidden_flaws : List D → Res := runD 2 1 fb_hidden_flaws
def ce_make_tests_1 : Ev → Out D := (fN 7)
def cc_make_tests_1 : Ev → Out Bool := (bO (oF (fV (fCall 3 F_shows (fsC (fN 0) (fsC (fN 7) (fsC (fN 2) fsN)))))))
def lb_make_tests_1 : Ev → SO := (sWp [2] (sExp (fMt 1 mAppend (fsC (fV (vComp [7] (iLT (fV (fCall 1 F_all_flaws (fsC (fN 0) fsN)))) (gN 7) cc_make_tests_1 ce_make_tests_1)) fsN))))
def ce_make_tests_2 : Ev → Out D := (fV (fB dLen (osC (oF (fN 6)) osN)))
def ck_make_tests_1 : Ev → Out D := (fN 7)
def ce_make_tests_3 : Ev → Out D := (fC (.bool true))
def ce_make_tests_4 : Ev → Out D := (fN 7)
def cc_make_tests_2 : Ev → Out Bool := (bF (fTIn true 5 (fN 7)))
def ce_make_tests_5 : Ev → Out D := (fV (vComp [7] (iLT (fN 6)) (gN 7) cc_make_tests_2 ce_make_tests_4))
def ce_make_tests_6 : Ev → Out D := (fV (fB dLen (osC (oF (fN 6)) osN)))
def lb_make_tests_2 : Ev → SO := (sWp [2, 5] (sSeq (sAsg 2 (vF (fV (fBM "list" dIndex (fN 4) (fsC (fV (fB dMax (osC (oF (fN 4)) osN))) fsN)))))
  (sSeq (sExp (fMt 3 mAppend (fsC (fN 2) fsN)))
  (sSeq (sFz 5 (sAsg 5 (vDc true [7] (iLT (fV (o2 dAt (oB 1) (oF (fN 2))))) (gN 7) bYes ck_make_tests_1 ce_make_tests_3)))
  (sSeq (sAsg 1 (vComp [6] (iLT (fZ 1)) (gN 6) bYes ce_make_tests_5))
  (sFz 4 (sAsg 4 (vComp [6] (iLT (fZ 1)) (gN 6) bYes ce_make_tests_6))))))))
def lt_make_tests_1 : Ev → Out Bool := (bV (o2 dGt (oF (fV (fB dMax (osC (oF (fN 4)) osN)))) (oF (fC (.int 0)))))
def fb_make_tests : Ev → SO := (sSeq (sExp (fV (fCall 1 F_check_size (fsC (fN 0) fsN))))
  (sSeq (sAsg 1 (fLst fsN))
  (sSeq (sPre [2] (sFor (iR1 (fsC (fV (fCall 1 F_case_count (fsC (fN 0) fsN))) fsN)) (gN 2)
  lb_make_tests_1))
  (sSeq (sAsg 3 (fLst fsN))
  (sSeq (sFz 4 (sAsg 4 (vComp [6] (iLT (fZ 1)) (gN 6) bYes ce_make_tests_2)))
  (sSeq (sPre [2, 5] (sWhile lt_make_tests_1
  lb_make_tests_2 fuel))
  (sRet (vMv 3))))))))
def F_make_tests : List D → Res := runD 8 1 fb_make_tests
def fb_law_cell : Ev → SO := (sSeq (sIf (bV (o2 dLt (oF (fN 1)) (oF (fV (fB dLen (osC (oF (fN 0)) osN))))))
  (sRet (vF (fV (o2 dAt (oF (fN 0)) (oF (fN 1))))))
  sNx)
  (sRet (vF (fC (.int 0)))))
def F_law_cell : List D → Res := runD 2 2 fb_law_cell
def lb_law_parts_1 : Ev → SO := (sWp [4, 5] (sIf (bV (o2 dGe (oF (fN 3)) (oF (fC (.int 0)))))
  (sSeq (sExp (fMt 2 mAppend (fsC (fV (o2 dMod (oF (fV (fB dIntV (osC (oF (fN 3)) osN)))) (oF (fV (o2 dAt (oF (fN 1)) (oF (fN 4))))))) fsN)))
  (sAsg 3 (vF (fV (o2 dDiv (oF (fN 3)) (oF (fV (o2 dAt (oF (fN 1)) (oF (fN 4))))))))))
  (sSeq (sAsg 5 (vF (fV (o2 dMod (oF (fV (fB dIntV (osC (oF (fV (o2 dAdd (oF (fV (o2 dAdd (oF (fV (o2 dMul (oF (fN 0)) (oF (fC (.int 48271)))))) (oF (fV (o2 dMul (oF (fN 4)) (oF (fC (.int 69621))))))))) (oF (fC (.int 11)))))) osN)))) (oF (fC (.int 2147483647)))))))
  (sSeq (sAsg 5 (vF (fV (o2 dMod (oF (fV (fB dIntV (osC (oF (fV (o2 dAdd (oF (fV (o2 dAdd (oF (fV (o2 dMul (oF (fN 5)) (oF (fN 5))))) (oF (fV (o2 dMul (oF (fC (.int 16807))) (oF (fN 4)))))))) (oF (fC (.int 5)))))) osN)))) (oF (fC (.int 998244353)))))))
  (sExp (fMt 2 mAppend (fsC (fV (o2 dMod (oF (fV (fB dIntV (osC (oF (fN 5)) osN)))) (oF (fV (o2 dAt (oF (fN 1)) (oF (fN 4))))))) fsN)))))))
def fb_law_parts : Ev → SO := (sSeq (sAsg 2 (fLst fsN))
  (sSeq (sAsg 3 (vF (fV (o2 dSub (oF (fN 0)) (oF (fV (o2 dPow (oF (fC (.int 10))) (oF (fC (.int 18))))))))))
  (sSeq (sPre [4, 5] (sFor (iR1 (fsC (fV (fB dLen (osC (oF (fN 1)) osN))) fsN)) (gN 4)
  lb_law_parts_1))
  (sRet (vMv 2)))))
def F_law_parts : List D → Res := runD 6 2 fb_law_parts
def fb_law_is_integer : Ev → SO := (sRet (vF (fV (vAnd (fIsi "int" (oF (fN 0))) (vF (fNot (fIsi "bool" (oF (fN 0)))))))))
def F_law_is_integer : List D → Res := runD 1 1 fb_law_is_integer
def fb_law_kind : Ev → SO := (sSeq (sAsg 3 (vF (fV (fLst (fsC (fC (.str (S "not"))) (fsC (fC (.str (S "not"))) (fsC (fC (.str (S "nand2"))) (fsC (fC (.str (S "nand2"))) (fsC (fC (.str (S "nand2"))) (fsC (fC (.str (S "nand3"))) (fsC (fC (.str (S "nand3"))) (fsC (fC (.str (S "nor2"))) (fsC (fC (.str (S "nor2"))) (fsC (fC (.str (S "nor2"))) (fsC (fC (.str (S "nor3"))) (fsC (fC (.str (S "nor3"))) fsN))))))))))))))))
  (sSeq (sAsg 4 (vF (fV (o2 dAt (oF (fV (o2 dAdd (oF (fN 3)) (oF (fV (fLst (fsC (fC (.str (S "latch"))) (fsC (fC (.str (S "latch"))) (fsC (fC (.str (S "tie0"))) (fsC (fC (.str (S "tie1"))) fsN)))))))))) (oF (fV (o2 dAt (oF (fN 0)) (oF (fC (.int 0))))))))))
  (sSeq (sWp [] (sIf (bAnd (bV (o2 dEq (oF (fN 4)) (oF (fC (.str (S "latch")))))) (bV (o2 dEq (oF (fN 2)) (oF (fC (.int 2))))))
  (sAsg 4 (vF (fC (.str (S "not")))))
  sNx))
  (sSeq (sIf (bAnd (bV (o2 dEq (oF (fN 1)) (oF (fC (.int 0))))) (bV (o2 dNe (oF (fN 4)) (oF (fC (.str (S "latch")))))))
  (sRet (vF (fV (o2 dAt (oF (fV (fLst (fsC (fC (.str (S "tie0"))) (fsC (fC (.str (S "tie1"))) fsN))))) (oF (fV (o2 dMod (oF (fV (fB dIntV (osC (oF (fV (o2 dAt (oF (fN 0)) (oF (fC (.int 1)))))) osN)))) (oF (fC (.int 2))))))))))
  sNx)
  (sSeq (sIf (bAnd (bV (o2 dIn (oF (fN 4)) (oF (fV (fLst (fsC (fC (.str (S "nand2"))) (fsC (fC (.str (S "nor2"))) (fsC (fC (.str (S "nand3"))) (fsC (fC (.str (S "nor3"))) fsN))))))))) (bV (o2 dLt (oF (fN 1)) (oF (fV (fB dIntV (osC (oF (fV (o2 dAt (oF (fN 4)) (oF (fNeg (fC (.int 1))))))) osN)))))))
  (sRet (vF (fV (o2 dAt (oF (fV (fLst (fsC (fC (.str (S "not"))) (fsC (fC (.str (S "nand2"))) fsN))))) (oF (fV (o2 dSub (oF (fN 1)) (oF (fC (.int 1))))))))))
  sNx)
  (sRet (vF (fN 4))))))))
def F_law_kind : List D → Res := runD 5 3 fb_law_kind
def lb_law_drawn_1 : Ev → SO := (sWp [5] (sExp (fMt 4 mAppend (fsC (fMt 3 mPop (fsC (fV (o2 dMod (oF (fV (fB dIntV (osC (oF (fV (o2 dAt (oF (fN 0)) (oF (fV (o2 dAdd (oF (fC (.int 1))) (oF (fN 5)))))))) osN)))) (oF (fV (fB dLen (osC (oB 3) osN)))))) fsN)) fsN))))
def fb_law_drawn : Ev → SO := (sSeq (sAsg 3 (vLR1 (fN 2)))
  (sSeq (sAsg 4 (fLst fsN))
  (sSeq (sPre [5] (sFor (iR1 (fsC (fN 1) fsN)) (gN 5)
  lb_law_drawn_1))
  (sRet (vF (fV (fB dTupOf (osC (oB 4) osN))))))))
def F_law_drawn : List D → Res := runD 6 3 fb_law_drawn
def lb_law_circuit_1 : Ev → SO := (sWp [6, 7, 8] (sSeq (sAsg 7 (vF (fV (fCall 2 F_law_parts (fsC (fV (fCall 2 F_law_cell (fsC (fN 0) (fsC (fV (o2 dSub (oF (fV (o2 dAdd (oF (fC (.int 3))) (oF (fN 6))))) (oF (fV (o2 dAt (oF (fN 2)) (oF (fC (.int 0)))))))) fsN)))) (fsC (fV (fLst (fsC (fC (.int 16)) (fsC (fC (.int 100)) (fsC (fC (.int 100)) (fsC (fC (.int 100)) fsN)))))) fsN))))))
  (sSeq (sAsg 8 (vF (fV (fCall 3 F_law_kind (fsC (fN 7) (fsC (fN 6) (fsC (fN 4) fsN)))))))
  (sIf (bV (o2 dEq (oF (fN 8)) (oF (fC (.str (S "latch"))))))
  (sSeq (sAsg 4 (vF (fV (o2 dAdd (oF (fN 4)) (oF (fC (.int 1)))))))
  (sExp (fMt 3 mAppend (fsC (fTup (fsC (fN 8) (fsC (fV (fCall 3 F_law_drawn (fsC (fN 7) (fsC (fC (.int 1)) (fsC (fN 5) fsN))))) (fsC (fN 6) fsN)))) fsN))))
  (sIf (bV (o2 dIn (oF (fN 8)) (oF (fV (fLst (fsC (fC (.str (S "tie0"))) (fsC (fC (.str (S "tie1"))) fsN)))))))
  (sExp (fMt 3 mAppend (fsC (fTup (fsC (fN 8) (fsC (fTup fsN) (fsC (fN 6) fsN)))) fsN)))
  (sIf (bV (o2 dEq (oF (fN 8)) (oF (fC (.str (S "not"))))))
  (sExp (fMt 3 mAppend (fsC (fTup (fsC (fN 8) (fsC (fV (fCall 3 F_law_drawn (fsC (fN 7) (fsC (fC (.int 1)) (fsC (fN 6) fsN))))) (fsC (fN 6) fsN)))) fsN)))
  (sExp (fMt 3 mAppend (fsC (fTup (fsC (fN 8) (fsC (fV (fCall 3 F_law_drawn (fsC (fN 7) (fsC (fV (fB dIntV (osC (oF (fV (o2 dAt (oF (fN 8)) (oF (fNeg (fC (.int 1))))))) osN))) (fsC (fN 6) fsN))))) (fsC (fN 6) fsN)))) fsN)))))))))
def ce_law_circuit_1 : Ev → Out D := (fV (o2 dMod (oF (fV (fB dIntV (osC (oF (fV (o2 dAdd (oF (fV (o2 dAt (oF (fN 2)) (oF (fC (.int 2)))))) (oF (fV (o2 dMul (oF (fN 10)) (oF (fV (o2 dAt (oF (fN 2)) (oF (fC (.int 3)))))))))))) osN)))) (oF (fN 5))))
def ce_law_circuit_2 : Ev → Out D := (fV (o2 dMod (oF (fV (fB dIntV (osC (oF (fV (o2 dAdd (oF (fV (o2 dAt (oF (fN 2)) (oF (fC (.int 2)))))) (oF (fN 10))))) osN)))) (oF (fC (.int 4)))))
def fb_law_circuit : Ev → SO := (sSeq (sAsg 2 (vF (fV (fCall 2 F_law_parts (fsC (fV (fCall 2 F_law_cell (fsC (fN 0) (fsC (fC (.int 0)) fsN)))) (fsC (fV (fLst (fsC (fC (.int 4)) (fsC (fC (.int 6)) (fsC (fC (.int 100)) (fsC (fC (.int 100)) fsN)))))) fsN))))))
  (sSeq (sAsg 3 (fLst fsN))
  (sSeq (sAsg 4 (vF (fC (.int 0))))
  (sSeq (sAsg 5 (vF (fV (o2 dAdd (oF (fV (o2 dAt (oF (fN 2)) (oF (fC (.int 0)))))) (oF (fV (fB dMin (osC (oF (fN 1)) (osC (oF (fV (fB dMax (osC (oF (fC (.int 1))) (osC (oF (fV (o2 dSub (oF (fV (fB dLen (osC (oF (fN 0)) osN)))) (oF (fC (.int 3)))))) osN))))) osN)))))))))
  (sSeq (sPre [6, 7, 8] (sFor (iR2 (fsC (fV (o2 dAt (oF (fN 2)) (oF (fC (.int 0))))) (fsC (fN 5) fsN))) (gN 6)
  lb_law_circuit_1))
  (sSeq (sAsg 9 (vF (fV (fB dTupOf (osC (oF (fV (vComp [10] (iR1 (fsC (fV (o2 dAdd (oF (fC (.int 1))) (oF (fV (o2 dAt (oF (fN 2)) (oF (fC (.int 1)))))))) fsN)) (gN 10) bYes ce_law_circuit_1))) osN)))))
  (sRet (vF (fTup (fsC (fV (o2 dAt (oF (fN 2)) (oF (fC (.int 0))))) (fsC (fV (fB dTupOf (osC (oB 3) osN))) (fsC (fN 9) (fsC (fV (fB dTupOf (osC (oF (fV (vComp [10] (iR1 (fsC (fN 4) fsN)) (gN 10) bYes ce_law_circuit_2))) osN))) fsN)))))))))))))
def F_law_circuit : List D → Res := runD 11 2 fb_law_circuit
def fb_law_value : Ev → SO := (sSeq (sIf (bV (o2 dEq (oF (fV (vCut (oF (fN 0)) fPN (fPS (fC (.int 3)))))) (oF (fC (.str (S "tie"))))))
  (sRet (vF (fV (fB dIntV (osC (oF (fV (o2 dAt (oF (fN 0)) (oF (fC (.int 3)))))) osN)))))
  sNx)
  (sSeq (sIf (bV (o2 dEq (oF (fV (vCut (oF (fN 0)) fPN (fPS (fC (.int 3)))))) (oF (fC (.str (S "nor"))))))
  (sRet (vF (fV (fB dIntV (osC (oF (fV (o2 dEq (oF (fV (fB dSum (osC (oF (fN 1)) osN)))) (oF (fC (.int 0)))))) osN)))))
  sNx)
  (sRet (vF (fV (fB dIntV (osC (oF (fV (o2 dLt (oF (fV (fB dSum (osC (oF (fN 1)) osN)))) (oF (fV (fB dLen (osC (oF (fN 1)) osN))))))) osN)))))))
def F_law_value : List D → Res := runD 2 2 fb_law_value
def lb_law_answers_1 : Ev → SO := (sWp [6] (sExp (fMt 4 mAppend (fsC (fV (o2 dSub (oF (fV (o2 dDiv (oF (fN 1)) (oF (fV (o2 dAt (oF (fV (fLst (fsC (fC (.int 1)) (fsC (fC (.int 2)) (fsC (fC (.int 4)) (fsC (fC (.int 8)) (fsC (fC (.int 16)) (fsC (fC (.int 32)) (fsC (fC (.int 64)) fsN)))))))))) (oF (fN 6)))))))) (oF (fV (o2 dMul (oF (fV (o2 dDiv (oF (fN 1)) (oF (fV (o2 dAt (oF (fV (fLst (fsC (fC (.int 2)) (fsC (fC (.int 4)) (fsC (fC (.int 8)) (fsC (fC (.int 16)) (fsC (fC (.int 32)) (fsC (fC (.int 64)) (fsC (fC (.int 128)) fsN)))))))))) (oF (fN 6)))))))) (oF (fC (.int 2)))))))) fsN))))
def ce_law_answers_1 : Ev → Out D := (fV (o2 dAt (oB 4) (oF (fN 10))))
def lb_law_answers_2 : Ev → SO := (sWp [7] (sSeq (sWp [] (sIf (bV (o2 dEq (oF (fV (o2 dAt (oF (fN 7)) (oF (fC (.int 0)))))) (oF (fC (.str (S "latch"))))))
  (sSeq (sExp (fMt 4 mAppend (fsC (fV (o2 dSub (oF (fV (o2 dDiv (oF (fN 1)) (oF (fV (o2 dAt (oF (fV (fLst (fsC (fC (.int 1)) (fsC (fC (.int 2)) (fsC (fC (.int 4)) (fsC (fC (.int 8)) (fsC (fC (.int 16)) (fsC (fC (.int 32)) (fsC (fC (.int 64)) fsN)))))))))) (oF (fN 5)))))))) (oF (fV (o2 dMul (oF (fV (o2 dDiv (oF (fN 1)) (oF (fV (o2 dAt (oF (fV (fLst (fsC (fC (.int 2)) (fsC (fC (.int 4)) (fsC (fC (.int 8)) (fsC (fC (.int 16)) (fsC (fC (.int 32)) (fsC (fC (.int 64)) (fsC (fC (.int 128)) fsN)))))))))) (oF (fN 5)))))))) (oF (fC (.int 2)))))))) fsN)))
  (sAsg 5 (vF (fV (o2 dAdd (oF (fN 5)) (oF (fC (.int 1))))))))
  (sExp (fMt 4 mAppend (fsC (fV (fCall 2 F_law_value (fsC (fV (o2 dAt (oF (fN 7)) (oF (fC (.int 0))))) (fsC (fV (vComp [10] (iLT (fV (o2 dAt (oF (fN 7)) (oF (fC (.int 1)))))) (gN 10) bYes ce_law_answers_1)) fsN)))) fsN)))))
  (sIf (bV (o2 dEq (oF (fV (o2 dAt (oF (fN 7)) (oF (fC (.int 2)))))) (oF (fN 2))))
  (sSet 4 (fN 3) (fN 2))
  sNx)))
def ce_law_answers_2 : Ev → Out D := (fV (o2 dAt (oF (fV (o2 dAt (oF (fN 7)) (oF (fC (.int 1)))))) (oF (fC (.int 0)))))
def cc_law_answers_1 : Ev → Out Bool := (bV (o2 dEq (oF (fV (o2 dAt (oF (fN 7)) (oF (fC (.int 0)))))) (oF (fC (.str (S "latch"))))))
def ce_law_answers_3 : Ev → Out D := (fV (o2 dAt (oB 4) (oF (fN 9))))
def fb_law_answers : Ev → SO := (sSeq (sAsg 4 (fLst fsN))
  (sSeq (sAsg 5 (vF (fV (o2 dAt (oF (fN 0)) (oF (fC (.int 0)))))))
  (sSeq (sPre [6] (sFor (iR1 (fsC (fN 5) fsN)) (gN 6)
  lb_law_answers_1))
  (sSeq (sWp [] (sIf (bAnd (bV (o2 dGe (oF (fN 2)) (oF (fC (.int 0))))) (bV (o2 dLt (oF (fN 2)) (oF (fN 5)))))
  (sSet 4 (fN 3) (fN 2))
  sNx))
  (sSeq (sPre [7] (sFor (iLT (fV (o2 dAt (oF (fN 0)) (oF (fC (.int 1)))))) (gN 7)
  lb_law_answers_2))
  (sSeq (sAsg 8 (vF (fV (o2 dAdd (oF (fV (fB dListOf (osC (oF (fV (o2 dAt (oF (fN 0)) (oF (fC (.int 2)))))) osN)))) (oF (fV (vComp [7] (iLT (fV (o2 dAt (oF (fN 0)) (oF (fC (.int 1)))))) (gN 7) cc_law_answers_1 ce_law_answers_2)))))))
  (sRet (vComp [9] (iLT (fN 8)) (gN 9) bYes ce_law_answers_3))))))))
def F_law_answers : List D → Res := runD 11 4 fb_law_answers
def ce_law_cases_1 : Ev → Out D := (fC (.int 1))
def cc_law_cases_1 : Ev → Out Bool := (bV (o2 dEq (oF (fV (o2 dAt (oF (fN 3)) (oF (fC (.int 0)))))) (oF (fC (.str (S "latch"))))))
def lb_law_cases_1 : Ev → SO := (sWp [2] (sAsg 1 (vF (fV (o2 dMul (oF (fN 1)) (oF (fC (.int 2))))))))
def fb_law_cases : Ev → SO := (sSeq (sAsg 1 (vF (fC (.int 1))))
  (sSeq (sPre [2] (sFor (iR1 (fsC (fV (o2 dAdd (oF (fV (o2 dAt (oF (fN 0)) (oF (fC (.int 0)))))) (oF (fV (fB dLen (osC (oF (fV (vComp [3] (iLT (fV (o2 dAt (oF (fN 0)) (oF (fC (.int 1)))))) (gN 3) cc_law_cases_1 ce_law_cases_1))) osN)))))) fsN)) (gN 2)
  lb_law_cases_1))
  (sRet (vF (fN 1)))))
def F_law_cases : List D → Res := runD 4 1 fb_law_cases
def hs_law_refuses_1 : Addr → Exc → Ev → SO := fun ea ex => (sAsg 1 (vF (fV (o2 dAdd (oF (fN 1)) (oF (fV (fB dIntV (osC (oF (fIsX 2 is_TooLarge ea ex)) osN))))))))
theorem hp_hs_law_refuses_1 : ∀ (a : Addr) (e : Exc) (Γ : Ev), sClr 2 (hs_law_refuses_1 a e (Γ.set 2 (some (.z, rawD a)))) = sClr 2 (hs_law_refuses_1 0 e (Γ.set 2 (some (.z, rawD 0)))) := by
  intro a e Γ
  unfold hs_law_refuses_1
  cases h_TooLarge : is_TooLarge e.c <;> by_cases h : 2 < Γ.length <;> simp [fIsX, rawS, rawD, sRet, sAsg, sSeq, sIf, sExp, vF, fV, vAnd, vOr, fNot, o2, oF, fB, osC, osN, sB, Out.bind, Out.of, sClr, List.set_set, fN, List.getElem?_set_ne, h, h_TooLarge] <;> (rcases h1 : Γ[1]? with _ | _ | ⟨_ | _ | _ | _, d⟩ <;> simp [h, h1, dIntV, dInt]) <;> (generalize dAdd _ _ = o; cases o <;> simp [set3])
def hs_law_refuses_2 : Addr → Exc → Ev → SO := fun ea ex => (sAsg 1 (vF (fV (o2 dAdd (oF (fN 1)) (oF (fV (fB dIntV (osC (oF (fIsX 2 is_TooLarge ea ex)) osN))))))))
theorem hp_hs_law_refuses_2 : ∀ (a : Addr) (e : Exc) (Γ : Ev), sClr 2 (hs_law_refuses_2 a e (Γ.set 2 (some (.z, rawD a)))) = sClr 2 (hs_law_refuses_2 0 e (Γ.set 2 (some (.z, rawD 0)))) := by
  intro a e Γ
  unfold hs_law_refuses_2
  cases h_TooLarge : is_TooLarge e.c <;> by_cases h : 2 < Γ.length <;> simp [fIsX, rawS, rawD, sRet, sAsg, sSeq, sIf, sExp, vF, fV, vAnd, vOr, fNot, o2, oF, fB, osC, osN, sB, Out.bind, Out.of, sClr, List.set_set, fN, List.getElem?_set_ne, h, h_TooLarge] <;> (rcases h1 : Γ[1]? with _ | _ | ⟨_ | _ | _ | _, d⟩ <;> simp [h, h1, dIntV, dInt]) <;> (generalize dAdd _ _ = o; cases o <;> simp [set3])
def hs_law_refuses_3 : Addr → Exc → Ev → SO := fun ea ex => (sAsg 1 (vF (fV (o2 dAdd (oF (fN 1)) (oF (fV (fB dIntV (osC (oF (fIsX 2 is_TooLarge ea ex)) osN))))))))
theorem hp_hs_law_refuses_3 : ∀ (a : Addr) (e : Exc) (Γ : Ev), sClr 2 (hs_law_refuses_3 a e (Γ.set 2 (some (.z, rawD a)))) = sClr 2 (hs_law_refuses_3 0 e (Γ.set 2 (some (.z, rawD 0)))) := by
  intro a e Γ
  unfold hs_law_refuses_3
  cases h_TooLarge : is_TooLarge e.c <;> by_cases h : 2 < Γ.length <;> simp [fIsX, rawS, rawD, sRet, sAsg, sSeq, sIf, sExp, vF, fV, vAnd, vOr, fNot, o2, oF, fB, osC, osN, sB, Out.bind, Out.of, sClr, List.set_set, fN, List.getElem?_set_ne, h, h_TooLarge] <;> (rcases h1 : Γ[1]? with _ | _ | ⟨_ | _ | _ | _, d⟩ <;> simp [h, h1, dIntV, dInt]) <;> (generalize dAdd _ _ = o; cases o <;> simp [set3])
def fb_law_refuses : Ev → SO := (sSeq (sAsg 1 (vF (fC (.int 0))))
  (sSeq (sTryA m_GatesError 2
  (sExp (fV (fCall 1 F_make_tests (fsC (fN 0) fsN))))
  hs_law_refuses_1)
  (sSeq (sTryA m_GatesError 2
  (sExp (fV (fCall 1 F_hidden_flaws (fsC (fN 0) fsN))))
  hs_law_refuses_2)
  (sSeq (sTryA m_GatesError 2
  (sExp (fV (fCall 2 F_first_case (fsC (fN 0) (fsC (fTup (fsC (fC (.int 90)) (fsC (fC (.int 3)) fsN))) fsN)))))
  hs_law_refuses_3)
  (sRet (vF (fV (o2 dEq (oF (fN 1)) (oF (fC (.int 3)))))))))))
def F_law_refuses : List D → Res := runD 3 1 fb_law_refuses
def lb_law_shown_1 : Ev → SO := (sWp [6] (sIf (bV (o2 dNe (oF (fV (fCall 4 F_law_answers (fsC (fN 0) (fsC (fN 2) (fsC (fN 5) (fsC (fN 6) fsN))))))) (oF (fN 3))))
  (sExp (fMt 4 mAppend (fsC (fTup (fsC (fN 5) (fsC (fN 6) fsN))) fsN)))
  sNx))
def lb_law_shown_2 : Ev → SO := (sWp [5, 6] (sPre [6] (sFor (iR1 (fsC (fC (.int 2)) fsN)) (gN 6)
  lb_law_shown_1)))
def lb_law_shown_3 : Ev → SO := (sWp [2, 3, 4, 5, 6] (sSeq (sAsg 3 (vF (fV (fCall 4 F_law_answers (fsC (fN 0) (fsC (fN 2) (fsC (fNeg (fC (.int 1))) (fsC (fC (.int 0)) fsN))))))))
  (sSeq (sAsg 4 (fLst fsN))
  (sSeq (sPre [5, 6] (sFor (iR1 (fsC (fV (o2 dAdd (oF (fV (o2 dAt (oF (fN 0)) (oF (fC (.int 0)))))) (oF (fV (fB dLen (osC (oF (fV (o2 dAt (oF (fN 0)) (oF (fC (.int 1)))))) osN)))))) fsN)) (gN 5)
  lb_law_shown_2))
  (sExp (fMt 1 mAppend (fsC (fZ 4) fsN)))))))
def fb_law_shown : Ev → SO := (sSeq (sAsg 1 (fLst fsN))
  (sSeq (sPre [2, 3, 4, 5, 6] (sFor (iR1 (fsC (fV (fCall 1 F_law_cases (fsC (fN 0) fsN))) fsN)) (gN 2)
  lb_law_shown_3))
  (sRet (vMv 1))))
def F_law_shown : List D → Res := runD 7 1 fb_law_shown
def ce_law_bare_1 : Ev → Out D := (fV (o2 dMod (oF (fV (fB dIntV (osC (oF (fN 2)) osN)))) (oF (fV (o2 dAt (oF (fN 1)) (oF (fC (.int 0))))))))
def fb_law_bare : Ev → SO := (sSeq (sIf (bOr (bV (o2 dEq (oF (fV (o2 dAt (oF (fN 1)) (oF (fC (.int 0)))))) (oF (fC (.int 0))))) (bV (o2 dNe (oF (fV (o2 dMod (oF (fV (fB dIntV (osC (oF (fV (fCall 2 F_law_cell (fsC (fN 0) (fsC (fC (.int 2)) fsN))))) osN)))) (oF (fC (.int 8)))))) (oF (fC (.int 5))))))
  (sRet (vF (fN 1)))
  sNx)
  (sRet (vF (fTup (fsC (fV (o2 dAt (oF (fN 1)) (oF (fC (.int 0))))) (fsC (fTup fsN) (fsC (fV (fB dTupOf (osC (oF (fV (vComp [2] (iLT (fV (o2 dAt (oF (fN 1)) (oF (fC (.int 2)))))) (gN 2) bYes ce_law_bare_1))) osN))) (fsC (fTup fsN) fsN))))))))
def F_law_bare : List D → Res := runD 3 2 fb_law_bare
def ce_law_hidden_1 : Ev → Out D := (fN 5)
def cc_law_hidden_1 : Ev → Out Bool := (bV (o2 dInD (oF (fTup (fsC (fN 3) (fsC (fN 4) fsN)))) (oF (fN 5))))
def lb_law_hidden_1 : Ev → SO := (sWp [4] (sIf (bV (o2 dEq (oF (fV (fB dLen (osC (oF (fV (vComp [5] (iLT (fN 1)) (gN 5) cc_law_hidden_1 ce_law_hidden_1))) osN)))) (oF (fC (.int 0)))))
  (sExp (fMt 2 mAppend (fsC (fTup (fsC (fN 3) (fsC (fN 4) fsN))) fsN)))
  sNx))
def lb_law_hidden_2 : Ev → SO := (sWp [3, 4] (sPre [4] (sFor (iR1 (fsC (fC (.int 2)) fsN)) (gN 4)
  lb_law_hidden_1)))
def fb_law_hidden : Ev → SO := (sSeq (sAsg 2 (fLst fsN))
  (sSeq (sPre [3, 4] (sFor (iR1 (fsC (fV (o2 dAdd (oF (fV (o2 dAt (oF (fN 0)) (oF (fC (.int 0)))))) (oF (fV (fB dLen (osC (oF (fV (o2 dAt (oF (fN 0)) (oF (fC (.int 1)))))) osN)))))) fsN)) (gN 3)
  lb_law_hidden_2))
  (sRet (vMv 2))))
def F_law_hidden : List D → Res := runD 6 2 fb_law_hidden
def ce_law_1 : Ev → Out D := (fTup (fsC (fC (.str (S "latch"))) (fsC (fTup (fsC (fV (o2 dMod (oF (fV (fB dIntV (osC (oF (fV (o2 dAdd (oF (fN 13)) (oF (fV (o2 dAt (oF (fN 1)) (oF (fC (.int 1))))))))) osN)))) (oF (fN 2)))) fsN)) (fsC (fV (o2 dAdd (oF (fN 2)) (oF (fN 13)))) fsN))))
def ce_law_2 : Ev → Out D := (fV (fB dLen (osC (oF (fN 14)) osN)))
def ce_law_3 : Ev → Out D := (fV (fB dLen (osC (oF (fN 14)) osN)))
def ce_law_4 : Ev → Out D := (fN 15)
def cc_law_1 : Ev → Out Bool := (bV (o2 dNinD (oF (fN 15)) (oF (fN 12))))
def ce_law_5 : Ev → Out D := (fV (vComp [15] (iLT (fN 14)) (gN 15) cc_law_1 ce_law_4))
def lb_law_1 : Ev → SO := (sWp [10, 11, 12] (sSeq (sAsg 11 (vF (fV (fB dMax (osC (oF (fV (vComp [14] (iLT (fN 9)) (gN 14) bYes ce_law_2))) osN)))))
  (sSeq (sIf (bOr (bNot (bO (oF (fV (fCall 1 F_law_is_integer (fsC (fN 10) fsN)))))) (bOr (bV (o2 dEq (oF (fN 11)) (oF (fC (.int 0))))) (bOr (bV (o2 dLt (oF (fN 10)) (oF (fC (.int 0))))) (bV (o2 dGe (oF (fN 10)) (oF (fV (fB dLen (osC (oF (fN 9)) osN)))))))))
  (sRet (vF (fC (.bool false))))
  sNx)
  (sSeq (sIf (bV (o2 dNe (oF (fN 10)) (oF (fV (fBM "list" dIndex (fV (vComp [14] (iLT (fN 9)) (gN 14) bYes ce_law_3)) (fsC (fN 11) fsN))))))
  (sRet (vF (fC (.bool false))))
  sNx)
  (sSeq (sAsg 12 (vF (fV (o2 dAt (oF (fN 9)) (oF (fN 10))))))
  (sFz 9 (sAsg 9 (vComp [14] (iLT (fN 9)) (gN 14) bYes ce_law_5))))))))
def ce_law_6 : Ev → Out D := (fV (fB dLen (osC (oF (fN 14)) osN)))
def fb_law : Ev → SO := (sSeq (sAsg 1 (vF (fV (fCall 2 F_law_parts (fsC (fV (fCall 2 F_law_cell (fsC (fN 0) (fsC (fC (.int 1)) fsN)))) (fsC (fV (fLst (fsC (fC (.int 6)) (fsC (fC (.int 3)) (fsC (fC (.int 6)) (fsC (fC (.int 4)) fsN)))))) fsN))))))
  (sSeq (sIf (bV (o2 dEq (oF (fV (o2 dAt (oF (fN 1)) (oF (fC (.int 0)))))) (oF (fC (.int 0)))))
  (sSeq (sTgt (gT (gsC (gN 2) (gsC (gN 3) gsN))) (fV (o2 dAt (oF (fV (fLst (fsC (fTup (fsC (fC (.int 6)) (fsC (fC (.int 1)) fsN))) (fsC (fTup (fsC (fC (.int 5)) (fsC (fC (.int 2)) fsN))) (fsC (fTup (fsC (fC (.int 4)) (fsC (fC (.int 3)) fsN))) (fsC (fTup (fsC (fC (.int 3)) (fsC (fC (.int 4)) fsN))) (fsC (fTup (fsC (fC (.int 6)) (fsC (fC (.int 4)) fsN))) (fsC (fTup (fsC (fC (.int 6)) (fsC (fC (.int 2)) fsN))) fsN))))))))) (oF (fV (o2 dAt (oF (fN 1)) (oF (fC (.int 2)))))))))
  (sSeq (sFz 4 (sAsg 4 (vComp [13] (iR1 (fsC (fN 3) fsN)) (gN 13) bYes ce_law_1)))
  (sRet (vF (fV (fCall 1 F_law_refuses (fsC (fTup (fsC (fN 2) (fsC (fV (fB dTupOf (osC (oF (fN 4)) osN))) (fsC (fTup (fsC (fN 2) (fsC (fC (.int 0)) fsN))) (fsC (fTR1 (fN 3)) fsN))))) fsN)))))))
  sNx)
  (sSeq (sAsg 5 (vF (fV (fCall 2 F_law_bare (fsC (fN 0) (fsC (fV (fCall 2 F_law_circuit (fsC (fN 0) (fsC (fC (.int 8)) fsN)))) fsN))))))
  (sSeq (sWp [6] (sIf (bV (o2 dEq (oF (fV (o2 dAt (oF (fN 1)) (oF (fC (.int 0)))))) (oF (fC (.int 1)))))
  (sSeq (sAsg 6 (vF (fV (o2 dAt (oF (fV (fLst (fsC (fC (.str (S "nand2"))) (fsC (fC (.str (S "nor2"))) (fsC (fC (.str (S "nand2"))) (fsC (fC (.str (S "nor2"))) fsN))))))) (oF (fV (o2 dAt (oF (fN 1)) (oF (fC (.int 3))))))))))
  (sAsg 5 (vF (fTup (fsC (fC (.int 6)) (fsC (fTup (fsC (fTup (fsC (fN 6) (fsC (fTup (fsC (fV (o2 dAt (oF (fN 1)) (oF (fC (.int 1))))) (fsC (fV (o2 dSub (oF (fC (.int 5))) (oF (fV (o2 dAt (oF (fN 1)) (oF (fC (.int 1)))))))) fsN))) (fsC (fC (.int 6)) fsN)))) fsN)) (fsC (fTup (fsC (fC (.int 6)) (fsC (fV (o2 dAt (oF (fN 1)) (oF (fC (.int 2))))) fsN))) (fsC (fTup fsN) fsN))))))))
  sNx))
  (sSeq (sWp [6, 7] (sIf (bV (o2 dEq (oF (fV (o2 dAt (oF (fN 1)) (oF (fC (.int 0)))))) (oF (fC (.int 2)))))
  (sSeq (sAsg 6 (vF (fV (o2 dAt (oF (fV (fLst (fsC (fC (.str (S "nand2"))) (fsC (fC (.str (S "nor2"))) (fsC (fC (.str (S "nand2"))) (fsC (fC (.str (S "nor2"))) fsN))))))) (oF (fV (o2 dAt (oF (fN 1)) (oF (fC (.int 3))))))))))
  (sSeq (sAsg 7 (vF (fV (fLst (fsC (fTup (fsC (fC (.str (S "latch"))) (fsC (fTup (fsC (fV (o2 dAt (oF (fN 1)) (oF (fC (.int 2))))) fsN)) (fsC (fC (.int 4)) fsN)))) (fsC (fTup (fsC (fC (.str (S "latch"))) (fsC (fTup (fsC (fV (o2 dSub (oF (fC (.int 6))) (oF (fV (o2 dAt (oF (fN 1)) (oF (fC (.int 1)))))))) fsN)) (fsC (fC (.int 5)) fsN)))) (fsC (fTup (fsC (fN 6) (fsC (fTup (fsC (fV (o2 dAt (oF (fN 1)) (oF (fC (.int 1))))) (fsC (fC (.int 5)) fsN))) (fsC (fC (.int 6)) fsN)))) fsN)))))))
  (sSeq (sWp [] (sIf (bV (o2 dGt (oF (fV (o2 dAt (oF (fN 1)) (oF (fC (.int 3)))))) (oF (fC (.int 1)))))
  (sAsg 7 (vF (fV (fLst (fsC (fTup (fsC (fC (.str (S "latch"))) (fsC (fTup (fsC (fV (o2 dAt (oF (fN 1)) (oF (fC (.int 2))))) fsN)) (fsC (fC (.int 4)) fsN)))) (fsC (fTup (fsC (fN 6) (fsC (fTup (fsC (fV (o2 dAt (oF (fN 1)) (oF (fC (.int 1))))) (fsC (fC (.int 4)) fsN))) (fsC (fC (.int 5)) fsN)))) (fsC (fTup (fsC (fC (.str (S "latch"))) (fsC (fTup (fsC (fV (o2 dSub (oF (fC (.int 6))) (oF (fV (o2 dAt (oF (fN 1)) (oF (fC (.int 1)))))))) fsN)) (fsC (fC (.int 6)) fsN)))) fsN)))))))
  sNx))
  (sAsg 5 (vF (fTup (fsC (fC (.int 4)) (fsC (fV (fB dTupOf (osC (oF (fN 7)) osN))) (fsC (fTup (fsC (fC (.int 6)) (fsC (fV (o2 dAt (oF (fN 1)) (oF (fC (.int 2))))) fsN))) (fsC (fTup (fsC (fC (.int 0)) (fsC (fC (.int 1)) fsN))) fsN))))))))))
  sNx))
  (sSeq (sAsg 8 (vF (fV (fCall 1 F_make_tests (fsC (fN 5) fsN)))))
  (sSeq (sIf (bNot (bO (oF (fIsi "list" (oF (fN 8))))))
  (sRet (vF (fC (.bool false))))
  sNx)
  (sSeq (sAsg 9 (vF (fV (fCall 1 F_law_shown (fsC (fN 5) fsN)))))
  (sSeq (sIf (bV (o2 dNe (oF (fV (fCall 1 F_hidden_flaws (fsC (fN 5) fsN)))) (oF (fV (fCall 2 F_law_hidden (fsC (fN 5) (fsC (fN 9) fsN)))))))
  (sRet (vF (fC (.bool false))))
  sNx)
  (sSeq (sPre [10, 11, 12] (sFor (iLT (fN 8)) (gN 10)
  lb_law_1))
  (sRet (vF (fV (o2 dEq (oF (fV (fB dMax (osC (oF (fV (vComp [14] (iLT (fN 9)) (gN 14) bYes ce_law_6))) osN)))) (oF (fC (.int 0)))))))))))))))))
def F_law : List D → Res := runD 16 1 fb_law
/-! ### what the top has left -/
structure Tx (K : PySem.W.Frag) (mg : Str → Option Value) (w : World) where
  f_cell_value : Addr
  fd_cell_value : FuncData
  f_latch_cells : Addr
  fd_latch_cells : FuncData
  f_settled_values : Addr
  fd_settled_values : FuncData
  f_bit_count : Addr
  fd_bit_count : FuncData
  f_case_count : Addr
  fd_case_count : FuncData
  f_case_bits : Addr
  fd_case_bits : FuncData
  f_check_flaw : Addr
  fd_check_flaw : FuncData
  f_answers : Addr
  fd_answers : FuncData
  f_shows : Addr
  fd_shows : FuncData
  f_check_size : Addr
  fd_check_size : FuncData
  f_all_flaws : Addr
  fd_all_flaws : FuncData
  f_first_case : Addr
  fd_first_case : FuncData
  f_hidden_flaws : Addr
  fd_hidden_flaws : FuncData
  f_make_tests : Addr
  fd_make_tests : FuncData
  f_law_cell : Addr
  fd_law_cell : FuncData
  f_law_parts : Addr
  fd_law_parts : FuncData
  f_law_is_integer : Addr
  fd_law_is_integer : FuncData
  f_law_kind : Addr
  fd_law_kind : FuncData
  f_law_drawn : Addr
  fd_law_drawn : FuncData
  f_law_circuit : Addr
  fd_law_circuit : FuncData
  f_law_value : Addr
  fd_law_value : FuncData
  f_law_answers : Addr
  fd_law_answers : FuncData
  f_law_cases : Addr
  fd_law_cases : FuncData
  f_law_refuses : Addr
  fd_law_refuses : FuncData
  f_law_shown : Addr
  fd_law_shown : FuncData
  f_law_bare : Addr
  fd_law_bare : FuncData
  f_law_hidden : Addr
  fd_law_hidden : FuncData
  f_law : Addr
  fd_law : FuncData
  c_GatesError : Addr
  c_NoSuchThing : Addr
  c_TooLarge : Addr
  a_CONSTANTS : Addr
  a_MOST_CASES : V
  u_MOST_CASES : Value
  a_NANDS : V
  u_NANDS : Value
  F_cell_value : Fun K "cell_value" "cell_value" s_cell_value f_cell_value fd_cell_value
  g_cell_value : mg "cell_value" = some (.ref f_cell_value)
  kp_cell_value : PySem.W.keepIn K (.ref f_cell_value) = true
  b_cell_value : Binds K fd_cell_value ["kind", "values"] []
  F_latch_cells : Fun K "latch_cells" "latch_cells" s_latch_cells f_latch_cells fd_latch_cells
  g_latch_cells : mg "latch_cells" = some (.ref f_latch_cells)
  kp_latch_cells : PySem.W.keepIn K (.ref f_latch_cells) = true
  b_latch_cells : Binds K fd_latch_cells ["circuit"] []
  F_settled_values : Fun K "settled_values" "settled_values" s_settled_values f_settled_values fd_settled_values
  g_settled_values : mg "settled_values" = some (.ref f_settled_values)
  kp_settled_values : PySem.W.keepIn K (.ref f_settled_values) = true
  b_settled_values : Binds K fd_settled_values ["circuit", "inputs", "states", "stuck"] []
  F_bit_count : Fun K "bit_count" "bit_count" s_bit_count f_bit_count fd_bit_count
  g_bit_count : mg "bit_count" = some (.ref f_bit_count)
  kp_bit_count : PySem.W.keepIn K (.ref f_bit_count) = true
  b_bit_count : Binds K fd_bit_count ["circuit"] []
  F_case_count : Fun K "case_count" "case_count" s_case_count f_case_count fd_case_count
  g_case_count : mg "case_count" = some (.ref f_case_count)
  kp_case_count : PySem.W.keepIn K (.ref f_case_count) = true
  b_case_count : Binds K fd_case_count ["circuit"] []
  F_case_bits : Fun K "case_bits" "case_bits" s_case_bits f_case_bits fd_case_bits
  g_case_bits : mg "case_bits" = some (.ref f_case_bits)
  kp_case_bits : PySem.W.keepIn K (.ref f_case_bits) = true
  b_case_bits : Binds K fd_case_bits ["circuit", "case"] []
  F_check_flaw : Fun K "check_flaw" "check_flaw" s_check_flaw f_check_flaw fd_check_flaw
  g_check_flaw : mg "check_flaw" = some (.ref f_check_flaw)
  kp_check_flaw : PySem.W.keepIn K (.ref f_check_flaw) = true
  b_check_flaw : Binds K fd_check_flaw ["circuit", "flaw"] []
  F_answers : Fun K "answers" "answers" s_answers f_answers fd_answers
  g_answers : mg "answers" = some (.ref f_answers)
  kp_answers : PySem.W.keepIn K (.ref f_answers) = true
  b_answers : Binds K fd_answers ["circuit", "case", "stuck"] []
  F_shows : Fun K "shows" "shows" s_shows f_shows fd_shows
  g_shows : mg "shows" = some (.ref f_shows)
  kp_shows : PySem.W.keepIn K (.ref f_shows) = true
  b_shows : Binds K fd_shows ["circuit", "flaw", "case"] []
  F_check_size : Fun K "check_size" "check_size" s_check_size f_check_size fd_check_size
  g_check_size : mg "check_size" = some (.ref f_check_size)
  kp_check_size : PySem.W.keepIn K (.ref f_check_size) = true
  b_check_size : Binds K fd_check_size ["circuit"] []
  F_all_flaws : Fun K "all_flaws" "all_flaws" s_all_flaws f_all_flaws fd_all_flaws
  g_all_flaws : mg "all_flaws" = some (.ref f_all_flaws)
  kp_all_flaws : PySem.W.keepIn K (.ref f_all_flaws) = true
  b_all_flaws : Binds K fd_all_flaws ["circuit"] []
  F_first_case : Fun K "first_case" "first_case" s_first_case f_first_case fd_first_case
  g_first_case : mg "first_case" = some (.ref f_first_case)
  kp_first_case : PySem.W.keepIn K (.ref f_first_case) = true
  b_first_case : Binds K fd_first_case ["circuit", "flaw"] []
  F_hidden_flaws : Fun K "hidden_flaws" "hidden_flaws" s_hidden_flaws f_hidden_flaws fd_hidden_flaws
  g_hidden_flaws : mg "hidden_flaws" = some (.ref f_hidden_flaws)
  kp_hidden_flaws : PySem.W.keepIn K (.ref f_hidden_flaws) = true
  b_hidden_flaws : Binds K fd_hidden_flaws ["circuit"] []
  F_make_tests : Fun K "make_tests" "make_tests" s_make_tests f_make_tests fd_make_tests
  g_make_tests : mg "make_tests" = some (.ref f_make_tests)
  kp_make_tests : PySem.W.keepIn K (.ref f_make_tests) = true
  b_make_tests : Binds K fd_make_tests ["circuit"] []
  F_law_cell : Fun K "_law_cell" "_law_cell" s_law_cell f_law_cell fd_law_cell
  g_law_cell : mg "_law_cell" = some (.ref f_law_cell)
  kp_law_cell : PySem.W.keepIn K (.ref f_law_cell) = true
  b_law_cell : Binds K fd_law_cell ["script", "k"] []
  F_law_parts : Fun K "_law_parts" "_law_parts" s_law_parts f_law_parts fd_law_parts
  g_law_parts : mg "_law_parts" = some (.ref f_law_parts)
  kp_law_parts : PySem.W.keepIn K (.ref f_law_parts) = true
  b_law_parts : Binds K fd_law_parts ["cell", "sizes"] []
  F_law_is_integer : Fun K "_law_is_integer" "_law_is_integer" s_law_is_integer f_law_is_integer fd_law_is_integer
  g_law_is_integer : mg "_law_is_integer" = some (.ref f_law_is_integer)
  kp_law_is_integer : PySem.W.keepIn K (.ref f_law_is_integer) = true
  b_law_is_integer : Binds K fd_law_is_integer ["actual"] []
  F_law_kind : Fun K "_law_kind" "_law_kind" s_law_kind f_law_kind fd_law_kind
  g_law_kind : mg "_law_kind" = some (.ref f_law_kind)
  kp_law_kind : PySem.W.keepIn K (.ref f_law_kind) = true
  b_law_kind : Binds K fd_law_kind ["parts", "nets", "latches"] []
  F_law_drawn : Fun K "_law_drawn" "_law_drawn" s_law_drawn f_law_drawn fd_law_drawn
  g_law_drawn : mg "_law_drawn" = some (.ref f_law_drawn)
  kp_law_drawn : PySem.W.keepIn K (.ref f_law_drawn) = true
  b_law_drawn : Binds K fd_law_drawn ["parts", "count", "nets"] []
  F_law_circuit : Fun K "_law_circuit" "_law_circuit" s_law_circuit f_law_circuit fd_law_circuit
  g_law_circuit : mg "_law_circuit" = some (.ref f_law_circuit)
  kp_law_circuit : PySem.W.keepIn K (.ref f_law_circuit) = true
  b_law_circuit : Binds K fd_law_circuit ["script", "most"] []
  F_law_value : Fun K "_law_value" "_law_value" s_law_value f_law_value fd_law_value
  g_law_value : mg "_law_value" = some (.ref f_law_value)
  kp_law_value : PySem.W.keepIn K (.ref f_law_value) = true
  b_law_value : Binds K fd_law_value ["kind", "bits"] []
  F_law_answers : Fun K "_law_answers" "_law_answers" s_law_answers f_law_answers fd_law_answers
  g_law_answers : mg "_law_answers" = some (.ref f_law_answers)
  kp_law_answers : PySem.W.keepIn K (.ref f_law_answers) = true
  b_law_answers : Binds K fd_law_answers ["circuit", "case", "net", "value"] []
  F_law_cases : Fun K "_law_cases" "_law_cases" s_law_cases f_law_cases fd_law_cases
  g_law_cases : mg "_law_cases" = some (.ref f_law_cases)
  kp_law_cases : PySem.W.keepIn K (.ref f_law_cases) = true
  b_law_cases : Binds K fd_law_cases ["circuit"] []
  F_law_refuses : Fun K "_law_refuses" "_law_refuses" s_law_refuses f_law_refuses fd_law_refuses
  g_law_refuses : mg "_law_refuses" = some (.ref f_law_refuses)
  kp_law_refuses : PySem.W.keepIn K (.ref f_law_refuses) = true
  b_law_refuses : Binds K fd_law_refuses ["circuit"] []
  F_law_shown : Fun K "_law_shown" "_law_shown" s_law_shown f_law_shown fd_law_shown
  g_law_shown : mg "_law_shown" = some (.ref f_law_shown)
  kp_law_shown : PySem.W.keepIn K (.ref f_law_shown) = true
  b_law_shown : Binds K fd_law_shown ["circuit"] []
  F_law_bare : Fun K "_law_bare" "_law_bare" s_law_bare f_law_bare fd_law_bare
  g_law_bare : mg "_law_bare" = some (.ref f_law_bare)
  kp_law_bare : PySem.W.keepIn K (.ref f_law_bare) = true
  b_law_bare : Binds K fd_law_bare ["script", "circuit"] []
  F_law_hidden : Fun K "_law_hidden" "_law_hidden" s_law_hidden f_law_hidden fd_law_hidden
  g_law_hidden : mg "_law_hidden" = some (.ref f_law_hidden)
  kp_law_hidden : PySem.W.keepIn K (.ref f_law_hidden) = true
  b_law_hidden : Binds K fd_law_hidden ["circuit", "shown"] []
  F_law : Fun K "law" "law" s_law f_law fd_law
  g_law : mg "law" = some (.ref f_law)
  kp_law : PySem.W.keepIn K (.ref f_law) = true
  b_law : Binds K fd_law ["script"] []
  m_all : mg "all" = none
  m_any : mg "any" = none
  m_bool : mg "bool" = none
  m_enumerate : mg "enumerate" = none
  m_int : mg "int" = none
  m_isinstance : mg "isinstance" = none
  m_len : mg "len" = none
  m_list : mg "list" = none
  m_max : mg "max" = none
  m_min : mg "min" = none
  m_range : mg "range" = none
  m_sum : mg "sum" = none
  m_tuple : mg "tuple" = none
  g_GatesError : mg "GatesError" = some (.ref c_GatesError)
  kp_GatesError : PySem.W.keepIn K (.ref c_GatesError) = true
  sb_GatesError : PySem.W.subIn K (.ref c_GatesError) (.type "BaseException") = some true
  ty_GatesError : PySem.W.typeIn K (.ref c_GatesError) = some (.type "type")
  g_NoSuchThing : mg "NoSuchThing" = some (.ref c_NoSuchThing)
  x_NoSuchThing : PySem.W.excIn K c_NoSuchThing [.type "ValueError", .type "Exception", .type "BaseException", .type "object"] "ValueError.__new__" = true
  kp_NoSuchThing : PySem.W.keepIn K (.ref c_NoSuchThing) = true
  sb_NoSuchThing : PySem.W.subIn K (.ref c_NoSuchThing) (.type "BaseException") = some true
  ty_NoSuchThing : PySem.W.typeIn K (.ref c_NoSuchThing) = some (.type "type")
  g_TooLarge : mg "TooLarge" = some (.ref c_TooLarge)
  x_TooLarge : PySem.W.excIn K c_TooLarge [.type "ValueError", .type "Exception", .type "BaseException", .type "object"] "ValueError.__new__" = true
  kp_TooLarge : PySem.W.keepIn K (.ref c_TooLarge) = true
  sb_TooLarge : PySem.W.subIn K (.ref c_TooLarge) (.type "BaseException") = some true
  ty_TooLarge : PySem.W.typeIn K (.ref c_TooLarge) = some (.type "type")
  em_GatesError_NoSuchThing : PySem.W.exmOne K (.ref c_NoSuchThing) (.ref c_GatesError) = some true
  em_GatesError_TooLarge : PySem.W.exmOne K (.ref c_TooLarge) (.ref c_GatesError) = some true
  ki_TooLarge_NoSuchThing : PySem.W.kitOne K (.ref c_NoSuchThing) (.ref c_TooLarge) = some false
  ki_TooLarge_TooLarge : PySem.W.kitOne K (.ref c_TooLarge) (.ref c_TooLarge) = some true
  xc_NoSuchThing : ExcC K c_NoSuchThing
  xc_TooLarge : ExcC K c_TooLarge
  g_CONSTANTS : mg "CONSTANTS" = some (.ref a_CONSTANTS)
  t_CONSTANTS : KTab K w a_CONSTANTS tab_CONSTANTS
  g_MOST_CASES : mg "MOST_CASES" = some u_MOST_CASES
  r_MOST_CASES : RelV a_MOST_CASES u_MOST_CASES
  k_MOST_CASES : KD K a_MOST_CASES kd_MOST_CASES
  g_NANDS : mg "NANDS" = some u_NANDS
  r_NANDS : RelV a_NANDS u_NANDS
  k_NANDS : KD K a_NANDS kd_NANDS
section
variable {P : Program} {w : World} {K : PySem.W.Frag} {mg : Str → Option Value} {base : Heap}
theorem Tx.ex_GatesError (T : Tx K mg w) : ∀ n b cls, m_GatesError n = some b → mg n = some cls → PySem.W.exmOne K cls (.ref T.c_GatesError) = some b := fun n b cls h h2 => by
  unfold m_GatesError at h
  split at h
  · rename_i e
    cases h
    subst e
    rw [show mg (S "NoSuchThing") = some (.ref T.c_NoSuchThing) from T.g_NoSuchThing] at h2
    cases h2
    exact T.em_GatesError_NoSuchThing
  ·
    split at h
    · rename_i e
      cases h
      subst e
      rw [show mg (S "TooLarge") = some (.ref T.c_TooLarge) from T.g_TooLarge] at h2
      cases h2
      exact T.em_GatesError_TooLarge
    ·
      cases h
theorem Tx.cr_GatesError (T : Tx K mg w) : ∀ n cls, m_GatesError n = some true → mg n = some cls → ∃ D0, cls = .ref D0 := fun n cls h h2 => by
  unfold m_GatesError at h
  split at h
  · rename_i e
    subst e
    rw [show mg (S "NoSuchThing") = some (.ref T.c_NoSuchThing) from T.g_NoSuchThing] at h2
    cases h2
    exact ⟨_, rfl⟩
  ·
    split at h
    · rename_i e
      subst e
      rw [show mg (S "TooLarge") = some (.ref T.c_TooLarge) from T.g_TooLarge] at h2
      cases h2
      exact ⟨_, rfl⟩
    ·
      cases h
theorem Tx.isx_TooLarge (T : Tx K mg w) : ∀ c b D0, is_TooLarge c = some b → mg c = some (.ref D0) → ExcC K D0 ∧ PySem.W.kitOne K (.ref D0) (.ref T.c_TooLarge) = some b := fun n b D0 h h2 => by
  unfold is_TooLarge at h
  split at h
  · rename_i e
    cases h
    subst e
    rw [show mg (S "NoSuchThing") = some (.ref T.c_NoSuchThing) from T.g_NoSuchThing] at h2
    cases h2
    exact ⟨T.xc_NoSuchThing, T.ki_TooLarge_NoSuchThing⟩
  ·
    split at h
    · rename_i e
      cases h
      subst e
      rw [show mg (S "TooLarge") = some (.ref T.c_TooLarge) from T.g_TooLarge] at h2
      cases h2
      exact ⟨T.xc_TooLarge, T.ki_TooLarge_TooLarge⟩
    ·
      cases h
theorem ok_cell_value (T : Tx K mg w) : FnOk P w K mg base (L2.CX P w) 1 T.f_cell_value T.fd_cell_value ["kind", "values"] (spV K mg 2 F_cell_value) := fn_ok T.F_cell_value sc_cell_value fun cdv A outer s H E W hr tk pw =>
  (pss_c (ps_i (pb_kin T.t_CONSTANTS (pz_f (pf_n 0)) (by rfl) T.g_CONSTANTS)
  (pss_1 (ps_r (pv_f (pf_kget T.t_CONSTANTS (pz_f (pf_n 0)) (fun _ _ => rfl) (by rfl) T.g_CONSTANTS))))
  pss_n)
  (pss_c (ps_i (pb_cmp op_inV ops_in (pz_f (pf_n 0)) (pz_f (pf_gl (by rfl) T.g_NANDS T.r_NANDS T.k_NANDS)) (by rfl))
  (pss_1 (ps_r (pv_f (pf_v (pv_callTy call_intV cs_intV (by rfl) T.m_int (by decide +kernel) (pzs_c (pz_f (pf_not (pf_v (pv_callB (cr_all rfl) cs_all (by rfl) T.m_all (by decide +kernel) (pzs_c (pz_f (pf_v (pv_lc (own := [("value", 2)]) rfl sc_cell_value.nd (blkOk_by (own := [("value", 2)]) (N := N_cell_value) (sc := defScope s_cell_value) (by decide +kernel)) (pi_lt (pf_n 1)) (fun _ _ _ _ _ => (pg_n 2 (by decide) sc_cell_value.nd rfl (by first | exact .inl rfl | exact .inr rfl) (by first | exact .inl rfl | exact .inr rfl))) (fun _ _ _ _ _ => pbs_n) (fun _ _ _ _ _ => (pf_v (pv_cmp (op_eqV (hU hr)) ops_eq (pz_f (pf_n 2)) (pz_f pf_int) (nomark _))))))) pzs_n))))) pzs_n))))))
  pss_n)
  (pss_1 (ps_r (pv_f (pf_v (pv_callTy call_intV cs_intV (by rfl) T.m_int (by decide +kernel) (pzs_c (pz_f (pf_not (pf_v (pv_callB (cr_any rfl) cs_any (by rfl) T.m_any (by decide +kernel) (pzs_c (pz_f (pf_v (pv_lc (own := [("value", 2)]) rfl sc_cell_value.nd (blkOk_by (own := [("value", 2)]) (N := N_cell_value) (sc := defScope s_cell_value) (by decide +kernel)) (pi_lt (pf_n 1)) (fun _ _ _ _ _ => (pg_n 2 (by decide) sc_cell_value.nd rfl (by first | exact .inl rfl | exact .inr rfl) (by first | exact .inl rfl | exact .inr rfl))) (fun _ _ _ _ _ => pbs_n) (fun _ _ _ _ _ => (pf_v (pv_cmp (op_eqV (hU hr)) ops_eq (pz_f (pf_n 2)) (pz_f pf_int) (nomark _))))))) pzs_n))))) pzs_n))))))))
theorem ok_latch_cells (T : Tx K mg w) : FnOk P w K mg base (L2.CX P w) 1 T.f_latch_cells T.fd_latch_cells ["circuit"] (spV K mg 1 F_latch_cells) := fn_ok T.F_latch_cells sc_latch_cells fun cdv A outer s H E W hr tk pw =>
  (pss_1 (ps_r (pv_lc (own := [("cell", 1)]) rfl sc_latch_cells.nd (blkOk_by (own := [("cell", 1)]) (N := N_latch_cells) (sc := defScope s_latch_cells) (by decide +kernel)) (pi_lt (pf_v (pv_ix ix_seq ops_at (pz_f (pf_n 0)) (pz_f pf_int) (fun _ _ => rfl)))) (fun _ _ _ _ _ => (pg_n 1 (by decide) sc_latch_cells.nd rfl (by first | exact .inl rfl | exact .inr rfl) (by first | exact .inl rfl | exact .inr rfl))) (fun _ _ _ _ _ => (pbs_1 (pb_cmp (op_eqV (hU hr)) ops_eq (pz_f (pf_v (pv_ix ix_seq ops_at (pz_f (pf_n 1)) (pz_f pf_int) (fun _ _ => rfl)))) (pz_f pf_str) (nomark _)))) (fun _ _ _ _ _ => (pf_n 1)))))
theorem ok_settled_values (T : Tx K mg w) : FnOk P w K mg base (L2.CX P w) 2 T.f_settled_values T.fd_settled_values ["circuit", "inputs", "states", "stuck"] (spV K mg 4 F_settled_values) := fn_ok T.F_settled_values sc_settled_values fun cdv A outer s H E W hr tk pw =>
  (pss_c (ps_a 4 sc_settled_values.nd rfl (by first | exact .inl rfl | exact .inr rfl) (pv_lc (own := [("net", 10), ("bit", 11)]) rfl sc_settled_values.nd (blkOk_by (own := [("net", 10), ("bit", 11)]) (N := N_settled_values) (sc := defScope s_settled_values) (by decide +kernel)) (pi_en (by rfl) T.m_enumerate (pfs_c (pf_n 1) pfs_n)) (fun _ _ _ _ _ => (pg_t rfl (pgs_c (pg_n 10 (by decide) sc_settled_values.nd rfl (by first | exact .inl rfl | exact .inr rfl) (by first | exact .inl rfl | exact .inr rfl)) (pgs_c (pg_n 11 (by decide) sc_settled_values.nd rfl (by first | exact .inl rfl | exact .inr rfl) (by first | exact .inl rfl | exact .inr rfl)) pgs_n)))) (fun _ _ _ _ _ => pbs_n) (fun _ _ _ _ _ => (pf_get2 (hU1 hr) (pf_n 3) (pf_n 10) (pf_n 11) ⟨rfl, rfl, rfl, rfl⟩))))
  (pss_c (ps_a 5 sc_settled_values.nd rfl (by first | exact .inl rfl | exact .inr rfl) (pv_callTy call_list_of cs_list (by rfl) T.m_list (by decide +kernel) (pzs_c (pz_f (pf_n 2)) pzs_n)))
  (pss_c (ps_pre [6, 7, 8, 9] (ps_f (is := [6, 7, 8]) pw rfl (pi_lt (pf_v (pv_ix ix_seq ops_at (pz_f (pf_n 0)) (pz_f pf_int) (fun _ _ => rfl)))) (pg_t rfl (pgs_c (pg_n 6 (by decide) sc_settled_values.nd rfl (by first | exact .inl rfl | exact .inr rfl) (by first | exact .inl rfl | exact .inr rfl)) (pgs_c (pg_n 7 (by decide) sc_settled_values.nd rfl (by first | exact .inl rfl | exact .inr rfl) (by first | exact .inl rfl | exact .inr rfl)) (pgs_c (pg_n 8 (by decide) sc_settled_values.nd rfl (by first | exact .inl rfl | exact .inr rfl) (by first | exact .inl rfl | exact .inr rfl)) pgs_n))))
  (pss_wp [6, 7, 8, 9] (pss_c (ps_wp [] (ps_i (pb_cmp (op_eqV (hU hr)) ops_eq (pz_f (pf_n 6)) (pz_f pf_str) (nomark _))
  (pss_1 (ps_a 9 sc_settled_values.nd rfl (by first | exact .inl rfl | exact .inr rfl) (pv_f (pf_mt 5 PySem.F.plainAttrs_list PySem.F.slot_list_pop PySem.F.type_list_pop mt_popAt ms_pop (pfs_c pf_int pfs_n)))))
  (pss_1 (ps_a 9 sc_settled_values.nd rfl (by first | exact .inl rfl | exact .inr rfl) (pv_f (pf_v (pv_call (ok_cell_value T) (hr.mono (by decide)) (by rfl) T.g_cell_value T.kp_cell_value T.b_cell_value tk (pfs_c (pf_n 6) (pfs_c (pf_v (pv_lc (own := [("net", 10)]) rfl sc_settled_values.nd (blkOk_by (own := [("net", 10)]) (N := N_settled_values) (sc := defScope s_settled_values) (by decide +kernel)) (pi_lt (pf_n 7)) (fun _ _ _ _ _ => (pg_n 10 (by decide) sc_settled_values.nd rfl (by first | exact .inl rfl | exact .inr rfl) (by first | exact .inl rfl | exact .inr rfl))) (fun _ _ _ _ _ => pbs_n) (fun _ _ _ _ _ => (pf_v (pv_ix ix_seq ops_at (pz_b 4) (pz_f (pf_n 10)) (fun _ _ => rfl)))))) pfs_n)))))))))
  (pss_1 (ps_x (pf_mt 4 PySem.F.plainAttrs_list PySem.F.slot_list_append PySem.F.type_list_append mt_append ms_append (pfs_c (pf_get2 (hU1 hr) (pf_n 3) (pf_n 8) (pf_n 9) ⟨rfl, rfl, rfl, rfl⟩) pfs_n))))))))
  (pss_1 (ps_r (pv_mv 4))))))
theorem ok_bit_count (T : Tx K mg w) : FnOk P w K mg base (L2.CX P w) 2 T.f_bit_count T.fd_bit_count ["circuit"] (spV K mg 1 F_bit_count) := fn_ok T.F_bit_count sc_bit_count fun cdv A outer s H E W hr tk pw =>
  (pss_1 (ps_r (pv_f (pf_v (pv_bin op_addV ops_add (pz_f (pf_v (pv_ix ix_seq ops_at (pz_f (pf_n 0)) (pz_f pf_int) (fun _ _ => rfl)))) (pz_f (pf_v (pv_callB call_lenV cs_len (by rfl) T.m_len (by decide +kernel) (pzs_c (pz_f (pf_v (pv_call (ok_latch_cells T) (hr.mono (by decide)) (by rfl) T.g_latch_cells T.kp_latch_cells T.b_latch_cells tk (pfs_c (pf_n 0) pfs_n)))) pzs_n)))))))))
theorem ok_case_count (T : Tx K mg w) : FnOk P w K mg base (L2.CX P w) 3 T.f_case_count T.fd_case_count ["circuit"] (spV K mg 1 F_case_count) := fn_ok T.F_case_count sc_case_count fun cdv A outer s H E W hr tk pw =>
  (pss_1 (ps_r (pv_f (pf_v (pv_bin op_shl ops_shl (pz_f pf_int) (pz_f (pf_v (pv_call (ok_bit_count T) (hr.mono (by decide)) (by rfl) T.g_bit_count T.kp_bit_count T.b_bit_count tk (pfs_c (pf_n 0) pfs_n)))))))))
theorem ok_case_bits (T : Tx K mg w) : FnOk P w K mg base (L2.CX P w) 4 T.f_case_bits T.fd_case_bits ["circuit", "case"] (spV K mg 2 F_case_bits) := fn_ok T.F_case_bits sc_case_bits fun cdv A outer s H E W hr tk pw =>
  (pss_c (ps_i (pb_not (pb_ch op_le ops_le op_ltV ops_lt (pz_f pf_int) (pz_f (pf_n 1)) (pz_f (pf_v (pv_call (ok_case_count T) (hr.mono (by decide)) (by rfl) T.g_case_count T.kp_case_count T.b_case_count tk (pfs_c (pf_n 0) pfs_n))))))
  (pss_1 (ps_rs rfl tk PySem.F.excBase_ValueError T.x_NoSuchThing T.g_NoSuchThing T.kp_NoSuchThing (raises_own T.sb_NoSuchThing T.ty_NoSuchThing) (by rfl)))
  pss_n)
  (pss_c (ps_fz 2 (ps_lc 2 (own := [("k", 3)]) rfl sc_case_bits.nd (blkOk_by (own := [("k", 3)]) (N := N_case_bits) (sc := defScope s_case_bits) (by decide +kernel)) rfl rfl (sw_true rfl rfl rfl (by decide +kernel)) (pi_r1 (by rfl) T.m_range (pfs_c (pf_v (pv_call (ok_bit_count T) (hr.mono (by decide)) (by rfl) T.g_bit_count T.kp_bit_count T.b_bit_count tk (pfs_c (pf_n 0) pfs_n))) pfs_n)) (fun _ _ _ _ _ => (pg_n 3 (by decide) sc_case_bits.nd rfl (by first | exact .inl rfl | exact .inr rfl) (by first | exact .inl rfl | exact .inr rfl))) (fun _ _ _ _ _ => pbs_n) (fun _ _ _ _ _ => (pf_v (pv_bin op_and ops_and (pz_f (pf_v (pv_bin op_shr ops_shr (pz_f (pf_n 1)) (pz_f (pf_n 3))))) (pz_f pf_int))))))
  (pss_1 (ps_r (pv_f (pf_tup (pfs_c (pf_v (pv_cut (pz_f (pf_n 2)) pp_n (pp_s (pf_v (pv_ix ix_seq ops_at (pz_f (pf_n 0)) (pz_f pf_int) (fun _ _ => rfl)))))) (pfs_c (pf_v (pv_cut (pz_f (pf_n 2)) (pp_s (pf_v (pv_ix ix_seq ops_at (pz_f (pf_n 0)) (pz_f pf_int) (fun _ _ => rfl)))) pp_n)) pfs_n))))))))
theorem ok_check_flaw (T : Tx K mg w) : FnOk P w K mg base (L2.CX P w) 1 T.f_check_flaw T.fd_check_flaw ["circuit", "flaw"] (spV K mg 2 F_check_flaw) := fn_ok T.F_check_flaw sc_check_flaw fun cdv A outer s H E W hr tk pw =>
  (pss_1 (ps_i (pb_w (pw_o (pb_not (pb_ch op_le ops_le op_ltV ops_lt (pz_f pf_int) (pz_f (pf_v (pv_ix ix_seq ops_at (pz_f (pf_n 1)) (pz_f pf_int) (fun _ _ => rfl)))) (pz_f (pf_v (pv_bin op_addV ops_add (pz_f (pf_v (pv_ix ix_seq ops_at (pz_f (pf_n 0)) (pz_f pf_int) (fun _ _ => rfl)))) (pz_f (pf_v (pv_callB call_lenV cs_len (by rfl) T.m_len (by decide +kernel) (pzs_c (pz_f (pf_v (pv_ix ix_seq ops_at (pz_f (pf_n 0)) (pz_f pf_int) (fun _ _ => rfl)))) pzs_n))))))))) (pw_o1 (pb_cmp op_ninV ops_nin (pz_f (pf_v (pv_ix ix_seq ops_at (pz_f (pf_n 1)) (pz_f pf_int) (fun _ _ => rfl)))) (pz_f (pf_tup (pfs_c pf_int (pfs_c pf_int pfs_n)))) (by rfl)))))
  (pss_1 (ps_rs rfl tk PySem.F.excBase_ValueError T.x_NoSuchThing T.g_NoSuchThing T.kp_NoSuchThing (raises_own T.sb_NoSuchThing T.ty_NoSuchThing) (by rfl)))
  pss_n))
theorem ok_answers (T : Tx K mg w) : FnOk P w K mg base (L2.CX P w) 5 T.f_answers T.fd_answers ["circuit", "case", "stuck"] (spV K mg 3 F_answers) := fn_ok T.F_answers sc_answers fun cdv A outer s H E W hr tk pw =>
  (pss_c (ps_t (is := [3, 4]) (pf_v (pv_call (ok_case_bits T) (hr.mono (by decide)) (by rfl) T.g_case_bits T.kp_case_bits T.b_case_bits tk (pfs_c (pf_n 0) (pfs_c (pf_n 1) pfs_n)))) (pg_t rfl (pgs_c (pg_n 3 (by decide) sc_answers.nd rfl (by first | exact .inl rfl | exact .inr rfl) (by first | exact .inl rfl | exact .inr rfl)) (pgs_c (pg_n 4 (by decide) sc_answers.nd rfl (by first | exact .inl rfl | exact .inr rfl) (by first | exact .inl rfl | exact .inr rfl)) pgs_n))))
  (pss_c (ps_a 5 sc_answers.nd rfl (by first | exact .inl rfl | exact .inr rfl) (pv_f (pf_v (pv_call (ok_settled_values T) (hr.mono (by decide)) (by rfl) T.g_settled_values T.kp_settled_values T.b_settled_values tk (pfs_c (pf_n 0) (pfs_c (pf_n 3) (pfs_c (pf_n 4) (pfs_c (pf_n 2) pfs_n))))))))
  (pss_c (ps_a 6 sc_answers.nd rfl (by first | exact .inl rfl | exact .inr rfl) (pv_f (pf_v (pv_bin op_addV ops_add (pz_f (pf_v (pv_callTy call_list_of cs_list (by rfl) T.m_list (by decide +kernel) (pzs_c (pz_f (pf_v (pv_ix ix_seq ops_at (pz_f (pf_n 0)) (pz_f pf_int) (fun _ _ => rfl)))) pzs_n)))) (pz_f (pf_v (pv_lc (own := [("cell", 8)]) rfl sc_answers.nd (blkOk_by (own := [("cell", 8)]) (N := N_answers) (sc := defScope s_answers) (by decide +kernel)) (pi_lt (pf_v (pv_call (ok_latch_cells T) (hr.mono (by decide)) (by rfl) T.g_latch_cells T.kp_latch_cells T.b_latch_cells tk (pfs_c (pf_n 0) pfs_n)))) (fun _ _ _ _ _ => (pg_n 8 (by decide) sc_answers.nd rfl (by first | exact .inl rfl | exact .inr rfl) (by first | exact .inl rfl | exact .inr rfl))) (fun _ _ _ _ _ => pbs_n) (fun _ _ _ _ _ => (pf_v (pv_ix ix_seq ops_at (pz_f (pf_v (pv_ix ix_seq ops_at (pz_f (pf_n 8)) (pz_f pf_int) (fun _ _ => rfl)))) (pz_f pf_int) (fun _ _ => rfl)))))))))))
  (pss_1 (ps_r (pv_lc (own := [("net", 7)]) rfl sc_answers.nd (blkOk_by (own := [("net", 7)]) (N := N_answers) (sc := defScope s_answers) (by decide +kernel)) (pi_lt (pf_n 6)) (fun _ _ _ _ _ => (pg_n 7 (by decide) sc_answers.nd rfl (by first | exact .inl rfl | exact .inr rfl) (by first | exact .inl rfl | exact .inr rfl))) (fun _ _ _ _ _ => pbs_n) (fun _ _ _ _ _ => (pf_v (pv_ix ix_seq ops_at (pz_f (pf_n 5)) (pz_f (pf_n 7)) (fun _ _ => rfl))))))))))
theorem ok_shows (T : Tx K mg w) : FnOk P w K mg base (L2.CX P w) 6 T.f_shows T.fd_shows ["circuit", "flaw", "case"] (spV K mg 3 F_shows) := fn_ok T.F_shows sc_shows fun cdv A outer s H E W hr tk pw =>
  (pss_c (ps_x (pf_v (pv_call (ok_check_flaw T) (hr.mono (by decide)) (by rfl) T.g_check_flaw T.kp_check_flaw T.b_check_flaw tk (pfs_c (pf_n 0) (pfs_c (pf_n 1) pfs_n)))))
  (pss_1 (ps_r (pv_f (pf_v (pv_cmp (op_neV (hU hr)) ops_ne (pz_f (pf_v (pv_call (ok_answers T) (hr.mono (by decide)) (by rfl) T.g_answers T.kp_answers T.b_answers tk (pfs_c (pf_n 0) (pfs_c (pf_n 2) (pfs_c (pf_v (pv_dct1 (pf_v (pv_ix ix_seq ops_at (pz_f (pf_n 1)) (pz_f pf_int) (fun _ _ => rfl))) (pf_v (pv_ix ix_seq ops_at (pz_f (pf_n 1)) (pz_f pf_int) (fun _ _ => rfl))))) pfs_n)))))) (pz_f (pf_v (pv_call (ok_answers T) (hr.mono (by decide)) (by rfl) T.g_answers T.kp_answers T.b_answers tk (pfs_c (pf_n 0) (pfs_c (pf_n 2) (pfs_c pf_dct0 pfs_n)))))) (nomark _)))))))
theorem ok_check_size (T : Tx K mg w) : FnOk P w K mg base (L2.CX P w) 4 T.f_check_size T.fd_check_size ["circuit"] (spV K mg 1 F_check_size) := fn_ok T.F_check_size sc_check_size fun cdv A outer s H E W hr tk pw =>
  (pss_1 (ps_i (pb_cmp op_gtV ops_gt (pz_f (pf_v (pv_call (ok_case_count T) (hr.mono (by decide)) (by rfl) T.g_case_count T.kp_case_count T.b_case_count tk (pfs_c (pf_n 0) pfs_n)))) (pz_f (pf_gl (by rfl) T.g_MOST_CASES T.r_MOST_CASES T.k_MOST_CASES)) (nomark _))
  (pss_1 (ps_rs rfl tk PySem.F.excBase_ValueError T.x_TooLarge T.g_TooLarge T.kp_TooLarge (raises_own T.sb_TooLarge T.ty_TooLarge) (by rfl)))
  pss_n))
theorem ok_all_flaws (T : Tx K mg w) : FnOk P w K mg base (L2.CX P w) 1 T.f_all_flaws T.fd_all_flaws ["circuit"] (spV K mg 1 F_all_flaws) := fn_ok T.F_all_flaws sc_all_flaws fun cdv A outer s H E W hr tk pw =>
  (pss_1 (ps_r (pv_lc2 (own := [("net", 1), ("value", 2)]) (is1 := [2]) rfl sc_all_flaws.nd (blkOk_by (own := [("net", 1), ("value", 2)]) (N := N_all_flaws) (sc := defScope s_all_flaws) (by decide +kernel)) (pi_r1 (by rfl) T.m_range (pfs_c (pf_v (pv_bin op_addV ops_add (pz_f (pf_v (pv_ix ix_seq ops_at (pz_f (pf_n 0)) (pz_f pf_int) (fun _ _ => rfl)))) (pz_f (pf_v (pv_callB call_lenV cs_len (by rfl) T.m_len (by decide +kernel) (pzs_c (pz_f (pf_v (pv_ix ix_seq ops_at (pz_f (pf_n 0)) (pz_f pf_int) (fun _ _ => rfl)))) pzs_n)))))) pfs_n)) (by decide) (fun _ _ _ _ _ => (pg_n 1 (by decide) sc_all_flaws.nd rfl (by first | exact .inl rfl | exact .inr rfl) (by first | exact .inl rfl | exact .inr rfl))) (fun _ _ _ _ _ => pbs_n) (fun _ _ _ _ _ => (pi_lt (pf_tup (pfs_c pf_int (pfs_c pf_int pfs_n))))) (fun _ _ _ _ _ => (pg_n 2 (by decide) sc_all_flaws.nd rfl (by first | exact .inl rfl | exact .inr rfl) (by first | exact .inl rfl | exact .inr rfl))) (fun _ _ _ _ _ => pbs_n) (fun _ _ _ _ _ => (pf_tup (pfs_c (pf_n 1) (pfs_c (pf_n 2) pfs_n)))))))
theorem ok_first_case (T : Tx K mg w) : FnOk P w K mg base (L2.CX P w) 7 T.f_first_case T.fd_first_case ["circuit", "flaw"] (spV K mg 2 F_first_case) := fn_ok T.F_first_case sc_first_case fun cdv A outer s H E W hr tk pw =>
  (pss_c (ps_x (pf_v (pv_call (ok_check_size T) (hr.mono (by decide)) (by rfl) T.g_check_size T.kp_check_size T.b_check_size tk (pfs_c (pf_n 0) pfs_n))))
  (pss_c (ps_x (pf_v (pv_call (ok_check_flaw T) (hr.mono (by decide)) (by rfl) T.g_check_flaw T.kp_check_flaw T.b_check_flaw tk (pfs_c (pf_n 0) (pfs_c (pf_n 1) pfs_n)))))
  (pss_c (ps_pre [2] (ps_f (is := [2]) pw rfl (pi_r1 (by rfl) T.m_range (pfs_c (pf_v (pv_call (ok_case_count T) (hr.mono (by decide)) (by rfl) T.g_case_count T.kp_case_count T.b_case_count tk (pfs_c (pf_n 0) pfs_n))) pfs_n)) (pg_n 2 (by decide) sc_first_case.nd rfl (by first | exact .inl rfl | exact .inr rfl) (by first | exact .inl rfl | exact .inr rfl))
  (pss_wp [2] (pss_1 (ps_i (pb_o (pz_f (pf_v (pv_call (ok_shows T) (hr.mono (by decide)) (by rfl) T.g_shows T.kp_shows T.b_shows tk (pfs_c (pf_n 0) (pfs_c (pf_n 1) (pfs_c (pf_n 2) pfs_n)))))))
  (pss_1 (ps_r (pv_f (pf_n 2))))
  pss_n)))))
  (pss_1 (ps_r (pv_f pf_non))))))
theorem ok_hidden_flaws (T : Tx K mg w) : FnOk P w K mg base (L2.CX P w) 8 T.f_hidden_flaws T.fd_hidden_flaws ["circuit"] (spV K mg 1 F_hidden_flaws) := fn_ok T.F_hidden_flaws sc_hidden_flaws fun cdv A outer s H E W hr tk pw =>
  (pss_c (ps_x (pf_v (pv_call (ok_check_size T) (hr.mono (by decide)) (by rfl) T.g_check_size T.kp_check_size T.b_check_size tk (pfs_c (pf_n 0) pfs_n))))
  (pss_1 (ps_r (pv_lc (own := [("flaw", 1)]) rfl sc_hidden_flaws.nd (blkOk_by (own := [("flaw", 1)]) (N := N_hidden_flaws) (sc := defScope s_hidden_flaws) (by decide +kernel)) (pi_lt (pf_v (pv_call (ok_all_flaws T) (hr.mono (by decide)) (by rfl) T.g_all_flaws T.kp_all_flaws T.b_all_flaws tk (pfs_c (pf_n 0) pfs_n)))) (fun _ _ _ _ _ => (pg_n 1 (by decide) sc_hidden_flaws.nd rfl (by first | exact .inl rfl | exact .inr rfl) (by first | exact .inl rfl | exact .inr rfl))) (fun _ _ _ _ _ => (pbs_1 (pb_cmp op_isV ops_is (pz_f (pf_v (pv_call (ok_first_case T) (hr.mono (by decide)) (by rfl) T.g_first_case T.kp_first_case T.b_first_case takes0 (pfs_c (pf_n 0) (pfs_c (pf_n 1) pfs_n))))) (pz_f pf_non) (nomark _)))) (fun _ _ _ _ _ => (pf_n 1))))))
theorem ok_make_tests (T : Tx K mg w) : FnOk P w K mg base (L2.CX P w) 7 T.f_make_tests T.fd_make_tests ["circuit"] (spV K mg 1 F_make_tests) := fn_ok T.F_make_tests sc_make_tests fun cdv A outer s H E W hr tk pw =>
  (pss_c (ps_x (pf_v (pv_call (ok_check_size T) (hr.mono (by decide)) (by rfl) T.g_check_size T.kp_check_size T.b_check_size tk (pfs_c (pf_n 0) pfs_n))))
  (pss_c (ps_a 1 sc_make_tests.nd rfl (by first | exact .inl rfl | exact .inr rfl) (pv_lst pfs_n))
  (pss_c (ps_pre [2] (ps_f (is := [2]) pw rfl (pi_r1 (by rfl) T.m_range (pfs_c (pf_v (pv_call (ok_case_count T) (hr.mono (by decide)) (by rfl) T.g_case_count T.kp_case_count T.b_case_count tk (pfs_c (pf_n 0) pfs_n))) pfs_n)) (pg_n 2 (by decide) sc_make_tests.nd rfl (by first | exact .inl rfl | exact .inr rfl) (by first | exact .inl rfl | exact .inr rfl))
  (pss_wp [2] (pss_1 (ps_x (pf_mt 1 PySem.F.plainAttrs_list PySem.F.slot_list_append PySem.F.type_list_append mt_append ms_append (pfs_c (pf_v (pv_lc (own := [("flaw", 7)]) rfl sc_make_tests.nd (blkOk_by (own := [("flaw", 7)]) (N := N_make_tests) (sc := defScope s_make_tests) (by decide +kernel)) (pi_lt (pf_v (pv_call (ok_all_flaws T) (hr.mono (by decide)) (by rfl) T.g_all_flaws T.kp_all_flaws T.b_all_flaws tk (pfs_c (pf_n 0) pfs_n)))) (fun _ _ _ _ _ => (pg_n 7 (by decide) sc_make_tests.nd rfl (by first | exact .inl rfl | exact .inr rfl) (by first | exact .inl rfl | exact .inr rfl))) (fun _ _ _ _ _ => (pbs_1 (pb_o (pz_f (pf_v (pv_call (ok_shows T) (hr.mono (by decide)) (by rfl) T.g_shows T.kp_shows T.b_shows takes0 (pfs_c (pf_n 0) (pfs_c (pf_n 7) (pfs_c (pf_n 2) pfs_n))))))))) (fun _ _ _ _ _ => (pf_n 7)))) pfs_n)))))))
  (pss_c (ps_a 3 sc_make_tests.nd rfl (by first | exact .inl rfl | exact .inr rfl) (pv_lst pfs_n))
  (pss_c (ps_fz 4 (ps_lc 4 (own := [("flaws", 6)]) rfl sc_make_tests.nd (blkOk_by (own := [("flaws", 6)]) (N := N_make_tests) (sc := defScope s_make_tests) (by decide +kernel)) rfl rfl (sw_true rfl rfl rfl (by decide +kernel)) (pi_lt (pf_z 1)) (fun _ _ _ _ _ => (pg_n 6 (by decide) sc_make_tests.nd rfl (by first | exact .inl rfl | exact .inr rfl) (by first | exact .inl rfl | exact .inr rfl))) (fun _ _ _ _ _ => pbs_n) (fun _ _ _ _ _ => (pf_v (pv_callB call_lenV cs_len (by rfl) T.m_len (by decide +kernel) (pzs_c (pz_f (pf_n 6)) pzs_n))))))
  (pss_c (ps_pre [2, 5] (ps_w fuel pw (pb_cmp op_gtV ops_gt (pz_f (pf_v (pv_callB (call_maxV rfl) cs_max (by rfl) T.m_max (by decide +kernel) (pzs_c (pz_f (pf_n 4)) pzs_n)))) (pz_f pf_int) (nomark _))
  (pss_wp [2, 5] (pss_c (ps_a 2 sc_make_tests.nd rfl (by first | exact .inl rfl | exact .inr rfl) (pv_f (pf_v (pv_bm PySem.F.plainAttrs_list PySem.F.slot_list_index PySem.F.type_list_index (mt_indexD (hU65 hr)) bm_index (pf_n 4) (pfs_c (pf_v (pv_callB (call_maxV rfl) cs_max (by rfl) T.m_max (by decide +kernel) (pzs_c (pz_f (pf_n 4)) pzs_n))) pfs_n)))))
  (pss_c (ps_x (pf_mt 3 PySem.F.plainAttrs_list PySem.F.slot_list_append PySem.F.type_list_append mt_append ms_append (pfs_c (pf_n 2) pfs_n)))
  (pss_c (ps_fz 5 (ps_a 5 sc_make_tests.nd rfl (by first | exact .inl rfl | exact .inr rfl) (pv_dc true (own := [("flaw", 7)]) (hU1 hr) rfl sc_make_tests.nd (blkOk_by (own := [("flaw", 7)]) (N := N_make_tests) (sc := defScope s_make_tests) (by decide +kernel)) (pi_lt (pf_v (pv_ix ix_seq ops_at (pz_b 1) (pz_f (pf_n 2)) (fun _ _ => rfl)))) (fun _ _ _ _ _ => (pg_n 7 (by decide) sc_make_tests.nd rfl (by first | exact .inl rfl | exact .inr rfl) (by first | exact .inl rfl | exact .inr rfl))) (fun _ _ _ _ _ => pbs_n) (fun _ _ _ _ _ => (pf_n 7)) (fun _ _ _ _ _ => pf_bl))))
  (pss_c (ps_lc 1 (own := [("flaws", 6)]) rfl sc_make_tests.nd (blkOk_by (own := [("flaws", 6)]) (N := N_make_tests) (sc := defScope s_make_tests) (by decide +kernel)) rfl rfl (sw_true rfl rfl rfl (by decide +kernel)) (pi_lt (pf_z 1)) (fun _ _ _ _ _ => (pg_n 6 (by decide) sc_make_tests.nd rfl (by first | exact .inl rfl | exact .inr rfl) (by first | exact .inl rfl | exact .inr rfl))) (fun _ _ _ _ _ => pbs_n) (fun _ _ _ _ _ => (pf_v (pv_lc (own := [("flaw", 7)]) rfl sc_make_tests.nd (blkOk_nest (own := [("flaw", 7)]) (N := N_make_tests) (by decide +kernel)) (pi_lt (pf_n 6)) (fun _ _ _ _ _ => (pg_n 7 (by decide) sc_make_tests.nd rfl (by first | exact .inl rfl | exact .inr rfl) (by first | exact .inl rfl | exact .inr rfl))) (fun _ _ _ _ _ => (pbs_1 (pb_tnin 5 (hU1 hr) (pf_n 7)))) (fun _ _ _ _ _ => (pf_n 7))))))
  (pss_1 (ps_fz 4 (ps_lc 4 (own := [("flaws", 6)]) rfl sc_make_tests.nd (blkOk_by (own := [("flaws", 6)]) (N := N_make_tests) (sc := defScope s_make_tests) (by decide +kernel)) rfl rfl (sw_true rfl rfl rfl (by decide +kernel)) (pi_lt (pf_z 1)) (fun _ _ _ _ _ => (pg_n 6 (by decide) sc_make_tests.nd rfl (by first | exact .inl rfl | exact .inr rfl) (by first | exact .inl rfl | exact .inr rfl))) (fun _ _ _ _ _ => pbs_n) (fun _ _ _ _ _ => (pf_v (pv_callB call_lenV cs_len (by rfl) T.m_len (by decide +kernel) (pzs_c (pz_f (pf_n 6)) pzs_n))))))))))))))
  (pss_1 (ps_r (pv_mv 3)))))))))
theorem ok_law_cell (T : Tx K mg w) : FnOk P w K mg base (L2.CX P w) 1 T.f_law_cell T.fd_law_cell ["script", "k"] (spV K mg 2 F_law_cell) := fn_ok T.F_law_cell sc_law_cell fun cdv A outer s H E W hr tk pw =>
  (pss_c (ps_i (pb_cmp op_ltV ops_lt (pz_f (pf_n 1)) (pz_f (pf_v (pv_callB call_lenV cs_len (by rfl) T.m_len (by decide +kernel) (pzs_c (pz_f (pf_n 0)) pzs_n)))) (nomark _))
  (pss_1 (ps_r (pv_f (pf_v (pv_ix ix_seq ops_at (pz_f (pf_n 0)) (pz_f (pf_n 1)) (fun _ _ => rfl))))))
  pss_n)
  (pss_1 (ps_r (pv_f pf_int))))
theorem ok_law_parts (T : Tx K mg w) : FnOk P w K mg base (L2.CX P w) 1 T.f_law_parts T.fd_law_parts ["cell", "sizes"] (spV K mg 2 F_law_parts) := fn_ok T.F_law_parts sc_law_parts fun cdv A outer s H E W hr tk pw =>
  (pss_c (ps_a 2 sc_law_parts.nd rfl (by first | exact .inl rfl | exact .inr rfl) (pv_lst pfs_n))
  (pss_c (ps_a 3 sc_law_parts.nd rfl (by first | exact .inl rfl | exact .inr rfl) (pv_f (pf_v (pv_bin op_sub ops_sub (pz_f (pf_n 0)) (pz_f (pf_v (pv_bin op_pow ops_pow (pz_f pf_int) (pz_f pf_int))))))))
  (pss_c (ps_pre [4, 5] (ps_f (is := [4]) pw rfl (pi_r1 (by rfl) T.m_range (pfs_c (pf_v (pv_callB call_lenV cs_len (by rfl) T.m_len (by decide +kernel) (pzs_c (pz_f (pf_n 1)) pzs_n))) pfs_n)) (pg_n 4 (by decide) sc_law_parts.nd rfl (by first | exact .inl rfl | exact .inr rfl) (by first | exact .inl rfl | exact .inr rfl))
  (pss_wp [4, 5] (pss_1 (ps_i (pb_cmp op_ge ops_ge (pz_f (pf_n 3)) (pz_f pf_int) (nomark _))
  (pss_c (ps_x (pf_mt 2 PySem.F.plainAttrs_list PySem.F.slot_list_append PySem.F.type_list_append mt_append ms_append (pfs_c (pf_v (pv_bin op_mod ops_mod (pz_f (pf_v (pv_callTy call_intV cs_intV (by rfl) T.m_int (by decide +kernel) (pzs_c (pz_f (pf_n 3)) pzs_n)))) (pz_f (pf_v (pv_ix ix_seq ops_at (pz_f (pf_n 1)) (pz_f (pf_n 4)) (fun _ _ => rfl)))))) pfs_n)))
  (pss_1 (ps_a 3 sc_law_parts.nd rfl (by first | exact .inl rfl | exact .inr rfl) (pv_f (pf_v (pv_bin op_divV ops_div (pz_f (pf_n 3)) (pz_f (pf_v (pv_ix ix_seq ops_at (pz_f (pf_n 1)) (pz_f (pf_n 4)) (fun _ _ => rfl))))))))))
  (pss_c (ps_a 5 sc_law_parts.nd rfl (by first | exact .inl rfl | exact .inr rfl) (pv_f (pf_v (pv_bin op_mod ops_mod (pz_f (pf_v (pv_callTy call_intV cs_intV (by rfl) T.m_int (by decide +kernel) (pzs_c (pz_f (pf_v (pv_bin op_addV ops_add (pz_f (pf_v (pv_bin op_addV ops_add (pz_f (pf_v (pv_bin op_mulV ops_mul (pz_f (pf_n 0)) (pz_f pf_int)))) (pz_f (pf_v (pv_bin op_mulV ops_mul (pz_f (pf_n 4)) (pz_f pf_int))))))) (pz_f pf_int)))) pzs_n)))) (pz_f pf_int)))))
  (pss_c (ps_a 5 sc_law_parts.nd rfl (by first | exact .inl rfl | exact .inr rfl) (pv_f (pf_v (pv_bin op_mod ops_mod (pz_f (pf_v (pv_callTy call_intV cs_intV (by rfl) T.m_int (by decide +kernel) (pzs_c (pz_f (pf_v (pv_bin op_addV ops_add (pz_f (pf_v (pv_bin op_addV ops_add (pz_f (pf_v (pv_bin op_mulV ops_mul (pz_f (pf_n 5)) (pz_f (pf_n 5))))) (pz_f (pf_v (pv_bin op_mulV ops_mul (pz_f pf_int) (pz_f (pf_n 4)))))))) (pz_f pf_int)))) pzs_n)))) (pz_f pf_int)))))
  (pss_1 (ps_x (pf_mt 2 PySem.F.plainAttrs_list PySem.F.slot_list_append PySem.F.type_list_append mt_append ms_append (pfs_c (pf_v (pv_bin op_mod ops_mod (pz_f (pf_v (pv_callTy call_intV cs_intV (by rfl) T.m_int (by decide +kernel) (pzs_c (pz_f (pf_n 5)) pzs_n)))) (pz_f (pf_v (pv_ix ix_seq ops_at (pz_f (pf_n 1)) (pz_f (pf_n 4)) (fun _ _ => rfl)))))) pfs_n)))))))))))
  (pss_1 (ps_r (pv_mv 2))))))
theorem ok_law_is_integer (T : Tx K mg w) : FnOk P w K mg base (L2.CX P w) 1 T.f_law_is_integer T.fd_law_is_integer ["actual"] (spV K mg 1 F_law_is_integer) := fn_ok T.F_law_is_integer sc_law_is_integer fun cdv A outer s H E W hr tk pw =>
  (pss_1 (ps_r (pv_f (pf_v (pv_and (pf_isi (by rfl) T.m_isinstance (by decide +kernel) (pz_f (pf_n 0)) (by rfl) T.m_int (by decide +kernel) (fun t h => kit_ty (kit_int t h))) (pv_one (pv_f (pf_not (pf_isi (by rfl) T.m_isinstance (by decide +kernel) (pz_f (pf_n 0)) (by rfl) T.m_bool (by decide +kernel) (fun t h => kit_ty (kit_bool t h)))))))))))
theorem ok_law_kind (T : Tx K mg w) : FnOk P w K mg base (L2.CX P w) 1 T.f_law_kind T.fd_law_kind ["parts", "nets", "latches"] (spV K mg 3 F_law_kind) := fn_ok T.F_law_kind sc_law_kind fun cdv A outer s H E W hr tk pw =>
  (pss_c (ps_a 3 sc_law_kind.nd rfl (by first | exact .inl rfl | exact .inr rfl) (pv_f (pf_v (pv_lst (pfs_c pf_str (pfs_c pf_str (pfs_c pf_str (pfs_c pf_str (pfs_c pf_str (pfs_c pf_str (pfs_c pf_str (pfs_c pf_str (pfs_c pf_str (pfs_c pf_str (pfs_c pf_str (pfs_c pf_str pfs_n))))))))))))))))
  (pss_c (ps_a 4 sc_law_kind.nd rfl (by first | exact .inl rfl | exact .inr rfl) (pv_f (pf_v (pv_ix ix_seq ops_at (pz_f (pf_v (pv_bin op_addV ops_add (pz_f (pf_n 3)) (pz_f (pf_v (pv_lst (pfs_c pf_str (pfs_c pf_str (pfs_c pf_str (pfs_c pf_str pfs_n)))))))))) (pz_f (pf_v (pv_ix ix_seq ops_at (pz_f (pf_n 0)) (pz_f pf_int) (fun _ _ => rfl)))) (fun _ _ => rfl)))))
  (pss_c (ps_wp [] (ps_i (pb_w (pw_a (pb_cmp (op_eqV (hU hr)) ops_eq (pz_f (pf_n 4)) (pz_f pf_str) (nomark _)) (pw_a1 (pb_cmp (op_eqV (hU hr)) ops_eq (pz_f (pf_n 2)) (pz_f pf_int) (nomark _)))))
  (pss_1 (ps_a 4 sc_law_kind.nd rfl (by first | exact .inl rfl | exact .inr rfl) (pv_f pf_str)))
  pss_n))
  (pss_c (ps_i (pb_w (pw_a (pb_cmp (op_eqV (hU hr)) ops_eq (pz_f (pf_n 1)) (pz_f pf_int) (nomark _)) (pw_a1 (pb_cmp (op_neV (hU hr)) ops_ne (pz_f (pf_n 4)) (pz_f pf_str) (nomark _)))))
  (pss_1 (ps_r (pv_f (pf_v (pv_ix ix_seq ops_at (pz_f (pf_v (pv_lst (pfs_c pf_str (pfs_c pf_str pfs_n))))) (pz_f (pf_v (pv_bin op_mod ops_mod (pz_f (pf_v (pv_callTy call_intV cs_intV (by rfl) T.m_int (by decide +kernel) (pzs_c (pz_f (pf_v (pv_ix ix_seq ops_at (pz_f (pf_n 0)) (pz_f pf_int) (fun _ _ => rfl)))) pzs_n)))) (pz_f pf_int)))) (fun _ _ => rfl))))))
  pss_n)
  (pss_c (ps_i (pb_w (pw_a (pb_cmp op_inV ops_in (pz_f (pf_n 4)) (pz_f (pf_v (pv_lst (pfs_c pf_str (pfs_c pf_str (pfs_c pf_str (pfs_c pf_str pfs_n))))))) (by rfl)) (pw_a1 (pb_cmp op_ltV ops_lt (pz_f (pf_n 1)) (pz_f (pf_v (pv_callTy call_intV cs_intV (by rfl) T.m_int (by decide +kernel) (pzs_c (pz_f (pf_v (pv_ix ix_seq ops_at (pz_f (pf_n 4)) (pz_f (pf_neg pf_int)) (fun _ _ => rfl)))) pzs_n)))) (nomark _)))))
  (pss_1 (ps_r (pv_f (pf_v (pv_ix ix_seq ops_at (pz_f (pf_v (pv_lst (pfs_c pf_str (pfs_c pf_str pfs_n))))) (pz_f (pf_v (pv_bin op_sub ops_sub (pz_f (pf_n 1)) (pz_f pf_int)))) (fun _ _ => rfl))))))
  pss_n)
  (pss_1 (ps_r (pv_f (pf_n 4)))))))))
theorem ok_law_drawn (T : Tx K mg w) : FnOk P w K mg base (L2.CX P w) 1 T.f_law_drawn T.fd_law_drawn ["parts", "count", "nets"] (spV K mg 3 F_law_drawn) := fn_ok T.F_law_drawn sc_law_drawn fun cdv A outer s H E W hr tk pw =>
  (pss_c (ps_a 3 sc_law_drawn.nd rfl (by first | exact .inl rfl | exact .inr rfl) (pv_lr1 rfl (by rfl) T.m_list (by rfl) T.m_range (pf_n 2)))
  (pss_c (ps_a 4 sc_law_drawn.nd rfl (by first | exact .inl rfl | exact .inr rfl) (pv_lst pfs_n))
  (pss_c (ps_pre [5] (ps_f (is := [5]) pw rfl (pi_r1 (by rfl) T.m_range (pfs_c (pf_n 1) pfs_n)) (pg_n 5 (by decide) sc_law_drawn.nd rfl (by first | exact .inl rfl | exact .inr rfl) (by first | exact .inl rfl | exact .inr rfl))
  (pss_wp [5] (pss_1 (ps_x (pf_mt 4 PySem.F.plainAttrs_list PySem.F.slot_list_append PySem.F.type_list_append mt_append ms_append (pfs_c (pf_mt 3 PySem.F.plainAttrs_list PySem.F.slot_list_pop PySem.F.type_list_pop mt_popAt ms_pop (pfs_c (pf_v (pv_bin op_mod ops_mod (pz_f (pf_v (pv_callTy call_intV cs_intV (by rfl) T.m_int (by decide +kernel) (pzs_c (pz_f (pf_v (pv_ix ix_seq ops_at (pz_f (pf_n 0)) (pz_f (pf_v (pv_bin op_addV ops_add (pz_f pf_int) (pz_f (pf_n 5))))) (fun _ _ => rfl)))) pzs_n)))) (pz_f (pf_v (pv_callB call_lenV cs_len (by rfl) T.m_len (by decide +kernel) (pzs_c (pz_b 3) pzs_n)))))) pfs_n)) pfs_n)))))))
  (pss_1 (ps_r (pv_f (pf_v (pv_callTy call_tuple_of cs_tuple (by rfl) T.m_tuple (by decide +kernel) (pzs_c (pz_b 4) pzs_n)))))))))
theorem ok_law_circuit (T : Tx K mg w) : FnOk P w K mg base (L2.CX P w) 2 T.f_law_circuit T.fd_law_circuit ["script", "most"] (spV K mg 2 F_law_circuit) := fn_ok T.F_law_circuit sc_law_circuit fun cdv A outer s H E W hr tk pw =>
  (pss_c (ps_a 2 sc_law_circuit.nd rfl (by first | exact .inl rfl | exact .inr rfl) (pv_f (pf_v (pv_call (ok_law_parts T) (hr.mono (by decide)) (by rfl) T.g_law_parts T.kp_law_parts T.b_law_parts tk (pfs_c (pf_v (pv_call (ok_law_cell T) (hr.mono (by decide)) (by rfl) T.g_law_cell T.kp_law_cell T.b_law_cell tk (pfs_c (pf_n 0) (pfs_c pf_int pfs_n)))) (pfs_c (pf_v (pv_lst (pfs_c pf_int (pfs_c pf_int (pfs_c pf_int (pfs_c pf_int pfs_n)))))) pfs_n))))))
  (pss_c (ps_a 3 sc_law_circuit.nd rfl (by first | exact .inl rfl | exact .inr rfl) (pv_lst pfs_n))
  (pss_c (ps_a 4 sc_law_circuit.nd rfl (by first | exact .inl rfl | exact .inr rfl) (pv_f pf_int))
  (pss_c (ps_a 5 sc_law_circuit.nd rfl (by first | exact .inl rfl | exact .inr rfl) (pv_f (pf_v (pv_bin op_addV ops_add (pz_f (pf_v (pv_ix ix_seq ops_at (pz_f (pf_n 2)) (pz_f pf_int) (fun _ _ => rfl)))) (pz_f (pf_v (pv_callB (call_minV rfl) cs_min (by rfl) T.m_min (by decide +kernel) (pzs_c (pz_f (pf_n 1)) (pzs_c (pz_f (pf_v (pv_callB (call_maxV rfl) cs_max (by rfl) T.m_max (by decide +kernel) (pzs_c (pz_f pf_int) (pzs_c (pz_f (pf_v (pv_bin op_sub ops_sub (pz_f (pf_v (pv_callB call_lenV cs_len (by rfl) T.m_len (by decide +kernel) (pzs_c (pz_f (pf_n 0)) pzs_n)))) (pz_f pf_int)))) pzs_n))))) pzs_n)))))))))
  (pss_c (ps_pre [6, 7, 8] (ps_f (is := [6]) pw rfl (pi_r2 (by rfl) T.m_range (pfs_c (pf_v (pv_ix ix_seq ops_at (pz_f (pf_n 2)) (pz_f pf_int) (fun _ _ => rfl))) (pfs_c (pf_n 5) pfs_n))) (pg_n 6 (by decide) sc_law_circuit.nd rfl (by first | exact .inl rfl | exact .inr rfl) (by first | exact .inl rfl | exact .inr rfl))
  (pss_wp [6, 7, 8] (pss_c (ps_a 7 sc_law_circuit.nd rfl (by first | exact .inl rfl | exact .inr rfl) (pv_f (pf_v (pv_call (ok_law_parts T) (hr.mono (by decide)) (by rfl) T.g_law_parts T.kp_law_parts T.b_law_parts tk (pfs_c (pf_v (pv_call (ok_law_cell T) (hr.mono (by decide)) (by rfl) T.g_law_cell T.kp_law_cell T.b_law_cell tk (pfs_c (pf_n 0) (pfs_c (pf_v (pv_bin op_sub ops_sub (pz_f (pf_v (pv_bin op_addV ops_add (pz_f pf_int) (pz_f (pf_n 6))))) (pz_f (pf_v (pv_ix ix_seq ops_at (pz_f (pf_n 2)) (pz_f pf_int) (fun _ _ => rfl)))))) pfs_n)))) (pfs_c (pf_v (pv_lst (pfs_c pf_int (pfs_c pf_int (pfs_c pf_int (pfs_c pf_int pfs_n)))))) pfs_n))))))
  (pss_c (ps_a 8 sc_law_circuit.nd rfl (by first | exact .inl rfl | exact .inr rfl) (pv_f (pf_v (pv_call (ok_law_kind T) (hr.mono (by decide)) (by rfl) T.g_law_kind T.kp_law_kind T.b_law_kind tk (pfs_c (pf_n 7) (pfs_c (pf_n 6) (pfs_c (pf_n 4) pfs_n)))))))
  (pss_1 (ps_i (pb_cmp (op_eqV (hU hr)) ops_eq (pz_f (pf_n 8)) (pz_f pf_str) (nomark _))
  (pss_c (ps_a 4 sc_law_circuit.nd rfl (by first | exact .inl rfl | exact .inr rfl) (pv_f (pf_v (pv_bin op_addV ops_add (pz_f (pf_n 4)) (pz_f pf_int)))))
  (pss_1 (ps_x (pf_mt 3 PySem.F.plainAttrs_list PySem.F.slot_list_append PySem.F.type_list_append mt_append ms_append (pfs_c (pf_tup (pfs_c (pf_n 8) (pfs_c (pf_v (pv_call (ok_law_drawn T) (hr.mono (by decide)) (by rfl) T.g_law_drawn T.kp_law_drawn T.b_law_drawn tk (pfs_c (pf_n 7) (pfs_c pf_int (pfs_c (pf_n 5) pfs_n))))) (pfs_c (pf_n 6) pfs_n)))) pfs_n)))))
  (pss_1 (ps_i (pb_cmp op_inV ops_in (pz_f (pf_n 8)) (pz_f (pf_v (pv_lst (pfs_c pf_str (pfs_c pf_str pfs_n))))) (by rfl))
  (pss_1 (ps_x (pf_mt 3 PySem.F.plainAttrs_list PySem.F.slot_list_append PySem.F.type_list_append mt_append ms_append (pfs_c (pf_tup (pfs_c (pf_n 8) (pfs_c (pf_tup pfs_n) (pfs_c (pf_n 6) pfs_n)))) pfs_n))))
  (pss_1 (ps_i (pb_cmp (op_eqV (hU hr)) ops_eq (pz_f (pf_n 8)) (pz_f pf_str) (nomark _))
  (pss_1 (ps_x (pf_mt 3 PySem.F.plainAttrs_list PySem.F.slot_list_append PySem.F.type_list_append mt_append ms_append (pfs_c (pf_tup (pfs_c (pf_n 8) (pfs_c (pf_v (pv_call (ok_law_drawn T) (hr.mono (by decide)) (by rfl) T.g_law_drawn T.kp_law_drawn T.b_law_drawn tk (pfs_c (pf_n 7) (pfs_c pf_int (pfs_c (pf_n 6) pfs_n))))) (pfs_c (pf_n 6) pfs_n)))) pfs_n))))
  (pss_1 (ps_x (pf_mt 3 PySem.F.plainAttrs_list PySem.F.slot_list_append PySem.F.type_list_append mt_append ms_append (pfs_c (pf_tup (pfs_c (pf_n 8) (pfs_c (pf_v (pv_call (ok_law_drawn T) (hr.mono (by decide)) (by rfl) T.g_law_drawn T.kp_law_drawn T.b_law_drawn tk (pfs_c (pf_n 7) (pfs_c (pf_v (pv_callTy call_intV cs_intV (by rfl) T.m_int (by decide +kernel) (pzs_c (pz_f (pf_v (pv_ix ix_seq ops_at (pz_f (pf_n 8)) (pz_f (pf_neg pf_int)) (fun _ _ => rfl)))) pzs_n))) (pfs_c (pf_n 6) pfs_n))))) (pfs_c (pf_n 6) pfs_n)))) pfs_n)))))))))))))))
  (pss_c (ps_a 9 sc_law_circuit.nd rfl (by first | exact .inl rfl | exact .inr rfl) (pv_f (pf_v (pv_callTy call_tuple_of cs_tuple (by rfl) T.m_tuple (by decide +kernel) (pzs_c (pz_f (pf_v (pv_lc (own := [("k", 10)]) rfl sc_law_circuit.nd (blkOk_by (own := [("k", 10)]) (N := N_law_circuit) (sc := defScope s_law_circuit) (by decide +kernel)) (pi_r1 (by rfl) T.m_range (pfs_c (pf_v (pv_bin op_addV ops_add (pz_f pf_int) (pz_f (pf_v (pv_ix ix_seq ops_at (pz_f (pf_n 2)) (pz_f pf_int) (fun _ _ => rfl)))))) pfs_n)) (fun _ _ _ _ _ => (pg_n 10 (by decide) sc_law_circuit.nd rfl (by first | exact .inl rfl | exact .inr rfl) (by first | exact .inl rfl | exact .inr rfl))) (fun _ _ _ _ _ => pbs_n) (fun _ _ _ _ _ => (pf_v (pv_bin op_mod ops_mod (pz_f (pf_v (pv_callTy call_intV cs_intV (by rfl) T.m_int (by decide +kernel) (pzs_c (pz_f (pf_v (pv_bin op_addV ops_add (pz_f (pf_v (pv_ix ix_seq ops_at (pz_f (pf_n 2)) (pz_f pf_int) (fun _ _ => rfl)))) (pz_f (pf_v (pv_bin op_mulV ops_mul (pz_f (pf_n 10)) (pz_f (pf_v (pv_ix ix_seq ops_at (pz_f (pf_n 2)) (pz_f pf_int) (fun _ _ => rfl)))))))))) pzs_n)))) (pz_f (pf_n 5)))))))) pzs_n)))))
  (pss_1 (ps_r (pv_f (pf_tup (pfs_c (pf_v (pv_ix ix_seq ops_at (pz_f (pf_n 2)) (pz_f pf_int) (fun _ _ => rfl))) (pfs_c (pf_v (pv_callTy call_tuple_of cs_tuple (by rfl) T.m_tuple (by decide +kernel) (pzs_c (pz_b 3) pzs_n))) (pfs_c (pf_n 9) (pfs_c (pf_v (pv_callTy call_tuple_of cs_tuple (by rfl) T.m_tuple (by decide +kernel) (pzs_c (pz_f (pf_v (pv_lc (own := [("k", 10)]) rfl sc_law_circuit.nd (blkOk_by (own := [("k", 10)]) (N := N_law_circuit) (sc := defScope s_law_circuit) (by decide +kernel)) (pi_r1 (by rfl) T.m_range (pfs_c (pf_n 4) pfs_n)) (fun _ _ _ _ _ => (pg_n 10 (by decide) sc_law_circuit.nd rfl (by first | exact .inl rfl | exact .inr rfl) (by first | exact .inl rfl | exact .inr rfl))) (fun _ _ _ _ _ => pbs_n) (fun _ _ _ _ _ => (pf_v (pv_bin op_mod ops_mod (pz_f (pf_v (pv_callTy call_intV cs_intV (by rfl) T.m_int (by decide +kernel) (pzs_c (pz_f (pf_v (pv_bin op_addV ops_add (pz_f (pf_v (pv_ix ix_seq ops_at (pz_f (pf_n 2)) (pz_f pf_int) (fun _ _ => rfl)))) (pz_f (pf_n 10))))) pzs_n)))) (pz_f pf_int))))))) pzs_n))) pfs_n))))))))))))))
theorem ok_law_value (T : Tx K mg w) : FnOk P w K mg base (L2.CX P w) 1 T.f_law_value T.fd_law_value ["kind", "bits"] (spV K mg 2 F_law_value) := fn_ok T.F_law_value sc_law_value fun cdv A outer s H E W hr tk pw =>
  (pss_c (ps_i (pb_cmp (op_eqV (hU hr)) ops_eq (pz_f (pf_v (pv_cut (pz_f (pf_n 0)) pp_n (pp_s pf_int)))) (pz_f pf_str) (nomark _))
  (pss_1 (ps_r (pv_f (pf_v (pv_callTy call_intV cs_intV (by rfl) T.m_int (by decide +kernel) (pzs_c (pz_f (pf_v (pv_ix ix_seq ops_at (pz_f (pf_n 0)) (pz_f pf_int) (fun _ _ => rfl)))) pzs_n))))))
  pss_n)
  (pss_c (ps_i (pb_cmp (op_eqV (hU hr)) ops_eq (pz_f (pf_v (pv_cut (pz_f (pf_n 0)) pp_n (pp_s pf_int)))) (pz_f pf_str) (nomark _))
  (pss_1 (ps_r (pv_f (pf_v (pv_callTy call_intV cs_intV (by rfl) T.m_int (by decide +kernel) (pzs_c (pz_f (pf_v (pv_cmp (op_eqV (hU hr)) ops_eq (pz_f (pf_v (pv_callB (cr_sum rfl) cs_sum (by rfl) T.m_sum (by decide +kernel) (pzs_c (pz_f (pf_n 1)) pzs_n)))) (pz_f pf_int) (nomark _)))) pzs_n))))))
  pss_n)
  (pss_1 (ps_r (pv_f (pf_v (pv_callTy call_intV cs_intV (by rfl) T.m_int (by decide +kernel) (pzs_c (pz_f (pf_v (pv_cmp op_ltV ops_lt (pz_f (pf_v (pv_callB (cr_sum rfl) cs_sum (by rfl) T.m_sum (by decide +kernel) (pzs_c (pz_f (pf_n 1)) pzs_n)))) (pz_f (pf_v (pv_callB call_lenV cs_len (by rfl) T.m_len (by decide +kernel) (pzs_c (pz_f (pf_n 1)) pzs_n)))) (nomark _)))) pzs_n))))))))
theorem ok_law_answers (T : Tx K mg w) : FnOk P w K mg base (L2.CX P w) 2 T.f_law_answers T.fd_law_answers ["circuit", "case", "net", "value"] (spV K mg 4 F_law_answers) := fn_ok T.F_law_answers sc_law_answers fun cdv A outer s H E W hr tk pw =>
  (pss_c (ps_a 4 sc_law_answers.nd rfl (by first | exact .inl rfl | exact .inr rfl) (pv_lst pfs_n))
  (pss_c (ps_a 5 sc_law_answers.nd rfl (by first | exact .inl rfl | exact .inr rfl) (pv_f (pf_v (pv_ix ix_seq ops_at (pz_f (pf_n 0)) (pz_f pf_int) (fun _ _ => rfl)))))
  (pss_c (ps_pre [6] (ps_f (is := [6]) pw rfl (pi_r1 (by rfl) T.m_range (pfs_c (pf_n 5) pfs_n)) (pg_n 6 (by decide) sc_law_answers.nd rfl (by first | exact .inl rfl | exact .inr rfl) (by first | exact .inl rfl | exact .inr rfl))
  (pss_wp [6] (pss_1 (ps_x (pf_mt 4 PySem.F.plainAttrs_list PySem.F.slot_list_append PySem.F.type_list_append mt_append ms_append (pfs_c (pf_v (pv_bin op_sub ops_sub (pz_f (pf_v (pv_bin op_divV ops_div (pz_f (pf_n 1)) (pz_f (pf_v (pv_ix ix_seq ops_at (pz_f (pf_v (pv_lst (pfs_c pf_int (pfs_c pf_int (pfs_c pf_int (pfs_c pf_int (pfs_c pf_int (pfs_c pf_int (pfs_c pf_int pfs_n)))))))))) (pz_f (pf_n 6)) (fun _ _ => rfl))))))) (pz_f (pf_v (pv_bin op_mulV ops_mul (pz_f (pf_v (pv_bin op_divV ops_div (pz_f (pf_n 1)) (pz_f (pf_v (pv_ix ix_seq ops_at (pz_f (pf_v (pv_lst (pfs_c pf_int (pfs_c pf_int (pfs_c pf_int (pfs_c pf_int (pfs_c pf_int (pfs_c pf_int (pfs_c pf_int pfs_n)))))))))) (pz_f (pf_n 6)) (fun _ _ => rfl))))))) (pz_f pf_int)))))) pfs_n)))))))
  (pss_c (ps_wp [] (ps_i (pb_w (pw_a (pb_cmp op_ge ops_ge (pz_f (pf_n 2)) (pz_f pf_int) (nomark _)) (pw_a1 (pb_cmp op_ltV ops_lt (pz_f (pf_n 2)) (pz_f (pf_n 5)) (nomark _)))))
  (pss_1 (ps_setL 4 (pf_n 3) (pf_n 2)))
  pss_n))
  (pss_c (ps_pre [7] (ps_f (is := [7]) pw rfl (pi_lt (pf_v (pv_ix ix_seq ops_at (pz_f (pf_n 0)) (pz_f pf_int) (fun _ _ => rfl)))) (pg_n 7 (by decide) sc_law_answers.nd rfl (by first | exact .inl rfl | exact .inr rfl) (by first | exact .inl rfl | exact .inr rfl))
  (pss_wp [7] (pss_c (ps_wp [] (ps_i (pb_cmp (op_eqV (hU hr)) ops_eq (pz_f (pf_v (pv_ix ix_seq ops_at (pz_f (pf_n 7)) (pz_f pf_int) (fun _ _ => rfl)))) (pz_f pf_str) (nomark _))
  (pss_c (ps_x (pf_mt 4 PySem.F.plainAttrs_list PySem.F.slot_list_append PySem.F.type_list_append mt_append ms_append (pfs_c (pf_v (pv_bin op_sub ops_sub (pz_f (pf_v (pv_bin op_divV ops_div (pz_f (pf_n 1)) (pz_f (pf_v (pv_ix ix_seq ops_at (pz_f (pf_v (pv_lst (pfs_c pf_int (pfs_c pf_int (pfs_c pf_int (pfs_c pf_int (pfs_c pf_int (pfs_c pf_int (pfs_c pf_int pfs_n)))))))))) (pz_f (pf_n 5)) (fun _ _ => rfl))))))) (pz_f (pf_v (pv_bin op_mulV ops_mul (pz_f (pf_v (pv_bin op_divV ops_div (pz_f (pf_n 1)) (pz_f (pf_v (pv_ix ix_seq ops_at (pz_f (pf_v (pv_lst (pfs_c pf_int (pfs_c pf_int (pfs_c pf_int (pfs_c pf_int (pfs_c pf_int (pfs_c pf_int (pfs_c pf_int pfs_n)))))))))) (pz_f (pf_n 5)) (fun _ _ => rfl))))))) (pz_f pf_int)))))) pfs_n)))
  (pss_1 (ps_a 5 sc_law_answers.nd rfl (by first | exact .inl rfl | exact .inr rfl) (pv_f (pf_v (pv_bin op_addV ops_add (pz_f (pf_n 5)) (pz_f pf_int)))))))
  (pss_1 (ps_x (pf_mt 4 PySem.F.plainAttrs_list PySem.F.slot_list_append PySem.F.type_list_append mt_append ms_append (pfs_c (pf_v (pv_call (ok_law_value T) (hr.mono (by decide)) (by rfl) T.g_law_value T.kp_law_value T.b_law_value tk (pfs_c (pf_v (pv_ix ix_seq ops_at (pz_f (pf_n 7)) (pz_f pf_int) (fun _ _ => rfl))) (pfs_c (pf_v (pv_lc (own := [("source", 10)]) rfl sc_law_answers.nd (blkOk_by (own := [("source", 10)]) (N := N_law_answers) (sc := defScope s_law_answers) (by decide +kernel)) (pi_lt (pf_v (pv_ix ix_seq ops_at (pz_f (pf_n 7)) (pz_f pf_int) (fun _ _ => rfl)))) (fun _ _ _ _ _ => (pg_n 10 (by decide) sc_law_answers.nd rfl (by first | exact .inl rfl | exact .inr rfl) (by first | exact .inl rfl | exact .inr rfl))) (fun _ _ _ _ _ => pbs_n) (fun _ _ _ _ _ => (pf_v (pv_ix ix_seq ops_at (pz_b 4) (pz_f (pf_n 10)) (fun _ _ => rfl)))))) pfs_n)))) pfs_n))))))
  (pss_1 (ps_i (pb_cmp (op_eqV (hU hr)) ops_eq (pz_f (pf_v (pv_ix ix_seq ops_at (pz_f (pf_n 7)) (pz_f pf_int) (fun _ _ => rfl)))) (pz_f (pf_n 2)) (nomark _))
  (pss_1 (ps_setL 4 (pf_n 3) (pf_n 2)))
  pss_n))))))
  (pss_c (ps_a 8 sc_law_answers.nd rfl (by first | exact .inl rfl | exact .inr rfl) (pv_f (pf_v (pv_bin op_addV ops_add (pz_f (pf_v (pv_callTy call_list_of cs_list (by rfl) T.m_list (by decide +kernel) (pzs_c (pz_f (pf_v (pv_ix ix_seq ops_at (pz_f (pf_n 0)) (pz_f pf_int) (fun _ _ => rfl)))) pzs_n)))) (pz_f (pf_v (pv_lc (own := [("cell", 7)]) rfl sc_law_answers.nd (blkOk_by (own := [("cell", 7)]) (N := N_law_answers) (sc := defScope s_law_answers) (by decide +kernel)) (pi_lt (pf_v (pv_ix ix_seq ops_at (pz_f (pf_n 0)) (pz_f pf_int) (fun _ _ => rfl)))) (fun _ _ _ _ _ => (pg_n 7 (by decide) sc_law_answers.nd rfl (by first | exact .inl rfl | exact .inr rfl) (by first | exact .inl rfl | exact .inr rfl))) (fun _ _ _ _ _ => (pbs_1 (pb_cmp (op_eqV (hU hr)) ops_eq (pz_f (pf_v (pv_ix ix_seq ops_at (pz_f (pf_n 7)) (pz_f pf_int) (fun _ _ => rfl)))) (pz_f pf_str) (nomark _)))) (fun _ _ _ _ _ => (pf_v (pv_ix ix_seq ops_at (pz_f (pf_v (pv_ix ix_seq ops_at (pz_f (pf_n 7)) (pz_f pf_int) (fun _ _ => rfl)))) (pz_f pf_int) (fun _ _ => rfl)))))))))))
  (pss_1 (ps_r (pv_lc (own := [("end", 9)]) rfl sc_law_answers.nd (blkOk_by (own := [("end", 9)]) (N := N_law_answers) (sc := defScope s_law_answers) (by decide +kernel)) (pi_lt (pf_n 8)) (fun _ _ _ _ _ => (pg_n 9 (by decide) sc_law_answers.nd rfl (by first | exact .inl rfl | exact .inr rfl) (by first | exact .inl rfl | exact .inr rfl))) (fun _ _ _ _ _ => pbs_n) (fun _ _ _ _ _ => (pf_v (pv_ix ix_seq ops_at (pz_b 4) (pz_f (pf_n 9)) (fun _ _ => rfl)))))))))))))
theorem ok_law_cases (T : Tx K mg w) : FnOk P w K mg base (L2.CX P w) 1 T.f_law_cases T.fd_law_cases ["circuit"] (spV K mg 1 F_law_cases) := fn_ok T.F_law_cases sc_law_cases fun cdv A outer s H E W hr tk pw =>
  (pss_c (ps_a 1 sc_law_cases.nd rfl (by first | exact .inl rfl | exact .inr rfl) (pv_f pf_int))
  (pss_c (ps_pre [2] (ps_f (is := [2]) pw rfl (pi_r1 (by rfl) T.m_range (pfs_c (pf_v (pv_bin op_addV ops_add (pz_f (pf_v (pv_ix ix_seq ops_at (pz_f (pf_n 0)) (pz_f pf_int) (fun _ _ => rfl)))) (pz_f (pf_v (pv_callB call_lenV cs_len (by rfl) T.m_len (by decide +kernel) (pzs_c (pz_f (pf_v (pv_lc (own := [("cell", 3)]) rfl sc_law_cases.nd (blkOk_by (own := [("cell", 3)]) (N := N_law_cases) (sc := defScope s_law_cases) (by decide +kernel)) (pi_lt (pf_v (pv_ix ix_seq ops_at (pz_f (pf_n 0)) (pz_f pf_int) (fun _ _ => rfl)))) (fun _ _ _ _ _ => (pg_n 3 (by decide) sc_law_cases.nd rfl (by first | exact .inl rfl | exact .inr rfl) (by first | exact .inl rfl | exact .inr rfl))) (fun _ _ _ _ _ => (pbs_1 (pb_cmp (op_eqV (hU hr)) ops_eq (pz_f (pf_v (pv_ix ix_seq ops_at (pz_f (pf_n 3)) (pz_f pf_int) (fun _ _ => rfl)))) (pz_f pf_str) (nomark _)))) (fun _ _ _ _ _ => pf_int)))) pzs_n)))))) pfs_n)) (pg_n 2 (by decide) sc_law_cases.nd rfl (by first | exact .inl rfl | exact .inr rfl) (by first | exact .inl rfl | exact .inr rfl))
  (pss_wp [2] (pss_1 (ps_a 1 sc_law_cases.nd rfl (by first | exact .inl rfl | exact .inr rfl) (pv_f (pf_v (pv_bin op_mulV ops_mul (pz_f (pf_n 1)) (pz_f pf_int)))))))))
  (pss_1 (ps_r (pv_f (pf_n 1))))))
theorem ok_law_refuses (T : Tx K mg w) : FnOk P w K mg base (L2.CX P w) 9 T.f_law_refuses T.fd_law_refuses ["circuit"] (spV K mg 1 F_law_refuses) := fn_ok T.F_law_refuses sc_law_refuses fun cdv A outer s H E W hr tk pw =>
  (pss_c (ps_a 1 sc_law_refuses.nd rfl (by first | exact .inl rfl | exact .inr rfl) (pv_f pf_int))
  (pss_c (ps_tryA rfl rfl sc_law_refuses.nd rfl rfl ⟨rfl, by decide, Or.inl T.g_GatesError⟩ tk T.ex_GatesError T.cr_GatesError hp_hs_law_refuses_1 (fun W' pn xe tk' pw' => (pss_1 (ps_x (pf_v (pv_call (ok_make_tests T) (hr.mono (by decide)) (by rfl) T.g_make_tests T.kp_make_tests T.b_make_tests tk' (pfs_c (pf_n 0) pfs_n))))))
  (fun ea oe Dd ex pn hz hfl hmg => (pss_1 (ps_a 1 sc_law_refuses.nd rfl (by first | exact .inl rfl | exact .inr rfl) (pv_f (pf_v (pv_bin op_addV ops_add (pz_f (pf_n 1)) (pz_f (pf_v (pv_callTy call_intV cs_intV (by rfl) T.m_int (by decide +kernel) (pzs_c (pz_f (pf_isx hz hfl hmg T.isx_TooLarge (by rfl) T.m_isinstance (by decide +kernel) (by rfl) (by first | exact Or.inl rfl | exact Or.inr (Or.inl rfl) | exact Or.inr (Or.inr rfl)) (by decide) (by decide) (by rfl) T.g_TooLarge)) pzs_n)))))))))))
  (pss_c (ps_tryA rfl rfl sc_law_refuses.nd rfl rfl ⟨rfl, by decide, Or.inl T.g_GatesError⟩ tk T.ex_GatesError T.cr_GatesError hp_hs_law_refuses_2 (fun W' pn xe tk' pw' => (pss_1 (ps_x (pf_v (pv_call (ok_hidden_flaws T) (hr.mono (by decide)) (by rfl) T.g_hidden_flaws T.kp_hidden_flaws T.b_hidden_flaws tk' (pfs_c (pf_n 0) pfs_n))))))
  (fun ea oe Dd ex pn hz hfl hmg => (pss_1 (ps_a 1 sc_law_refuses.nd rfl (by first | exact .inl rfl | exact .inr rfl) (pv_f (pf_v (pv_bin op_addV ops_add (pz_f (pf_n 1)) (pz_f (pf_v (pv_callTy call_intV cs_intV (by rfl) T.m_int (by decide +kernel) (pzs_c (pz_f (pf_isx hz hfl hmg T.isx_TooLarge (by rfl) T.m_isinstance (by decide +kernel) (by rfl) (by first | exact Or.inl rfl | exact Or.inr (Or.inl rfl) | exact Or.inr (Or.inr rfl)) (by decide) (by decide) (by rfl) T.g_TooLarge)) pzs_n)))))))))))
  (pss_c (ps_tryA rfl rfl sc_law_refuses.nd rfl rfl ⟨rfl, by decide, Or.inl T.g_GatesError⟩ tk T.ex_GatesError T.cr_GatesError hp_hs_law_refuses_3 (fun W' pn xe tk' pw' => (pss_1 (ps_x (pf_v (pv_call (ok_first_case T) (hr.mono (by decide)) (by rfl) T.g_first_case T.kp_first_case T.b_first_case tk' (pfs_c (pf_n 0) (pfs_c (pf_tup (pfs_c pf_int (pfs_c pf_int pfs_n))) pfs_n)))))))
  (fun ea oe Dd ex pn hz hfl hmg => (pss_1 (ps_a 1 sc_law_refuses.nd rfl (by first | exact .inl rfl | exact .inr rfl) (pv_f (pf_v (pv_bin op_addV ops_add (pz_f (pf_n 1)) (pz_f (pf_v (pv_callTy call_intV cs_intV (by rfl) T.m_int (by decide +kernel) (pzs_c (pz_f (pf_isx hz hfl hmg T.isx_TooLarge (by rfl) T.m_isinstance (by decide +kernel) (by rfl) (by first | exact Or.inl rfl | exact Or.inr (Or.inl rfl) | exact Or.inr (Or.inr rfl)) (by decide) (by decide) (by rfl) T.g_TooLarge)) pzs_n)))))))))))
  (pss_1 (ps_r (pv_f (pf_v (pv_cmp (op_eqV (hU hr)) ops_eq (pz_f (pf_n 1)) (pz_f pf_int) (nomark _))))))))))
theorem ok_law_shown (T : Tx K mg w) : FnOk P w K mg base (L2.CX P w) 3 T.f_law_shown T.fd_law_shown ["circuit"] (spV K mg 1 F_law_shown) := fn_ok T.F_law_shown sc_law_shown fun cdv A outer s H E W hr tk pw =>
  (pss_c (ps_a 1 sc_law_shown.nd rfl (by first | exact .inl rfl | exact .inr rfl) (pv_lst pfs_n))
  (pss_c (ps_pre [2, 3, 4, 5, 6] (ps_f (is := [2]) pw rfl (pi_r1 (by rfl) T.m_range (pfs_c (pf_v (pv_call (ok_law_cases T) (hr.mono (by decide)) (by rfl) T.g_law_cases T.kp_law_cases T.b_law_cases tk (pfs_c (pf_n 0) pfs_n))) pfs_n)) (pg_n 2 (by decide) sc_law_shown.nd rfl (by first | exact .inl rfl | exact .inr rfl) (by first | exact .inl rfl | exact .inr rfl))
  (pss_wp [2, 3, 4, 5, 6] (pss_c (ps_a 3 sc_law_shown.nd rfl (by first | exact .inl rfl | exact .inr rfl) (pv_f (pf_v (pv_call (ok_law_answers T) (hr.mono (by decide)) (by rfl) T.g_law_answers T.kp_law_answers T.b_law_answers tk (pfs_c (pf_n 0) (pfs_c (pf_n 2) (pfs_c (pf_neg pf_int) (pfs_c pf_int pfs_n))))))))
  (pss_c (ps_a 4 sc_law_shown.nd rfl (by first | exact .inl rfl | exact .inr rfl) (pv_lst pfs_n))
  (pss_c (ps_pre [5, 6] (ps_f (is := [5]) pw rfl (pi_r1 (by rfl) T.m_range (pfs_c (pf_v (pv_bin op_addV ops_add (pz_f (pf_v (pv_ix ix_seq ops_at (pz_f (pf_n 0)) (pz_f pf_int) (fun _ _ => rfl)))) (pz_f (pf_v (pv_callB call_lenV cs_len (by rfl) T.m_len (by decide +kernel) (pzs_c (pz_f (pf_v (pv_ix ix_seq ops_at (pz_f (pf_n 0)) (pz_f pf_int) (fun _ _ => rfl)))) pzs_n)))))) pfs_n)) (pg_n 5 (by decide) sc_law_shown.nd rfl (by first | exact .inl rfl | exact .inr rfl) (by first | exact .inl rfl | exact .inr rfl))
  (pss_wp [5, 6] (pss_1 (ps_pre [6] (ps_f (is := [6]) pw rfl (pi_r1 (by rfl) T.m_range (pfs_c pf_int pfs_n)) (pg_n 6 (by decide) sc_law_shown.nd rfl (by first | exact .inl rfl | exact .inr rfl) (by first | exact .inl rfl | exact .inr rfl))
  (pss_wp [6] (pss_1 (ps_i (pb_cmp (op_neV (hU hr)) ops_ne (pz_f (pf_v (pv_call (ok_law_answers T) (hr.mono (by decide)) (by rfl) T.g_law_answers T.kp_law_answers T.b_law_answers tk (pfs_c (pf_n 0) (pfs_c (pf_n 2) (pfs_c (pf_n 5) (pfs_c (pf_n 6) pfs_n))))))) (pz_f (pf_n 3)) (nomark _))
  (pss_1 (ps_x (pf_mt 4 PySem.F.plainAttrs_list PySem.F.slot_list_append PySem.F.type_list_append mt_append ms_append (pfs_c (pf_tup (pfs_c (pf_n 5) (pfs_c (pf_n 6) pfs_n))) pfs_n))))
  pss_n)))))))))
  (pss_1 (ps_x (pf_mt 1 PySem.F.plainAttrs_list PySem.F.slot_list_append PySem.F.type_list_append mt_append ms_append (pfs_c (pf_z 4) pfs_n))))))))))
  (pss_1 (ps_r (pv_mv 1)))))
theorem ok_law_bare (T : Tx K mg w) : FnOk P w K mg base (L2.CX P w) 2 T.f_law_bare T.fd_law_bare ["script", "circuit"] (spV K mg 2 F_law_bare) := fn_ok T.F_law_bare sc_law_bare fun cdv A outer s H E W hr tk pw =>
  (pss_c (ps_i (pb_w (pw_o (pb_cmp (op_eqV (hU hr)) ops_eq (pz_f (pf_v (pv_ix ix_seq ops_at (pz_f (pf_n 1)) (pz_f pf_int) (fun _ _ => rfl)))) (pz_f pf_int) (nomark _)) (pw_o1 (pb_cmp (op_neV (hU hr)) ops_ne (pz_f (pf_v (pv_bin op_mod ops_mod (pz_f (pf_v (pv_callTy call_intV cs_intV (by rfl) T.m_int (by decide +kernel) (pzs_c (pz_f (pf_v (pv_call (ok_law_cell T) (hr.mono (by decide)) (by rfl) T.g_law_cell T.kp_law_cell T.b_law_cell tk (pfs_c (pf_n 0) (pfs_c pf_int pfs_n))))) pzs_n)))) (pz_f pf_int)))) (pz_f pf_int) (nomark _)))))
  (pss_1 (ps_r (pv_f (pf_n 1))))
  pss_n)
  (pss_1 (ps_r (pv_f (pf_tup (pfs_c (pf_v (pv_ix ix_seq ops_at (pz_f (pf_n 1)) (pz_f pf_int) (fun _ _ => rfl))) (pfs_c (pf_tup pfs_n) (pfs_c (pf_v (pv_callTy call_tuple_of cs_tuple (by rfl) T.m_tuple (by decide +kernel) (pzs_c (pz_f (pf_v (pv_lc (own := [("net", 2)]) rfl sc_law_bare.nd (blkOk_by (own := [("net", 2)]) (N := N_law_bare) (sc := defScope s_law_bare) (by decide +kernel)) (pi_lt (pf_v (pv_ix ix_seq ops_at (pz_f (pf_n 1)) (pz_f pf_int) (fun _ _ => rfl)))) (fun _ _ _ _ _ => (pg_n 2 (by decide) sc_law_bare.nd rfl (by first | exact .inl rfl | exact .inr rfl) (by first | exact .inl rfl | exact .inr rfl))) (fun _ _ _ _ _ => pbs_n) (fun _ _ _ _ _ => (pf_v (pv_bin op_mod ops_mod (pz_f (pf_v (pv_callTy call_intV cs_intV (by rfl) T.m_int (by decide +kernel) (pzs_c (pz_f (pf_n 2)) pzs_n)))) (pz_f (pf_v (pv_ix ix_seq ops_at (pz_f (pf_n 1)) (pz_f pf_int) (fun _ _ => rfl)))))))))) pzs_n))) (pfs_c (pf_tup pfs_n) pfs_n)))))))))
theorem ok_law_hidden (T : Tx K mg w) : FnOk P w K mg base (L2.CX P w) 1 T.f_law_hidden T.fd_law_hidden ["circuit", "shown"] (spV K mg 2 F_law_hidden) := fn_ok T.F_law_hidden sc_law_hidden fun cdv A outer s H E W hr tk pw =>
  (pss_c (ps_a 2 sc_law_hidden.nd rfl (by first | exact .inl rfl | exact .inr rfl) (pv_lst pfs_n))
  (pss_c (ps_pre [3, 4] (ps_f (is := [3]) pw rfl (pi_r1 (by rfl) T.m_range (pfs_c (pf_v (pv_bin op_addV ops_add (pz_f (pf_v (pv_ix ix_seq ops_at (pz_f (pf_n 0)) (pz_f pf_int) (fun _ _ => rfl)))) (pz_f (pf_v (pv_callB call_lenV cs_len (by rfl) T.m_len (by decide +kernel) (pzs_c (pz_f (pf_v (pv_ix ix_seq ops_at (pz_f (pf_n 0)) (pz_f pf_int) (fun _ _ => rfl)))) pzs_n)))))) pfs_n)) (pg_n 3 (by decide) sc_law_hidden.nd rfl (by first | exact .inl rfl | exact .inr rfl) (by first | exact .inl rfl | exact .inr rfl))
  (pss_wp [3, 4] (pss_1 (ps_pre [4] (ps_f (is := [4]) pw rfl (pi_r1 (by rfl) T.m_range (pfs_c pf_int pfs_n)) (pg_n 4 (by decide) sc_law_hidden.nd rfl (by first | exact .inl rfl | exact .inr rfl) (by first | exact .inl rfl | exact .inr rfl))
  (pss_wp [4] (pss_1 (ps_i (pb_cmp (op_eqV (hU hr)) ops_eq (pz_f (pf_v (pv_callB call_lenV cs_len (by rfl) T.m_len (by decide +kernel) (pzs_c (pz_f (pf_v (pv_lc (own := [("row", 5)]) rfl sc_law_hidden.nd (blkOk_by (own := [("row", 5)]) (N := N_law_hidden) (sc := defScope s_law_hidden) (by decide +kernel)) (pi_lt (pf_n 1)) (fun _ _ _ _ _ => (pg_n 5 (by decide) sc_law_hidden.nd rfl (by first | exact .inl rfl | exact .inr rfl) (by first | exact .inl rfl | exact .inr rfl))) (fun _ _ _ _ _ => (pbs_1 (pb_cmp (op_inD (hU65 hr)) ops_inD (pz_f (pf_tup (pfs_c (pf_n 3) (pfs_c (pf_n 4) pfs_n)))) (pz_f (pf_n 5)) (by rfl)))) (fun _ _ _ _ _ => (pf_n 5))))) pzs_n)))) (pz_f pf_int) (nomark _))
  (pss_1 (ps_x (pf_mt 2 PySem.F.plainAttrs_list PySem.F.slot_list_append PySem.F.type_list_append mt_append ms_append (pfs_c (pf_tup (pfs_c (pf_n 3) (pfs_c (pf_n 4) pfs_n))) pfs_n))))
  pss_n)))))))))
  (pss_1 (ps_r (pv_mv 2)))))
theorem ok_law (T : Tx K mg w) : FnOk P w K mg base (L2.CX P w) 10 T.f_law T.fd_law ["script"] (spV K mg 1 F_law) := fn_ok T.F_law sc_law fun cdv A outer s H E W hr tk pw =>
  (pss_c (ps_a 1 sc_law.nd rfl (by first | exact .inl rfl | exact .inr rfl) (pv_f (pf_v (pv_call (ok_law_parts T) (hr.mono (by decide)) (by rfl) T.g_law_parts T.kp_law_parts T.b_law_parts tk (pfs_c (pf_v (pv_call (ok_law_cell T) (hr.mono (by decide)) (by rfl) T.g_law_cell T.kp_law_cell T.b_law_cell tk (pfs_c (pf_n 0) (pfs_c pf_int pfs_n)))) (pfs_c (pf_v (pv_lst (pfs_c pf_int (pfs_c pf_int (pfs_c pf_int (pfs_c pf_int pfs_n)))))) pfs_n))))))
  (pss_c (ps_i (pb_cmp (op_eqV (hU hr)) ops_eq (pz_f (pf_v (pv_ix ix_seq ops_at (pz_f (pf_n 1)) (pz_f pf_int) (fun _ _ => rfl)))) (pz_f pf_int) (nomark _))
  (pss_c (ps_t (is := [2, 3]) (pf_v (pv_ix ix_seq ops_at (pz_f (pf_v (pv_lst (pfs_c (pf_tup (pfs_c pf_int (pfs_c pf_int pfs_n))) (pfs_c (pf_tup (pfs_c pf_int (pfs_c pf_int pfs_n))) (pfs_c (pf_tup (pfs_c pf_int (pfs_c pf_int pfs_n))) (pfs_c (pf_tup (pfs_c pf_int (pfs_c pf_int pfs_n))) (pfs_c (pf_tup (pfs_c pf_int (pfs_c pf_int pfs_n))) (pfs_c (pf_tup (pfs_c pf_int (pfs_c pf_int pfs_n))) pfs_n))))))))) (pz_f (pf_v (pv_ix ix_seq ops_at (pz_f (pf_n 1)) (pz_f pf_int) (fun _ _ => rfl)))) (fun _ _ => rfl))) (pg_t rfl (pgs_c (pg_n 2 (by decide) sc_law.nd rfl (by first | exact .inl rfl | exact .inr rfl) (by first | exact .inl rfl | exact .inr rfl)) (pgs_c (pg_n 3 (by decide) sc_law.nd rfl (by first | exact .inl rfl | exact .inr rfl) (by first | exact .inl rfl | exact .inr rfl)) pgs_n))))
  (pss_c (ps_fz 4 (ps_lc 4 (own := [("k", 13)]) rfl sc_law.nd (blkOk_by (own := [("k", 13)]) (N := N_law) (sc := defScope s_law) (by decide +kernel)) rfl rfl (sw_true rfl rfl rfl (by decide +kernel)) (pi_r1 (by rfl) T.m_range (pfs_c (pf_n 3) pfs_n)) (fun _ _ _ _ _ => (pg_n 13 (by decide) sc_law.nd rfl (by first | exact .inl rfl | exact .inr rfl) (by first | exact .inl rfl | exact .inr rfl))) (fun _ _ _ _ _ => pbs_n) (fun _ _ _ _ _ => (pf_tup (pfs_c pf_str (pfs_c (pf_tup (pfs_c (pf_v (pv_bin op_mod ops_mod (pz_f (pf_v (pv_callTy call_intV cs_intV (by rfl) T.m_int (by decide +kernel) (pzs_c (pz_f (pf_v (pv_bin op_addV ops_add (pz_f (pf_n 13)) (pz_f (pf_v (pv_ix ix_seq ops_at (pz_f (pf_n 1)) (pz_f pf_int) (fun _ _ => rfl))))))) pzs_n)))) (pz_f (pf_n 2)))) pfs_n)) (pfs_c (pf_v (pv_bin op_addV ops_add (pz_f (pf_n 2)) (pz_f (pf_n 13)))) pfs_n)))))))
  (pss_1 (ps_r (pv_f (pf_v (pv_call (ok_law_refuses T) (hr.mono (by decide)) (by rfl) T.g_law_refuses T.kp_law_refuses T.b_law_refuses tk (pfs_c (pf_tup (pfs_c (pf_n 2) (pfs_c (pf_v (pv_callTy call_tuple_of cs_tuple (by rfl) T.m_tuple (by decide +kernel) (pzs_c (pz_f (pf_n 4)) pzs_n))) (pfs_c (pf_tup (pfs_c (pf_n 2) (pfs_c pf_int pfs_n))) (pfs_c (pf_tr1 rfl (by rfl) T.m_tuple (by rfl) T.m_range (pf_n 3)) pfs_n))))) pfs_n))))))))
  pss_n)
  (pss_c (ps_a 5 sc_law.nd rfl (by first | exact .inl rfl | exact .inr rfl) (pv_f (pf_v (pv_call (ok_law_bare T) (hr.mono (by decide)) (by rfl) T.g_law_bare T.kp_law_bare T.b_law_bare tk (pfs_c (pf_n 0) (pfs_c (pf_v (pv_call (ok_law_circuit T) (hr.mono (by decide)) (by rfl) T.g_law_circuit T.kp_law_circuit T.b_law_circuit tk (pfs_c (pf_n 0) (pfs_c pf_int pfs_n)))) pfs_n))))))
  (pss_c (ps_wp [6] (ps_i (pb_cmp (op_eqV (hU hr)) ops_eq (pz_f (pf_v (pv_ix ix_seq ops_at (pz_f (pf_n 1)) (pz_f pf_int) (fun _ _ => rfl)))) (pz_f pf_int) (nomark _))
  (pss_c (ps_a 6 sc_law.nd rfl (by first | exact .inl rfl | exact .inr rfl) (pv_f (pf_v (pv_ix ix_seq ops_at (pz_f (pf_v (pv_lst (pfs_c pf_str (pfs_c pf_str (pfs_c pf_str (pfs_c pf_str pfs_n))))))) (pz_f (pf_v (pv_ix ix_seq ops_at (pz_f (pf_n 1)) (pz_f pf_int) (fun _ _ => rfl)))) (fun _ _ => rfl)))))
  (pss_1 (ps_a 5 sc_law.nd rfl (by first | exact .inl rfl | exact .inr rfl) (pv_f (pf_tup (pfs_c pf_int (pfs_c (pf_tup (pfs_c (pf_tup (pfs_c (pf_n 6) (pfs_c (pf_tup (pfs_c (pf_v (pv_ix ix_seq ops_at (pz_f (pf_n 1)) (pz_f pf_int) (fun _ _ => rfl))) (pfs_c (pf_v (pv_bin op_sub ops_sub (pz_f pf_int) (pz_f (pf_v (pv_ix ix_seq ops_at (pz_f (pf_n 1)) (pz_f pf_int) (fun _ _ => rfl)))))) pfs_n))) (pfs_c pf_int pfs_n)))) pfs_n)) (pfs_c (pf_tup (pfs_c pf_int (pfs_c (pf_v (pv_ix ix_seq ops_at (pz_f (pf_n 1)) (pz_f pf_int) (fun _ _ => rfl))) pfs_n))) (pfs_c (pf_tup pfs_n) pfs_n)))))))))
  pss_n))
  (pss_c (ps_wp [6, 7] (ps_i (pb_cmp (op_eqV (hU hr)) ops_eq (pz_f (pf_v (pv_ix ix_seq ops_at (pz_f (pf_n 1)) (pz_f pf_int) (fun _ _ => rfl)))) (pz_f pf_int) (nomark _))
  (pss_c (ps_a 6 sc_law.nd rfl (by first | exact .inl rfl | exact .inr rfl) (pv_f (pf_v (pv_ix ix_seq ops_at (pz_f (pf_v (pv_lst (pfs_c pf_str (pfs_c pf_str (pfs_c pf_str (pfs_c pf_str pfs_n))))))) (pz_f (pf_v (pv_ix ix_seq ops_at (pz_f (pf_n 1)) (pz_f pf_int) (fun _ _ => rfl)))) (fun _ _ => rfl)))))
  (pss_c (ps_a 7 sc_law.nd rfl (by first | exact .inl rfl | exact .inr rfl) (pv_f (pf_v (pv_lst (pfs_c (pf_tup (pfs_c pf_str (pfs_c (pf_tup (pfs_c (pf_v (pv_ix ix_seq ops_at (pz_f (pf_n 1)) (pz_f pf_int) (fun _ _ => rfl))) pfs_n)) (pfs_c pf_int pfs_n)))) (pfs_c (pf_tup (pfs_c pf_str (pfs_c (pf_tup (pfs_c (pf_v (pv_bin op_sub ops_sub (pz_f pf_int) (pz_f (pf_v (pv_ix ix_seq ops_at (pz_f (pf_n 1)) (pz_f pf_int) (fun _ _ => rfl)))))) pfs_n)) (pfs_c pf_int pfs_n)))) (pfs_c (pf_tup (pfs_c (pf_n 6) (pfs_c (pf_tup (pfs_c (pf_v (pv_ix ix_seq ops_at (pz_f (pf_n 1)) (pz_f pf_int) (fun _ _ => rfl))) (pfs_c pf_int pfs_n))) (pfs_c pf_int pfs_n)))) pfs_n)))))))
  (pss_c (ps_wp [] (ps_i (pb_cmp op_gtV ops_gt (pz_f (pf_v (pv_ix ix_seq ops_at (pz_f (pf_n 1)) (pz_f pf_int) (fun _ _ => rfl)))) (pz_f pf_int) (nomark _))
  (pss_1 (ps_a 7 sc_law.nd rfl (by first | exact .inl rfl | exact .inr rfl) (pv_f (pf_v (pv_lst (pfs_c (pf_tup (pfs_c pf_str (pfs_c (pf_tup (pfs_c (pf_v (pv_ix ix_seq ops_at (pz_f (pf_n 1)) (pz_f pf_int) (fun _ _ => rfl))) pfs_n)) (pfs_c pf_int pfs_n)))) (pfs_c (pf_tup (pfs_c (pf_n 6) (pfs_c (pf_tup (pfs_c (pf_v (pv_ix ix_seq ops_at (pz_f (pf_n 1)) (pz_f pf_int) (fun _ _ => rfl))) (pfs_c pf_int pfs_n))) (pfs_c pf_int pfs_n)))) (pfs_c (pf_tup (pfs_c pf_str (pfs_c (pf_tup (pfs_c (pf_v (pv_bin op_sub ops_sub (pz_f pf_int) (pz_f (pf_v (pv_ix ix_seq ops_at (pz_f (pf_n 1)) (pz_f pf_int) (fun _ _ => rfl)))))) pfs_n)) (pfs_c pf_int pfs_n)))) pfs_n))))))))
  pss_n))
  (pss_1 (ps_a 5 sc_law.nd rfl (by first | exact .inl rfl | exact .inr rfl) (pv_f (pf_tup (pfs_c pf_int (pfs_c (pf_v (pv_callTy call_tuple_of cs_tuple (by rfl) T.m_tuple (by decide +kernel) (pzs_c (pz_f (pf_n 7)) pzs_n))) (pfs_c (pf_tup (pfs_c pf_int (pfs_c (pf_v (pv_ix ix_seq ops_at (pz_f (pf_n 1)) (pz_f pf_int) (fun _ _ => rfl))) pfs_n))) (pfs_c (pf_tup (pfs_c pf_int (pfs_c pf_int pfs_n))) pfs_n)))))))))))
  pss_n))
  (pss_c (ps_a 8 sc_law.nd rfl (by first | exact .inl rfl | exact .inr rfl) (pv_f (pf_v (pv_call (ok_make_tests T) (hr.mono (by decide)) (by rfl) T.g_make_tests T.kp_make_tests T.b_make_tests tk (pfs_c (pf_n 5) pfs_n)))))
  (pss_c (ps_i (pb_not (pb_o (pz_f (pf_isi (by rfl) T.m_isinstance (by decide +kernel) (pz_f (pf_n 8)) (by rfl) T.m_list (by decide +kernel) (fun t h => kit_ty (kit_list t h))))))
  (pss_1 (ps_r (pv_f pf_bl)))
  pss_n)
  (pss_c (ps_a 9 sc_law.nd rfl (by first | exact .inl rfl | exact .inr rfl) (pv_f (pf_v (pv_call (ok_law_shown T) (hr.mono (by decide)) (by rfl) T.g_law_shown T.kp_law_shown T.b_law_shown tk (pfs_c (pf_n 5) pfs_n)))))
  (pss_c (ps_i (pb_cmp (op_neV (hU hr)) ops_ne (pz_f (pf_v (pv_call (ok_hidden_flaws T) (hr.mono (by decide)) (by rfl) T.g_hidden_flaws T.kp_hidden_flaws T.b_hidden_flaws tk (pfs_c (pf_n 5) pfs_n)))) (pz_f (pf_v (pv_call (ok_law_hidden T) (hr.mono (by decide)) (by rfl) T.g_law_hidden T.kp_law_hidden T.b_law_hidden tk (pfs_c (pf_n 5) (pfs_c (pf_n 9) pfs_n))))) (nomark _))
  (pss_1 (ps_r (pv_f pf_bl)))
  pss_n)
  (pss_c (ps_pre [10, 11, 12] (ps_f (is := [10]) pw rfl (pi_lt (pf_n 8)) (pg_n 10 (by decide) sc_law.nd rfl (by first | exact .inl rfl | exact .inr rfl) (by first | exact .inl rfl | exact .inr rfl))
  (pss_wp [10, 11, 12] (pss_c (ps_a 11 sc_law.nd rfl (by first | exact .inl rfl | exact .inr rfl) (pv_f (pf_v (pv_callB (call_maxV rfl) cs_max (by rfl) T.m_max (by decide +kernel) (pzs_c (pz_f (pf_v (pv_lc (own := [("row", 14)]) rfl sc_law.nd (blkOk_by (own := [("row", 14)]) (N := N_law) (sc := defScope s_law) (by decide +kernel)) (pi_lt (pf_n 9)) (fun _ _ _ _ _ => (pg_n 14 (by decide) sc_law.nd rfl (by first | exact .inl rfl | exact .inr rfl) (by first | exact .inl rfl | exact .inr rfl))) (fun _ _ _ _ _ => pbs_n) (fun _ _ _ _ _ => (pf_v (pv_callB call_lenV cs_len (by rfl) T.m_len (by decide +kernel) (pzs_c (pz_f (pf_n 14)) pzs_n))))))) pzs_n)))))
  (pss_c (ps_i (pb_w (pw_o (pb_not (pb_o (pz_f (pf_v (pv_call (ok_law_is_integer T) (hr.mono (by decide)) (by rfl) T.g_law_is_integer T.kp_law_is_integer T.b_law_is_integer tk (pfs_c (pf_n 10) pfs_n)))))) (pw_o (pb_cmp (op_eqV (hU hr)) ops_eq (pz_f (pf_n 11)) (pz_f pf_int) (nomark _)) (pw_o (pb_cmp op_ltV ops_lt (pz_f (pf_n 10)) (pz_f pf_int) (nomark _)) (pw_o1 (pb_cmp op_ge ops_ge (pz_f (pf_n 10)) (pz_f (pf_v (pv_callB call_lenV cs_len (by rfl) T.m_len (by decide +kernel) (pzs_c (pz_f (pf_n 9)) pzs_n)))) (nomark _)))))))
  (pss_1 (ps_r (pv_f pf_bl)))
  pss_n)
  (pss_c (ps_i (pb_cmp (op_neV (hU hr)) ops_ne (pz_f (pf_n 10)) (pz_f (pf_v (pv_bm PySem.F.plainAttrs_list PySem.F.slot_list_index PySem.F.type_list_index (mt_indexD (hU65 hr)) bm_index (pf_v (pv_lc (own := [("row", 14)]) rfl sc_law.nd (blkOk_by (own := [("row", 14)]) (N := N_law) (sc := defScope s_law) (by decide +kernel)) (pi_lt (pf_n 9)) (fun _ _ _ _ _ => (pg_n 14 (by decide) sc_law.nd rfl (by first | exact .inl rfl | exact .inr rfl) (by first | exact .inl rfl | exact .inr rfl))) (fun _ _ _ _ _ => pbs_n) (fun _ _ _ _ _ => (pf_v (pv_callB call_lenV cs_len (by rfl) T.m_len (by decide +kernel) (pzs_c (pz_f (pf_n 14)) pzs_n)))))) (pfs_c (pf_n 11) pfs_n)))) (nomark _))
  (pss_1 (ps_r (pv_f pf_bl)))
  pss_n)
  (pss_c (ps_a 12 sc_law.nd rfl (by first | exact .inl rfl | exact .inr rfl) (pv_f (pf_v (pv_ix ix_seq ops_at (pz_f (pf_n 9)) (pz_f (pf_n 10)) (fun _ _ => rfl)))))
  (pss_1 (ps_fz 9 (ps_lc 9 (own := [("row", 14)]) rfl sc_law.nd (blkOk_by (own := [("row", 14)]) (N := N_law) (sc := defScope s_law) (by decide +kernel)) rfl rfl (sw_true rfl rfl rfl (by decide +kernel)) (pi_lt (pf_n 9)) (fun _ _ _ _ _ => (pg_n 14 (by decide) sc_law.nd rfl (by first | exact .inl rfl | exact .inr rfl) (by first | exact .inl rfl | exact .inr rfl))) (fun _ _ _ _ _ => pbs_n) (fun _ _ _ _ _ => (pf_v (pv_lc (own := [("flaw", 15)]) rfl sc_law.nd (blkOk_nest (own := [("flaw", 15)]) (N := N_law) (by decide +kernel)) (pi_lt (pf_n 14)) (fun _ _ _ _ _ => (pg_n 15 (by decide) sc_law.nd rfl (by first | exact .inl rfl | exact .inr rfl) (by first | exact .inl rfl | exact .inr rfl))) (fun _ _ _ _ _ => (pbs_1 (pb_cmp (op_notInD (hU65 hr)) ops_ninD (pz_f (pf_n 15)) (pz_f (pf_n 12)) (by rfl)))) (fun _ _ _ _ _ => (pf_n 15)))))))))))))))
  (pss_1 (ps_r (pv_f (pf_v (pv_cmp (op_eqV (hU hr)) ops_eq (pz_f (pf_v (pv_callB (call_maxV rfl) cs_max (by rfl) T.m_max (by decide +kernel) (pzs_c (pz_f (pf_v (pv_lc (own := [("row", 14)]) rfl sc_law.nd (blkOk_by (own := [("row", 14)]) (N := N_law) (sc := defScope s_law) (by decide +kernel)) (pi_lt (pf_n 9)) (fun _ _ _ _ _ => (pg_n 14 (by decide) sc_law.nd rfl (by first | exact .inl rfl | exact .inr rfl) (by first | exact .inl rfl | exact .inr rfl))) (fun _ _ _ _ _ => pbs_n) (fun _ _ _ _ _ => (pf_v (pv_callB call_lenV cs_len (by rfl) T.m_len (by decide +kernel) (pzs_c (pz_f (pf_n 14)) pzs_n))))))) pzs_n)))) (pz_f pf_int) (nomark _))))))))))))))))
end
end K10
namespace PV
open PySem
/-! ### evaluating -/
section
variable {α β : Type}
theorem bind_ok {a : α} {Γ : Ev} {k : α → Ev → Out β} : Out.bind (.ok a Γ) k = k a Γ := id rfl
theorem bind_ex {e : Exc} {Γ : Ev} {k : α → Ev → Out β} : Out.bind (.ex e Γ) k = .ex e Γ := id rfl
theorem of_some {a : α} {Γ : Ev} : Out.of (some a) Γ = .ok a Γ := id rfl
theorem sB_ok {a : α} {Γ : Ev} {k : α → Ev → SO} : sB (.ok a Γ) k = k a Γ := id rfl
theorem sB_ex {e : Exc} {Γ : Ev} {k : α → Ev → SO} : sB (.ex e Γ : Out α) k = .ex e Γ := id rfl
end
def SO.then (r : SO) (b : Ev → SO) : SO := match r with
  | .nx Γ => b Γ
  | r => r
theorem then_nx {Γ : Ev} {b : Ev → SO} : SO.then (.nx Γ) b = b Γ := id rfl
theorem then_rt {x : Va} {Γ : Ev} {b : Ev → SO} : SO.then (.rt x Γ) b = .rt x Γ := id rfl
theorem then_ex {e : Exc} {Γ : Ev} {b : Ev → SO} : SO.then (.ex e Γ) b = .ex e Γ := id rfl
theorem then_ct {Γ : Ev} {b : Ev → SO} : SO.then (.ct Γ) b = .ct Γ := id rfl
theorem then_bk {Γ : Ev} {b : Ev → SO} : SO.then (.bk Γ) b = .bk Γ := id rfl
theorem seq_eq (a b : Ev → SO) (Γ : Ev) : sSeq a b Γ = SO.then (a Γ) b := id rfl

/-! the combinators, at an environment -/
def gZ (o : Option (Option Va)) (Γ : Ev) : Out D := match o with | some (some (.z, d)) => .ok d Γ | _ => .st
def gB (o : Option (Option Va)) (Γ : Ev) : Out D := match o with | some (some _) => .ok .none Γ | _ => .st
def gBl (o : Option (Option Va)) : Option D := match o with | some (some (.l .z, .list ds)) => some (.list ds) | some (some (.z, d)) => some d | _ => none
def gF (o : Option (Option Va)) (i : Nat) (Γ : Ev) : Out D := match o with | some (some x) => .ok x.2 (Γ.set i (some (.z, x.2))) | _ => .st
def gM (o : Option (Option Va)) (i : Nat) (Γ : Ev) : Out Va := match o with | some (some x) => .ok x (Γ.set i none) | _ => .st
section
variable {Γ : Ev} {d d' : D} {i : Nat} {f g h : Ev → Out D} {u v : Ev → Out Va} {o p q : Opn} {os : Opns} {fs : Ev → Out (List D)} {c c' : Ev → Out Bool} {s : Sh}
theorem gZ_z : gZ (some (some (.z, d))) Γ = .ok d Γ := id rfl
theorem gB_s {x : Va} : gB (some (some x)) Γ = .ok .none Γ := id rfl
theorem gBl_l {ds : List D} : gBl (some (some (.l .z, .list ds))) = some (.list ds) := id rfl
theorem gBl_z : gBl (some (some (.z, d))) = some d := id rfl
theorem gF_s {x : Va} : gF (some (some x)) i Γ = .ok x.2 (Γ.set i (some (.z, x.2))) := id rfl
theorem gM_s {x : Va} : gM (some (some x)) i Γ = .ok x (Γ.set i none) := id rfl
theorem fC_ap : fC d Γ = .ok d Γ := id rfl
theorem fN_ap : fN i Γ = gZ (Γ[i]?) Γ := id rfl
theorem fZ_ap : fZ i Γ = gF (Γ[i]?) i Γ := id rfl
theorem vMv_ap : vMv i Γ = gM (Γ[i]?) i Γ := id rfl
theorem fV_ap : fV u Γ = (u Γ).bind fun x Γ1 => .ok x.2 Γ1 := id rfl
theorem vF_ap : vF f Γ = (f Γ).bind fun d Γ1 => .ok (.z, d) Γ1 := id rfl
theorem oF_f : (oF f).f Γ = f Γ := id rfl
theorem oF_l : (oF f).l Γ d = some d := id rfl
theorem oB_f : (oB i).f Γ = gB (Γ[i]?) Γ := id rfl
theorem oB_l : (oB i).l Γ d = gBl (Γ[i]?) := id rfl
theorem osN_f : osN.f Γ = .ok [] Γ := id rfl
theorem osN_l {ds : List D} : osN.l Γ ds = some ds := id rfl
theorem osC_f : (osC o os).f Γ = (o.f Γ).bind fun d Γ1 => (os.f Γ1).bind fun ds Γ2 => .ok (d :: ds) Γ2 := id rfl
theorem osC_l {ds : List D} : (osC o os).l Γ (d :: ds) = (o.l Γ d).bind fun d => (os.l Γ ds).bind fun ds => some (d :: ds) := id rfl
theorem o2_ap {op : D → D → Option Va} : o2 op o p Γ = (o.f Γ).bind fun x Γ1 => (p.f Γ1).bind fun y Γ2 => .of ((o.l Γ2 x).bind fun x => (p.l Γ2 y).bind fun y => op x y) Γ2 := id rfl
theorem fB_ap {op : List D → Option Va} : fB op os Γ = (os.f Γ).bind fun ds Γ1 => .of ((os.l Γ1 ds).bind op) Γ1 := id rfl
theorem fsN_ap : fsN Γ = .ok [] Γ := id rfl
theorem fsC_ap : fsC f fs Γ = (f Γ).bind fun d Γ1 => (fs Γ1).bind fun ds Γ2 => .ok (d :: ds) Γ2 := id rfl
theorem fLst_ap : fLst fs Γ = (fs Γ).bind fun ds Γ1 => .of (if ds.length ≤ 16777216 then some (.l .z, .list ds) else none) Γ1 := id rfl
theorem fTup_ap : fTup fs Γ = (fs Γ).bind fun ds Γ1 => .of (if ds.length ≤ 16777216 then some (.tuple ds) else none) Γ1 := id rfl
def mtE (o : Option (Option Va)) (i : Nat) (op : List D → List D → Option (D × List D)) (args : List D) (Γ : Ev) : Out D := match o with
  | some (some (.l .z, .list ds)) => (match op ds args with | some (d, ds') => .ok d (Γ.set i (some (.l .z, .list ds'))) | none => .st)
  | _ => .st
def mtS (o : Option (Option Va)) (r : Out D) : Out D := match o with | some (some (.l .z, .list _)) => r | _ => .st
theorem fMt_ap {op : List D → List D → Option (D × List D)} : fMt i op fs Γ = mtS (Γ[i]?) ((fs Γ).bind fun args Γ1 => mtE (Γ1[i]?) i op args Γ1) := id rfl
theorem mtS_l {ds : List D} {r : Out D} : mtS (some (some (.l .z, .list ds))) r = r := id rfl
theorem mtE_l {op : List D → List D → Option (D × List D)} {ds args : List D} : mtE (some (some (.l .z, .list ds))) i op args Γ = (match op ds args with | some (d, ds') => .ok d (Γ.set i (some (.l .z, .list ds'))) | none => .st) := id rfl
def bB (d : D) : Option Bool := match d with | .bool c => some c | _ => none
theorem bB_b {b : Bool} : bB (.bool b) = some b := id rfl
theorem bV_ap : bV u Γ = (u Γ).bind fun x Γ1 => .of (bB x.2) Γ1 := by
  unfold bV
  congr 1
def bBo (d : D) (Γ : Ev) : Out Bool := match d with | .bool b => .ok b Γ | _ => .st
theorem bBo_b {b : Bool} : bBo (.bool b) Γ = .ok b Γ := id rfl
theorem bF_ap : bF f Γ = (f Γ).bind bBo := id rfl
theorem bO_ap : bO o Γ = (o.f Γ).bind fun d Γ1 => .of ((o.l Γ1 d).bind dTru) Γ1 := id rfl
theorem bNot_ap : bNot c Γ = (c Γ).bind fun b Γ1 => .ok (!b) Γ1 := id rfl
theorem bAnd_ap : bAnd c c' Γ = (c Γ).bind fun b Γ1 => if b = true then c' Γ1 else .ok false Γ1 := id rfl
theorem bOr_ap : bOr c c' Γ = (c Γ).bind fun b Γ1 => if b = true then .ok true Γ1 else c' Γ1 := id rfl
theorem vIf_ap : vIf c u v Γ = (c Γ).bind fun k Γ1 => if k = true then u Γ1 else v Γ1 := id rfl
def vA (d : D) (r : Out Va) (Γ : Ev) : Out Va := match d with | .bool true => r | .bool false => .ok (.z, .bool false) Γ | _ => .st
def vO (d : D) (r : Out Va) (Γ : Ev) : Out Va := match d with | .bool true => .ok (.z, .bool true) Γ | .bool false => r | _ => .st
theorem vA_b {b : Bool} {r : Out Va} : vA (.bool b) r Γ = if b = true then r else .ok (.z, .bool false) Γ := by cases b <;> rfl
theorem vO_b {b : Bool} {r : Out Va} : vO (.bool b) r Γ = if b = true then .ok (.z, .bool true) Γ else r := by cases b <;> rfl
theorem vAnd_ap : vAnd f v Γ = (f Γ).bind fun d Γ1 => vA d (v Γ1) Γ1 := id rfl
theorem vOr_ap : vOr f v Γ = (f Γ).bind fun d Γ1 => vO d (v Γ1) Γ1 := id rfl
def dNot (d : D) (Γ : Ev) : Out D := match d with | .bool b => .ok (.bool !b) Γ | _ => .st
theorem dNot_b {b : Bool} : dNot (.bool b) Γ = .ok (.bool !b) Γ := id rfl
theorem fNot_ap : fNot f Γ = (f Γ).bind dNot := id rfl
def dNg (d : D) (Γ : Ev) : Out D := match d with | .int i => .ok (.int (-i)) Γ | _ => .st
theorem dNg_i {i : Int} : dNg (.int i) Γ = .ok (.int (-i)) Γ := id rfl
theorem fNeg_ap : fNeg f Γ = (f Γ).bind dNg := id rfl
theorem fPN_ap : fPN Γ = .ok none Γ := id rfl
def dPs (d : D) (Γ : Ev) : Out (Option Int) := match d with | .int i => .ok (some i) Γ | _ => .st
theorem dPs_i {i : Int} : dPs (.int i) Γ = .ok (some i) Γ := id rfl
theorem fPS_ap : fPS f Γ = (f Γ).bind dPs := id rfl
theorem vCut_ap {a b : Ev → Out (Option Int)} : vCut o a b Γ = (o.f Γ).bind fun d Γ1 => (a Γ1).bind fun lo Γ2 => (b Γ2).bind fun hi Γ3 => .of ((o.l Γ3 d).bind fun d => dCut d lo hi) Γ3 := id rfl
theorem fIsi_ap {T : String} : fIsi T o Γ = (o.f Γ).bind fun d Γ1 => .of ((o.l Γ1 d).bind (dIsi T)) Γ1 := id rfl
def rOut (r : Res) (Γ : Ev) : Out Va := match r with | .ok x => .ok x Γ | .ex e => .ex e Γ | .st => .st
theorem rOut_ok {x : Va} : rOut (.ok x) Γ = .ok x Γ := id rfl
theorem rOut_ex {e : Exc} : rOut (.ex e) Γ = .ex e Γ := id rfl
theorem fCall_ap {n : Nat} {F : List D → Res} : fCall n F fs Γ = (fs Γ).bind fun ds Γ1 => if ds.length = n then rOut (F ds) Γ1 else .st := id rfl
theorem fDct0_ap : fDct0 Γ = .ok (.dict []) Γ := id rfl
def dIterL (d : D) (Γ : Ev) : Out (List D) := match d with | .list ds => .ok ds Γ | .tuple ds => .ok ds Γ | .dict [(.none, .tuple ds)] => .ok ds Γ | _ => .st
theorem dIterL_l {ds : List D} : dIterL (.list ds) Γ = .ok ds Γ := id rfl
theorem dIterL_t {ds : List D} : dIterL (.tuple ds) Γ = .ok ds Γ := id rfl
theorem iLT_ap : iLT f Γ = (f Γ).bind dIterL := id rfl
theorem iR1_ap : iR1 fs Γ = (fs Γ).bind fun ds Γ1 => match ds with | [.int j] => if j < 2 ^ 62 ∧ -(2 ^ 62) ≤ j then .ok (rangeL 0 j.toNat) Γ1 else .st | _ => .st := id rfl
theorem iR2_ap : iR2 fs Γ = (fs Γ).bind fun ds Γ1 => match ds with | [.int i, .int j] => if (j < 2 ^ 62 ∧ -(2 ^ 62) ≤ j) ∧ i < 2 ^ 62 ∧ -(2 ^ 62) ≤ i then .ok (rangeL i (j - i).toNat) Γ1 else .st | _ => .st := id rfl
theorem iEn_ap : iEn fs Γ = (fs Γ).bind fun ds Γ1 => match ds with | [.list es] => .ok (enumL es) Γ1 | _ => .st := id rfl
theorem iZp_ap : iZp fs Γ = (fs Γ).bind fun ds Γ1 => match ds with | [.list xs, .list ys] => .ok (zipL xs ys) Γ1 | _ => .st := id rfl
theorem vLR1_ap : vLR1 f Γ = (f Γ).bind fun d Γ1 => match d with | .int j => if 0 ≤ j ∧ j ≤ 16777216 then .ok (.l .z, .list (rangeL 0 j.toNat)) Γ1 else .st | _ => .st := id rfl
theorem vComp_ap {is : List Nat} {ff : Ev → Out (List D)} {t : D → Ev → Option Ev} : vComp is ff t c f Γ = (ff Γ).bind fun ds Γ1 => if ds.length ≤ 16777216 then (match compL is t c f ds (wipeG Γ1 is) with | some (es, Γ2) => .ok (.l .z, .list es) (restG Γ1 Γ2 is) | none => .st) else .st := id rfl
/-! statements -/
variable {a b : Ev → SO} {t : D → Ev → Option Ev}
theorem sNx_ap : sNx Γ = .nx Γ := id rfl
theorem sAsg_ap : sAsg i u Γ = sB (u Γ) fun x Γ1 => .nx (Γ1.set i (some x)) := id rfl
theorem sRet_ap : sRet u Γ = sB (u Γ) fun x Γ1 => .rt x Γ1 := id rfl
theorem sExp_ap : sExp f Γ = sB (f Γ) fun _ Γ1 => .nx Γ1 := id rfl
theorem sIf_ap : sIf c a b Γ = sB (c Γ) fun k Γ1 => if k = true then a Γ1 else b Γ1 := id rfl
theorem sFor_ap {ff : Ev → Out (List D)} : sFor ff t a Γ = sB (ff Γ) fun ds Γ1 => sForL t a ds Γ1 := id rfl
def oNx (o : Option Ev) : SO := match o with | some Γ => .nx Γ | none => .st
theorem oNx_s : oNx (some Γ) = .nx Γ := id rfl
theorem sTgt_ap : sTgt t f Γ = sB (f Γ) fun d Γ1 => oNx (t d Γ1) := id rfl
def fzE (o : Option (Option Va)) (i : Nat) (Γ : Ev) : SO := match o with | some (some x) => .nx (Γ.set i (some (.z, x.2))) | _ => .nx Γ
theorem fzE_s {x : Va} : fzE (some (some x)) i Γ = .nx (Γ.set i (some (.z, x.2))) := id rfl
theorem sFz_ap : sFz i a Γ = (a Γ).then fun Γ1 => fzE (Γ1[i]?) i Γ1 := by
  unfold sFz SO.then fzE
  cases a Γ <;> rfl
theorem sRaise_ap {e : Exc} : sRaise e Γ = .ex e Γ := id rfl
def SO.res (r : SO) : Res := match r with | .nx _ => .ok (.z, .none) | .rt x _ => .ok x | .ex e _ => .ex e | _ => .st
theorem res_nx : SO.res (.nx Γ) = .ok (.z, .none) := id rfl
theorem res_rt {x : Va} : SO.res (.rt x Γ) = .ok x := id rfl
theorem res_ex {e : Exc} : SO.res (.ex e Γ) = .ex e := id rfl
theorem runD_ap {n k : Nat} {ds : List D} : runD n k a ds = if ds.length = k then (a (st0 n ds)).res else .st := id rfl
end
abbrev L (ns : List Int) : D := .list (ns.map .int)
abbrev T (ns : List Int) : D := .tuple (ns.map .int)
theorem at_int {ns : List Int} {k : Nat} {x : Int} (h : ns[k]? = some x) : dAt (L ns) (.int k) = some (.z, .int x) := by
  have : L2.atI (ns.map PyData.int) (k : Int) = some (.int x) := L2.atI_nat (by rw [List.getElem?_map, h]; rfl)
  simp only [dAt, this]
  rfl
theorem atT_int {ns : List Int} {k : Nat} {x : Int} (h : ns[k]? = some x) : dAt (T ns) (.int k) = some (.z, .int x) := by
  have : L2.atI (ns.map PyData.int) (k : Int) = some (.int x) := L2.atI_nat (by rw [List.getElem?_map, h]; rfl)
  simp only [dAt, this]
  rfl
theorem at_list {ds : List D} {k : Nat} {x : D} (h : ds[k]? = some x) : dAt (.list ds) (.int k) = some (.z, x) := by
  simp only [dAt, L2.atI_nat h]
  rfl
theorem at_tup {ds : List D} {k : Nat} {x : D} (h : ds[k]? = some x) : dAt (.tuple ds) (.int k) = some (.z, x) := by
  simp only [dAt, L2.atI_nat h]
  rfl
/-- a loop by an invariant, no way out -/
theorem forL_inv {t : D → Ev → Option Ev} {body : Ev → SO} (I : Nat → Ev → Prop) : ∀ (ds : List D) (j : Nat) (Γ : Ev), I j Γ →
    (∀ i d Γ, ds[i]? = some d → I (j + i) Γ → ∃ Γ1 Γ2, t d Γ = some Γ1 ∧ (body Γ1 = .nx Γ2 ∨ body Γ1 = .ct Γ2) ∧ I (j + i + 1) Γ2) → ∃ Γ', sForL t body ds Γ = .nx Γ' ∧ I (j + ds.length) Γ'
  | [], j, Γ, h, _ => ⟨Γ, rfl, h⟩
  | d :: ds, j, Γ, h, hs => by
    obtain ⟨Γ1, Γ2, h1, h2, h3⟩ := hs 0 d Γ rfl h
    obtain ⟨Γ', e, q⟩ := forL_inv I ds (j + 1) Γ2 h3 fun i d' Γ3 hd hi => by
      have := hs (i + 1) d' Γ3 (by simpa using hd) (by rw [show j + (i + 1) = j + 1 + i by omega]; exact hi)
      rw [show j + (i + 1) = j + 1 + i by omega] at this
      exact this
    refine ⟨Γ', ?_, by rw [List.length_cons, show j + (ds.length + 1) = j + 1 + ds.length by omega]; exact q⟩
    unfold sForL
    rw [h1]
    rcases h2 with h2 | h2 <;> (dsimp only; rw [h2]; exact e)
theorem range_get {lo : Int} {n i : Nat} {d : D} (h : (rangeL lo n)[i]? = some d) : i < n ∧ d = .int (lo + i) := by
  unfold rangeL at h
  rw [List.getElem?_map] at h
  by_cases c : i < n
  · rw [List.getElem?_range c] at h
    exact ⟨c, (Option.some.inj h).symm⟩
  · rw [List.getElem?_eq_none (by simpa using c)] at h
    cases h
theorem range_len {lo : Int} {n : Nat} : (rangeL lo n).length = n := by simp [rangeL]

/-! the list's values -/
theorem at_t0 {a : D} {r : List D} : dAt (.tuple (a :: r)) (.int 0) = some (.z, a) := at_tup (k := 0) rfl
theorem at_t1 {a b : D} {r : List D} : dAt (.tuple (a :: b :: r)) (.int 1) = some (.z, b) := at_tup (k := 1) rfl
theorem at_t2 {a b c : D} {r : List D} : dAt (.tuple (a :: b :: c :: r)) (.int 2) = some (.z, c) := at_tup (k := 2) rfl
theorem at_t3 {a b c d : D} {r : List D} : dAt (.tuple (a :: b :: c :: d :: r)) (.int 3) = some (.z, d) := at_tup (k := 3) rfl
theorem at_l0 {a : D} {r : List D} : dAt (.list (a :: r)) (.int 0) = some (.z, a) := at_list (k := 0) rfl
theorem at_l1 {a b : D} {r : List D} : dAt (.list (a :: b :: r)) (.int 1) = some (.z, b) := at_list (k := 1) rfl
theorem at_l2 {a b c : D} {r : List D} : dAt (.list (a :: b :: c :: r)) (.int 2) = some (.z, c) := at_list (k := 2) rfl
theorem at_l3 {a b c d : D} {r : List D} : dAt (.list (a :: b :: c :: d :: r)) (.int 3) = some (.z, d) := at_list (k := 3) rfl
/-- an item at a place that is known to be inside -/
theorem at_intI {ns : List Int} {i : Int} (h0 : 0 ≤ i) (h1 : i < ns.length) : dAt (L ns) (.int i) = some (.z, .int (ns[i.toNat]'(by omega))) := by
  have := at_int (ns := ns) (k := i.toNat) (x := ns[i.toNat]'(by omega)) (List.getElem?_eq_getElem _)
  rwa [Int.toNat_of_nonneg h0] at this
theorem at_listI {ds : List D} {i : Int} (h0 : 0 ≤ i) (h1 : i < ds.length) : dAt (.list ds) (.int i) = some (.z, ds[i.toNat]'(by omega)) := by
  have := at_list (ds := ds) (k := i.toNat) (x := ds[i.toNat]'(by omega)) (List.getElem?_eq_getElem _)
  rwa [Int.toNat_of_nonneg h0] at this
theorem app_int {ns : List Int} {x : Int} (h : ns.length < 16777216) : mAppend (ns.map .int) [.int x] = some (.none, (ns ++ [x]).map .int) := by
  unfold mAppend
  dsimp only
  rw [if_pos (by rw [List.length_map]; exact h), List.map_append]
  rfl
theorem app_d {ds : List D} {x : D} (h : ds.length < 16777216) : mAppend ds [x] = some (.none, ds ++ [x]) := if_pos h
theorem mul_ok {i j : Int} (h : i.natAbs < 2 ^ 64 ∨ j.natAbs < 2 ^ 64) : dMul (.int i) (.int j) = some (.z, .int (i * j)) := by
  unfold dMul
  exact if_pos (by unfold mulOk; rcases h with h | h <;> simp [h])
theorem div_ok {i j : Int} (h : 0 < j ∧ j < 2 ^ 64) : dDiv (.int i) (.int j) = some (.z, .int (i / j)) := if_pos h
theorem mod_ok {i j : Int} (h : 0 < j) : dMod (.int i) (.int j) = some (.z, .int (i % j)) := if_pos h
theorem eq_int {i j : Int} : dEq (.int i) (.int j) = some (.z, .bool (decide (i = j))) := id rfl
theorem ne_int {i j : Int} : dNe (.int i) (.int j) = some (.z, .bool !(decide (i = j))) := id rfl
theorem ne_str {i j : Str} : dNe (.str i) (.str j) = some (.z, .bool !(decide (i = j))) := id rfl
theorem lt_int {i j : Int} : dLt (.int i) (.int j) = some (.z, .bool (decide (i < j))) := id rfl
theorem gt_int {i j : Int} : dGt (.int i) (.int j) = some (.z, .bool (decide (j < i))) := id rfl
theorem le_int {i j : Int} : dLe (.int i) (.int j) = some (.z, .bool (decide (i ≤ j))) := id rfl
theorem ge_int {i j : Int} : dGe (.int i) (.int j) = some (.z, .bool (decide (j ≤ i))) := id rfl
theorem add_int {i j : Int} : dAdd (.int i) (.int j) = some (.z, .int (i + j)) := id rfl
theorem sub_int {i j : Int} : dSub (.int i) (.int j) = some (.z, .int (i - j)) := id rfl
theorem int_int {i : Int} : dIntV [.int i] = some (.z, .int i) := id rfl
theorem int_bool {b : Bool} : dIntV [.bool b] = some (.z, .int (if b = true then 1 else 0)) := id rfl
theorem len_l {ds : List D} : dLen [.list ds] = some (.z, .int ds.length) := id rfl
theorem len_t {ds : List D} : dLen [.tuple ds] = some (.z, .int ds.length) := id rfl
theorem len_scr {ns : List Int} : dLen [scr ns] = some (.z, .int ns.length) := by show some _ = _; rw [List.length_map]
theorem at_scr {ns : List Int} {k : Nat} {x : Int} (h : ns[k]? = some x) : dAt (scr ns) (.int k) = some (.z, .int x) := at_int h
/-- a comprehension whose item reads only -/
theorem comp_gen {is : List Nat} {t : D → Ev → Option Ev} {c : Ev → Out Bool} {fe : Ev → Out D} {Γ : Ev} (f : D → D) (b : D → Bool) : ∀ ds : List D,
    (∀ d ∈ ds, ∃ Γd, t d Γ = some Γd ∧ c Γd = .ok (b d) Γd ∧ (b d = true → fe Γd = .ok (f d) Γd) ∧ wipeG Γd is = Γ) → compL is t c fe ds Γ = some ((ds.filter b).map f, Γ)
  | [], _ => rfl
  | d :: ds, h => by
    obtain ⟨Γd, h1, h2, h3, h4⟩ := h d (List.mem_cons_self ..)
    have ih := comp_gen f b ds fun d hd => h d (List.mem_cons_of_mem _ hd)
    unfold compL
    rw [h1]
    dsimp only
    rw [h2]
    cases hb : b d with
    | true =>
      dsimp only
      rw [h3 hb]
      dsimp only
      rw [h4, ih, List.filter_cons, if_pos hb]
      rfl
    | false =>
      dsimp only
      rw [h4, ih, List.filter_cons, if_neg (by rw [hb]; exact Bool.false_ne_true)]
theorem comp_ok {is : List Nat} {ff : Ev → Out (List D)} {t : D → Ev → Option Ev} {c : Ev → Out Bool} {fe : Ev → Out D} {Γ Γ1 : Ev} {ds es : List D} (h1 : ff Γ = .ok ds Γ1) (hl : ds.length ≤ 16777216) (h2 : compL is t c fe ds (wipeG Γ1 is) = some (es, wipeG Γ1 is)) (h3 : restG Γ1 (wipeG Γ1 is) is = Γ1) :
    vComp is ff t c fe Γ = .ok (.l .z, .list es) Γ1 := by
  rw [vComp_ap, h1, bind_ok, if_pos hl, h2]
  dsimp only
  rw [h3]
theorem range0_get {n i : Nat} {d : D} (h : (rangeL 0 n)[i]? = some d) : i < n ∧ d = .int i := by
  obtain ⟨a, b⟩ := range_get h
  exact ⟨a, by rw [b, Int.zero_add]⟩
theorem r1_ok {c : Nat} {Γ : Ev} (h : c ≤ 16777216) : (if (c:Int) < 2^62 ∧ -(2^62) ≤ (c:Int) then Out.ok (rangeL 0 (c:Int).toNat) Γ else .st) = .ok (rangeL 0 c) Γ := by
  rw [if_pos (by omega), Int.toNat_natCast]
theorem erase_map {α β : Type} (f : α → β) : ∀ (l : List α) (k : Nat), (l.map f).eraseIdx k = (l.eraseIdx k).map f
  | [], _ => rfl
  | _ :: _, 0 => rfl
  | a :: l, k + 1 => congrArg (f a :: ·) (erase_map f l k)
theorem pop_int {ns : List Int} {k : Nat} {y : Int} (h : ns[k]? = some y) (hb : ns.length ≤ 16777216) : mPop (ns.map .int) [.int k] = some (.int y, (ns.eraseIdx k).map .int) := by
  have hk : k < ns.length := by
    by_cases c : k < ns.length
    · exact c
    · rw [List.getElem?_eq_none (by omega)] at h; cases h
  unfold mPop
  dsimp only
  have hs : seqIndex? (k : Int) (ns.map PyData.int).length = some k := by
    unfold seqIndex?
    rw [List.length_map]
    simp (disch := omega) [hk]
    try omega
  rw [if_pos (by omega), hs]
  have e : (ns.map PyData.int).eraseIdx k = (ns.eraseIdx k).map PyData.int := erase_map ..
  simp only [Option.bind_some, List.getElem?_map, h, Option.map_some, e]
theorem pop0 {x : D} {ds : List D} : mPop (x :: ds) [.int 0] = some (x, ds) := by
  unfold mPop
  dsimp only
  have hs : seqIndex? 0 (x :: ds).length = some 0 := by
    unfold seqIndex?
    simp only [List.length_cons]
    simp
    try omega
  rw [if_pos (by decide), hs]
  rfl
def dInT (neg : Bool) (tab : List (Str × Option D)) (d : D) : Option D := match d with
  | .str x => (tab.lookup x).map fun r => .bool (if neg then !r.isSome else r.isSome)
  | _ => none
def dGtT (tab : List (Str × Option D)) (d : D) : Option D := match d with
  | .str x => (tab.lookup x).bind fun r => r
  | _ => none
theorem inT_f {tab : List (Str × Option D)} {x : Str} : dInT false tab (.str x) = (tab.lookup x).map fun r => .bool r.isSome := id rfl
theorem inT_t {tab : List (Str × Option D)} {x : Str} : dInT true tab (.str x) = (tab.lookup x).map fun r => .bool !r.isSome := id rfl
theorem gtT_s {tab : List (Str × Option D)} {x : Str} : dGtT tab (.str x) = (tab.lookup x).bind fun r => r := id rfl
theorem fIn_ap {neg : Bool} {tab : List (Str × Option D)} {o : Opn} {Γ : Ev} : fIn neg tab o Γ = (o.f Γ).bind fun d Γ1 => .of ((o.l Γ1 d).bind (dInT neg tab)) Γ1 := by
  unfold fIn
  congr 1
theorem fGet_ap {tab : List (Str × Option D)} {o : Opn} {Γ : Ev} : fGet tab o Γ = (o.f Γ).bind fun d Γ1 => .of ((o.l Γ1 d).bind (dGtT tab)) Γ1 := by
  unfold fGet
  congr 1
theorem fGet2_nil {fd fk fx : Ev → Out D} {Γ Γ1 : Ev} (h : fd Γ = .ok (.dict []) Γ1) : fGet2 fd fk fx Γ = (fk Γ1).bind fun k Γ2 => (fx Γ2).bind fun x Γ3 => .of ((dKey k).map fun _ => x) Γ3 := by
  unfold fGet2
  rw [h]
  rfl
theorem key_i {i : Int} : dKey (.int i) = some (.inl i) := id rfl
theorem isS_s {α : Type} {a : α} : (some a).isSome = true := id rfl
theorem isS_n {α : Type} : (none : Option α).isSome = false := id rfl
theorem map_none {α β : Type} {f : α → β} : (none : Option α).map f = none := id rfl
theorem bind_none {α β : Type} {f : α → Option β} : (none : Option α).bind f = none := id rfl
theorem bools_mapP {α : Type} (p : α → Bool) : ∀ ns : List α, dBools (ns.map fun b => .bool (p b)) = some (ns.map p)
  | [] => rfl
  | n :: ns => by
    rw [List.map_cons, dBools, bools_mapP p ns]
    rfl
theorem sum_int {ns : List Int} : dSum [.list (ns.map .int)] = some (.z, .int ns.sum) := by
  unfold dSum
  dsimp only
  rw [ints_map]
  rfl
theorem all_b {α : Type} {p : α → Bool} {ns : List α} : dAll [.list (ns.map fun b => .bool (p b))] = some (.z, .bool ((ns.map p).all id)) := by
  unfold dAll
  dsimp only
  rw [bools_mapP]
  rfl
theorem any_b {α : Type} {p : α → Bool} {ns : List α} : dAny [.list (ns.map fun b => .bool (p b))] = some (.z, .bool ((ns.map p).any id)) := by
  unfold dAny
  dsimp only
  rw [bools_mapP]
  rfl
/-- a comprehension over integers, all of them taken -/
theorem comp_ints {i : Nat} {c : Ev → Out Bool} {fe : Ev → Out D} {Γ : Ev} (f : Int → D) (ns : List Int) (h0 : Γ.set i none = Γ) (hc : ∀ n ∈ ns, c (Γ.set i (some (.z, .int n))) = .ok true (Γ.set i (some (.z, .int n)))) (hf : ∀ n ∈ ns, fe (Γ.set i (some (.z, .int n))) = .ok (f n) (Γ.set i (some (.z, .int n)))) : compL [i] (gN i) c fe (ns.map .int) Γ = some (ns.map f, Γ) := by
  have := comp_gen (is := [i]) (t := gN i) (c := c) (fe := fe) (Γ := Γ) (fun d => match d with | .int n => f n | _ => .none) (fun _ => true) (ns.map .int) (fun d hd => by
    obtain ⟨n, hn, rfl⟩ := List.mem_map.mp hd
    refine ⟨_, rfl, hc n hn, fun _ => hf n hn, ?_⟩
    unfold wipeG
    show (wipeG _ []).set i none = Γ
    unfold wipeG
    rw [List.set_set, h0])
  rw [this, List.filter_eq_self.mpr fun _ _ => rfl, List.map_map]
  rfl
theorem lay_ints : ∀ ns : List Int, PyData.canLayAll0 (ns.map .int) = true
  | [] => by simp only [List.map_nil, PyData.canLayAll0]
  | n :: ns => by simp only [List.map_cons, PyData.canLayAll0, PyData.canLay0, lay_ints ns, Bool.and_self]
theorem depth_ints : ∀ ns : List Int, PyData.depthAll (ns.map .int) = 0
  | [] => by simp only [List.map_nil, PyData.depthAll]
  | n :: ns => by simp only [List.map_cons, PyData.depthAll, PyData.depth, depth_ints ns, Nat.max_self]
theorem eqv_ints : ∀ a b : List Int, PyData.eqvAll (a.map .int) (b.map .int) = decide (a = b)
  | [], [] => by simp [PyData.eqvAll]
  | [], b :: bs => by simp [PyData.eqvAll]
  | a :: as, [] => by simp [PyData.eqvAll]
  | a :: as, b :: bs => by
    simp only [List.map_cons, PyData.eqvAll, PyData.eqv, eqv_ints as bs, List.cons.injEq, Bool.decide_and]
    congr 1
theorem shaped_L (a : List Int) : SeqAt.shaped (L a) = true := by
  unfold SeqAt.shaped L
  simp only [PyData.canLay0, PyData.depth, lay_ints, depth_ints, Bool.true_and]
  decide
theorem eq_L {a b : List Int} : dEq (.list (a.map .int)) (.list (b.map .int)) = some (.z, .bool (decide (a = b))) := by
  show b2 (dEqv _ _) = _
  unfold dEqv
  rw [shaped_L, shaped_L]
  simp only [Bool.and_self, if_true, PyData.eqv, eqv_ints]
  rfl
theorem ne_LL {a b : List Int} : dNe (.list [.list (a.map .int), .list (b.map .int)]) (.list [.list (a.map .int), .list (b.map .int)]) = some (.z, .bool false) := by
  show b2 ((dEqv _ _).map not) = _
  unfold dEqv
  have : SeqAt.shaped (.list [.list (a.map .int), .list (b.map .int)]) = true := by
    unfold SeqAt.shaped
    simp only [PyData.canLay0, PyData.canLayAll0, PyData.depth, PyData.depthAll, lay_ints, depth_ints, Bool.true_and, Bool.and_true]
    decide
  rw [this]
  simp only [Bool.and_self, if_true, PyData.eqv, PyData.eqvAll, eqv_ints, decide_true]
  rfl
theorem isi_int {i : Int} : dIsi "int" (.int i) = some (.bool true) := by
  show some (PyData.bool (isB "int" "int")) = _
  rw [show isB "int" "int" = true by decide]
theorem isi_intb {i : Int} : dIsi "bool" (.int i) = some (.bool false) := by
  show some (PyData.bool (isB "int" "bool")) = _
  rw [show isB "int" "bool" = false by decide]
theorem isi_list {ds : List D} : dIsi "list" (.list ds) = some (.bool true) := by
  show some (PyData.bool (isB "list" "list")) = _
  rw [show isB "list" "list" = true by decide]
def tryC (o : Option Bool) (e : Exc) (Γ : Ev) (r : SO) : SO := match o with
  | some true => (match r with | .ex _ _ => .st | r => r)
  | some false => .ex e Γ
  | none => .st
def tryE (m : Str → Option Bool) (fs : Ev → SO) (r : SO) : SO := match r with
  | .ex e Γ1 => tryC (m e.c) e Γ1 (fs Γ1)
  | r => r
theorem sTry_ap {m : Str → Option Bool} {fb fs : Ev → SO} {Γ : Ev} : sTry m fb fs Γ = tryE m fs (fb Γ) := id rfl
theorem tryE_ex {m : Str → Option Bool} {fs : Ev → SO} {e : Exc} {Γ : Ev} : tryE m fs (.ex e Γ) = tryC (m e.c) e Γ (fs Γ) := id rfl
theorem tryE_nx {m : Str → Option Bool} {fs : Ev → SO} {Γ : Ev} : tryE m fs (.nx Γ) = .nx Γ := id rfl
theorem tryE_rt {m : Str → Option Bool} {fs : Ev → SO} {x : Va} {Γ : Ev} : tryE m fs (.rt x Γ) = .rt x Γ := id rfl
theorem tryC_nx {e : Exc} {Γ Γ1 : Ev} : tryC (some true) e Γ (.nx Γ1) = .nx Γ1 := id rfl
theorem tryC_rt {e : Exc} {Γ Γ1 : Ev} {x : Va} : tryC (some true) e Γ (.rt x Γ1) = .rt x Γ1 := id rfl
theorem tryC_f {e : Exc} {Γ : Ev} {r : SO} : tryC (some false) e Γ r = .ex e Γ := id rfl
theorem eq_str {i j : Str} : dEq (.str i) (.str j) = some (.z, .bool (decide (i = j))) := id rfl
theorem cut_to {α : Type} (ds : List α) (k : Nat) : cut ds none (some (k : Int)) = ds.take k := by
  unfold cut
  rw [HT.sIx_nat, HT.sIx_none, List.drop_zero, Nat.sub_zero]
  by_cases c : k ≤ ds.length
  · rw [Nat.min_eq_left c]
  · rw [Nat.min_eq_right (by omega), List.take_of_length_le (Nat.le_refl _), List.take_of_length_le (by omega)]
theorem cut_from {α : Type} (ds : List α) (k : Nat) : cut ds (some (k : Int)) none = ds.drop k := by
  unfold cut
  rw [HT.sIx_nat, HT.sIx_none, List.take_of_length_le (by rw [List.length_drop]; omega)]
  by_cases c : k ≤ ds.length
  · rw [Nat.min_eq_left c]
  · rw [Nat.min_eq_right (by omega), List.drop_of_length_le (Nat.le_refl _), List.drop_of_length_le (by omega)]
theorem cut_from1 {α : Type} (ds : List α) (k : Nat) : cut ds (some ((k : Int) + 1)) none = ds.drop (k + 1) := cut_from ds (k + 1)
theorem cut_mid {α : Type} (ds : List α) (a b : Nat) (h1 : a ≤ ds.length) (h2 : a + b ≤ ds.length) : cut ds (some (a : Int)) (some ((a : Int) + (b : Int))) = (ds.drop a).take b := by
  unfold cut
  rw [show (a : Int) + (b : Int) = ((a + b : Nat) : Int) by omega, HT.sIx_nat, HT.sIx_nat, Nat.min_eq_left h1, Nat.min_eq_left h2, Nat.add_sub_cancel_left]
theorem cut_l {ds : List D} {lo hi : Option Int} : dCut (.list ds) lo hi = some (.l .z, .list (cut ds lo hi)) := id rfl
theorem cut_t {ds : List D} {lo hi : Option Int} : dCut (.tuple ds) lo hi = some (.z, .tuple (cut ds lo hi)) := id rfl
theorem cat_l {a b : List D} (h : a.length + b.length ≤ 16777216) : dAdd (.list a) (.list b) = some (.l .z, .list (a ++ b)) := if_pos h
theorem fGet2_rs {fd fk fx : Ev → Out D} {Γ Γ1 : Ev} {rs : List (D × D)} (h : fd Γ = .ok (.dict rs) Γ1) (hk : (rs.all fun p => (dKey p.1).isSome) = true) : fGet2 fd fk fx Γ = (fk Γ1).bind fun k Γ2 => (fx Γ2).bind fun x Γ3 => .of ((dKey k).map fun y => (dLook rs y).getD x) Γ3 := by
  unfold fGet2
  rw [h]
  show (if _ then _ else _) = _
  rw [if_pos hk]
theorem set_ap {i : Nat} {fv fk : Ev → Out D} {Γ : Ev} : sSet i fv fk Γ = sB (fv Γ) fun d Γ1 => setS (Γ1[i]?) (sB (fk Γ1) fun k Γ2 => setE i d (Γ2[i]?) k Γ2) := id rfl
theorem setS_l {ds : List D} {r : SO} : setS (some (some (.l .z, .list ds))) r = r := id rfl
theorem setE_l {i : Nat} {d : D} {ds : List D} {n : Int} {j : Nat} {Γ : Ev} (h : L2.ixN ds.length n = some j) : setE i d (some (some (.l .z, .list ds))) (.int n) Γ = .nx (Γ.set i (some (.l .z, .list (ds.set j d)))) := by
  unfold setE
  dsimp only
  rw [h]
theorem vDct1_ap {fk fv : Ev → Out D} {Γ : Ev} : vDct1 fk fv Γ = (fk Γ).bind fun k Γ1 => (fv Γ1).bind fun d Γ2 => .of ((dKey k).map fun _ => ((.d .z, PyData.dict [(k, d)]) : Va)) Γ2 := id rfl
def chE (op' : D → D → Option Va) (b c : Opn) (y : D) (o : Option Va) (Γ2 : Ev) : Out D := match o with
  | some (.z, .bool true) => (c.f Γ2).bind fun w Γ3 => .of (((b.l Γ3 y).bind fun y => (c.l Γ3 w).bind fun w => op' y w).bind fun z => match z with | (.z, .bool k) => some (.bool k) | _ => none) Γ3
  | some (.z, .bool false) => .ok (.bool false) Γ2
  | _ => .st
theorem vch_ap {op op' : D → D → Option Va} {a b c : Opn} {Γ : Ev} : vCh op op' a b c Γ = (a.f Γ).bind fun x Γ1 => (b.f Γ1).bind fun y Γ2 => chE op' b c y ((a.l Γ2 x).bind fun x => (b.l Γ2 y).bind fun y => op x y) Γ2 := by
  unfold vCh
  congr 1
def chB (z : Va) : Option D := match z with | (.z, .bool k) => some (.bool k) | _ => none
theorem chB_b {k : Bool} : chB (.z, .bool k) = some (.bool k) := id rfl
theorem chE_t {op' : D → D → Option Va} {b c : Opn} {y : D} {Γ2 : Ev} : chE op' b c y (some (.z, .bool true)) Γ2 = (c.f Γ2).bind fun w Γ3 => .of (((b.l Γ3 y).bind fun y => (c.l Γ3 w).bind fun w => op' y w).bind chB) Γ3 := by
  unfold chE
  congr 1
theorem chE_f {op' : D → D → Option Va} {b c : Opn} {y : D} {Γ2 : Ev} : chE op' b c y (some (.z, .bool false)) Γ2 = .ok (.bool false) Γ2 := id rfl
end PV
namespace TM
open PySem PV
/-! ### the typed mirror -/
inductive E (α : Type) where
  | ok (a : α) | ex (e : Exc) | st
section
variable {α β γ δ σ ρ τ : Type}
def E.bind (m : E α) (k : α → E β) : E β := match m with | .ok a => k a | .ex e => .ex e | .st => .st
def E.nex (m : E α) : E α := match m with | .ex _ => .st | m => m
def E.ofO (o : Option α) : E α := match o with | some a => .ok a | none => .st
def E.map (f : α → β) (m : E α) : E β := m.bind fun a => .ok (f a)
def lim : Nat := 16777216
@[irreducible] def chk (c : Prop) [Decidable c] (a : α) : E α := if c then .ok a else .st
theorem ok_bind (a : α) (k : α → E β) : (E.ok a).bind k = k a := id rfl
theorem ex_bind (e : Exc) (k : α → E β) : (E.ex e : E α).bind k = .ex e := id rfl
theorem st_bind (k : α → E β) : (E.st : E α).bind k = .st := id rfl
theorem bind_ok_r (m : E α) : m.bind E.ok = m := by cases m <;> rfl
theorem bind_assoc (m : E α) (f : α → E β) (g : β → E γ) : (m.bind f).bind g = m.bind fun a => (f a).bind g := by cases m <;> rfl
theorem nex_ok (a : α) : (E.ok a).nex = .ok a := id rfl
theorem ofO_some (a : α) : E.ofO (some a) = .ok a := id rfl
theorem chk_ok {c : Prop} [Decidable c] {a : α} (h : c) : chk c a = .ok a := by unfold chk; exact if_pos h

/-! encodings -/
def eI : Int → D := .int
def eB : Bool → D := .bool
def eS : Str → D := .str
def eN : Unit → D := fun _ => .none
def eA : D → D := fun d => d
def eL (e : α → D) : List α → D := fun xs => .list (xs.map e)
def eT (e : α → D) : List α → D := fun xs => .tuple (xs.map e)
def eO (e : α → D) : Option α → D := fun o => match o with | none => .none | some a => e a
def eP (e : α → List D) : α → D := fun a => .tuple (e a)
def n0 : Unit → List D := fun _ => []
def n1 (e : α → D) : α → List D := fun a => [e a]
def nc (e : α → D) (es : β → List D) : α × β → List D := fun p => e p.1 :: es p.2
def eD (ek : α → D) (ev : β → D) : List (α × β) → D := fun kvs => .dict (kvs.map fun p => (ek p.1, ev p.2))
def eScr : List Int → D := scr
def vs (s : Sh) (e : α → D) : α → Va := fun a => (s, e a)

/-! what stands for what -/
def Si (r : Out β) (m : E α) (e : α → β) (Γ' : Ev) : Prop := match m with | .ok a => r = .ok (e a) Γ' | .ex x => ∃ Γ, r = .ex x Γ | .st => True
def So (o : Opn) (Γ : Ev) (m : E α) (e : α → D) (Γ1 Γ2 : Ev) : Prop := match m with | .ok a => ∃ d, o.f Γ = .ok d Γ1 ∧ o.l Γ2 d = some (e a) | .ex x => ∃ Γ', o.f Γ = .ex x Γ' | .st => True
def R0 (r : Option β) (m : E α) (e : α → β) : Prop := match m with | .ok a => r = some (e a) | .ex _ => False | .st => True
def Sr (r : Res) (m : E α) (e : α → Va) : Prop := match m with | .ok a => r = .ok (e a) | .ex x => r = .ex x | .st => True
/-- .. of a def (a structure: nothing looks through it) -/
structure Sd (r : Res) (m : E α) (e : α → Va) : Prop where
  run : Sr r m e
theorem sd_mk {r : Res} {m m' : E α} {e : α → Va} (h : Sr r m e) (q : m = m') : Sd r m' e := ⟨q ▸ h⟩
def Ti (r : SO) (m : E τ) (R : τ → SO → Prop) : Prop := match m with | .ok a => R a r | .ex x => ∃ Γ, r = .ex x Γ | .st => True
def run : List (Ev → SO) → Ev → SO
  | [], Γ => .nx Γ
  | s :: ss, Γ => (s Γ).then (run ss)

theorem Si.bind {r : Out β} {m : E α} {e : α → β} {Γ1 Γ2 : Ev} {k : β → Ev → Out δ} {mk : α → E γ} {e' : γ → δ} (h : Si r m e Γ1) (hk : ∀ a, m = .ok a → Si (k (e a) Γ1) (mk a) e' Γ2) : Si (r.bind k) (m.bind mk) e' Γ2 := by
  cases m with
  | ok a => rw [show r = .ok (e a) Γ1 from h]; exact hk a rfl
  | ex x => obtain ⟨Γ, h⟩ := h; exact ⟨Γ, by rw [h]; rfl⟩
  | st => trivial
theorem Si.of {o : Option β} {m : E α} {e : α → β} {Γ : Ev} (h : R0 o m e) : Si (.of o Γ) m e Γ := by
  cases m with
  | ok a => show Out.of o Γ = _; rw [show o = some (e a) from h]; rfl
  | ex x => exact h.elim
  | st => trivial
theorem Si.cast {r r' : Out β} {m : E α} {e : α → β} {Γ1 : Ev} (h : Si r m e Γ1) (q : r' = r) : Si r' m e Γ1 := q ▸ h
theorem Si.eq {r : Out β} {m m' : E α} {e : α → β} {Γ1 : Ev} (h : Si r m e Γ1) (q : m = m') : Si r m' e Γ1 := q ▸ h
theorem Si.map {r : Out β} {m : E α} {e : α → β} {Γ1 : Ev} {f : α → γ} {e' : γ → β} (h : Si r m e Γ1) (q : ∀ a, e a = e' (f a)) : Si r (m.bind fun a => .ok (f a)) e' Γ1 := by
  cases m with
  | ok a => show r = _; rw [show r = .ok (e a) Γ1 from h, q]
  | ex x => exact h
  | st => trivial

section
variable {Γ Γ1 Γ2 Γ3 : Ev} {e : α → D} {e1 : β → D} {e2 : γ → D} {f f1 f2 : Ev → Out D} {u v : Ev → Out Va} {m : E α} {m1 : E β} {m2 : E γ} {s : Sh}
theorem j_c (d : D) (e : α → D) (a : α) (h : d = e a) : Si (fC d Γ) (.ok a) e Γ := by show fC d Γ = _; rw [h]; rfl
theorem j_n (i : Nat) (e : α → D) (a : α) (h : Γ[i]? = some (some (.z, e a))) : Si (fN i Γ) (.ok a) e Γ := by show fN i Γ = _; unfold fN; rw [h]
theorem j_z (i : Nat) (s : Sh) (e : α → D) (a : α) (h : Γ[i]? = some (some (s, e a))) : Si (fZ i Γ) (.ok a) e (Γ.set i (some (.z, e a))) := by show fZ i Γ = _; unfold fZ; rw [h]
theorem j_mv (i : Nat) (s : Sh) (e : α → D) (a : α) (h : Γ[i]? = some (some (s, e a))) : Si (vMv i Γ) (.ok a) (vs s e) (Γ.set i none) := by show vMv i Γ = _; unfold vMv; rw [h]; rfl
theorem j_v (h : Si (u Γ) m (vs s e) Γ1) : Si (fV u Γ) m e Γ1 := by
  cases m with
  | ok a => show (u Γ).bind _ = _; rw [show u Γ = .ok (vs s e a) Γ1 from h]; rfl
  | ex x => obtain ⟨Γ', h⟩ := h; exact ⟨Γ', by show (u Γ).bind _ = _; rw [h]; rfl⟩
  | st => trivial
theorem j_vf (h : Si (f Γ) m e Γ1) : Si (vF f Γ) m (vs .z e) Γ1 := by
  cases m with
  | ok a => show (f Γ).bind _ = _; rw [show f Γ = .ok (e a) Γ1 from h]; rfl
  | ex x => obtain ⟨Γ', h⟩ := h; exact ⟨Γ', by show (f Γ).bind _ = _; rw [h]; rfl⟩
  | st => trivial
/-- coercions -/
theorem j_some {r : Out D} (h : Si r m e Γ1) : Si r (m.bind fun a => .ok (some a)) (eO e) Γ1 := h.map fun _ => rfl
theorem j_un {r : Out D} {m : E (Option α)} (h : Si r m (eO e) Γ1) : Si r (m.bind E.ofO) e Γ1 := by
  cases m with
  | ok a => cases a with
    | none => trivial
    | some a => exact h
  | ex x => exact h
  | st => trivial
theorem o_f (h : Si (f Γ) m e Γ1) : So (oF f) Γ m e Γ1 Γ2 := by
  cases m with
  | ok a => exact ⟨e a, h, rfl⟩
  | ex x => exact h
  | st => trivial
theorem o_b (i : Nat) (x : Va) (e : α → D) (a : α) (h : Γ[i]? = some (some x)) (h2 : gBl (Γ2[i]?) = some (e a)) : So (oB i) Γ (.ok a) e Γ Γ2 := by
  refine ⟨.none, ?_, h2⟩
  show (oB i).f Γ = _
  rw [oB_f, h]
  rfl
theorem j_o2 {op : D → D → Option Va} {oa ob : Opn} {ma : E α} {mb : E β} {mo : α → β → E γ} {ez : γ → Va} (h1 : So oa Γ ma e Γ1 Γ2) (h2 : So ob Γ1 mb e1 Γ2 Γ2) (ho : ∀ a b, ma = .ok a → mb = .ok b → R0 (op (e a) (e1 b)) (mo a b) ez) : Si (o2 op oa ob Γ) (ma.bind fun a => mb.bind fun b => mo a b) ez Γ2 := by
  rw [o2_ap]
  cases ma with
  | ok a =>
    obtain ⟨d, q1, q2⟩ := h1
    rw [q1]
    cases mb with
    | ok b =>
      obtain ⟨d', q3, q4⟩ := h2
      rw [bind_ok, q3, bind_ok, q2, q4]
      exact Si.of (ho a b rfl rfl)
    | ex x => obtain ⟨Γ', h⟩ := h2; rw [bind_ok, h]; exact ⟨Γ', rfl⟩
    | st => trivial
  | ex x => obtain ⟨Γ', h⟩ := h1; rw [h]; exact ⟨Γ', rfl⟩
  | st => trivial
theorem j_b1 {op : List D → Option Va} {oa : Opn} {ma : E α} {mo : α → E γ} {ez : γ → Va} (h1 : So oa Γ ma e Γ1 Γ1) (ho : ∀ a, ma = .ok a → R0 (op [e a]) (mo a) ez) : Si (fB op (osC oa osN) Γ) (ma.bind mo) ez Γ1 := by
  rw [fB_ap, osC_f]
  cases ma with
  | ok a =>
    obtain ⟨d, q1, q2⟩ := h1
    rw [q1, bind_ok, osN_f, bind_ok, bind_ok, osC_l, q2]
    exact Si.of (ho a rfl)
  | ex x => obtain ⟨Γ', h⟩ := h1; rw [h]; exact ⟨Γ', rfl⟩
  | st => trivial
theorem j_b2 {op : List D → Option Va} {oa ob : Opn} {ma : E α} {mb : E β} {mo : α → β → E γ} {ez : γ → Va} (h1 : So oa Γ ma e Γ1 Γ2) (h2 : So ob Γ1 mb e1 Γ2 Γ2) (ho : ∀ a b, R0 (op [e a, e1 b]) (mo a b) ez) : Si (fB op (osC oa (osC ob osN)) Γ) (ma.bind fun a => mb.bind fun b => mo a b) ez Γ2 := by
  rw [fB_ap, osC_f]
  cases ma with
  | ok a =>
    obtain ⟨d, q1, q2⟩ := h1
    rw [q1, bind_ok, osC_f]
    cases mb with
    | ok b =>
      obtain ⟨d', q3, q4⟩ := h2
      rw [q3, bind_ok, osN_f, bind_ok, bind_ok, bind_ok, osC_l, q2, Option.bind_some, osC_l, q4]
      exact Si.of (ho a b)
    | ex x => obtain ⟨Γ', h⟩ := h2; rw [h]; exact ⟨Γ', rfl⟩
    | st => trivial
  | ex x => obtain ⟨Γ', h⟩ := h1; rw [h]; exact ⟨Γ', rfl⟩
  | st => trivial
/-! rows of values -/
theorem f_0 : Si (fsN Γ) (.ok ()) n0 Γ := rfl
theorem f_1 (h : Si (f Γ) m e Γ1) : Si (fsC f fsN Γ) m (n1 e) Γ1 := by
  cases m with
  | ok a => rw [fsC_ap, show f Γ = .ok (e a) Γ1 from h]; rfl
  | ex x => obtain ⟨Γ', h⟩ := h; exact ⟨Γ', by rw [fsC_ap, h]; rfl⟩
  | st => trivial
theorem f_c {fs : Ev → Out (List D)} {es : β → List D} {ms : E β} (h : Si (f Γ) m e Γ1) (hs : Si (fs Γ1) ms es Γ2) : Si (fsC f fs Γ) (m.bind fun a => ms.bind fun b => .ok (a, b)) (nc e es) Γ2 := by
  rw [fsC_ap]
  refine h.bind fun a _ => ?_
  refine hs.bind fun b _ => ?_
  rfl
theorem f_l0 (e : α → D) : Si (fsN Γ) (.ok []) (List.map e) Γ := rfl
theorem f_lc {fs : Ev → Out (List D)} {ms : E (List α)} (h : Si (f Γ) m e Γ1) (hs : Si (fs Γ1) ms (List.map e) Γ2) : Si (fsC f fs Γ) (m.bind fun a => ms.bind fun b => .ok (a :: b)) (List.map e) Γ2 := by
  rw [fsC_ap]
  refine h.bind fun a _ => ?_
  refine hs.bind fun b _ => ?_
  rfl
theorem j_lst {fs : Ev → Out (List D)} {ms : E (List α)} (n : Nat) (hs : Si (fs Γ) ms (List.map e) Γ1) (hn : n ≤ 16777216) (hl : ∀ a, ms = .ok a → a.length = n) : Si (fLst fs Γ) ms (vs (.l .z) (eL e)) Γ1 := by
  rw [fLst_ap]
  cases ms with
  | ok a =>
    rw [show fs Γ = _ from hs, bind_ok, if_pos (by rw [List.length_map, hl a rfl]; exact hn)]
    rfl
  | ex x => obtain ⟨Γ', h⟩ := hs; rw [h]; exact ⟨Γ', rfl⟩
  | st => trivial
theorem j_ttup {fs : Ev → Out (List D)} {ms : E (List α)} (n : Nat) (hs : Si (fs Γ) ms (List.map e) Γ1) (hn : n ≤ 16777216) (hl : ∀ a, ms = .ok a → a.length = n) : Si (fTup fs Γ) ms (eT e) Γ1 := by
  rw [fTup_ap]
  cases ms with
  | ok a =>
    rw [show fs Γ = _ from hs, bind_ok, if_pos (by rw [List.length_map, hl a rfl]; exact hn)]
    rfl
  | ex x => obtain ⟨Γ', h⟩ := hs; rw [h]; exact ⟨Γ', rfl⟩
  | st => trivial
theorem j_tup {fs : Ev → Out (List D)} {ms : E β} {es : β → List D} (n : Nat) (hs : Si (fs Γ) ms es Γ1) (hn : n ≤ 16777216) (hl : ∀ a, (es a).length = n) : Si (fTup fs Γ) ms (eP es) Γ1 := by
  rw [fTup_ap]
  cases ms with
  | ok a =>
    rw [show fs Γ = _ from hs, bind_ok, if_pos (by rw [hl a]; exact hn)]
    rfl
  | ex x => obtain ⟨Γ', h⟩ := hs; rw [h]; exact ⟨Γ', rfl⟩
  | st => trivial
theorem j_call {n : Nat} {F : List D → Res} {fs : Ev → Out (List D)} {ms : E β} {es : β → List D} {M : β → E γ} {ez : γ → Va} (hs : Si (fs Γ) ms es Γ1) (hF : ∀ a, Sd (F (es a)) (M a) ez) (hl : ∀ a, (es a).length = n) : Si (fCall n F fs Γ) (ms.bind M) ez Γ1 := by
  rw [fCall_ap]
  refine hs.bind fun a _ => ?_
  rw [if_pos (hl a)]
  have h := (hF a).run
  cases hM : M a with
  | ok z => rw [hM] at h; rw [show F (es a) = .ok (ez z) from h]; rfl
  | ex x => rw [hM] at h; rw [show F (es a) = .ex x from h]; exact ⟨_, rfl⟩
  | st => trivial
/-! tests -/
theorem j_bv {mb : E Bool} (h : Si (u Γ) mb (vs s eB) Γ1) : Si (bV u Γ) mb id Γ1 := by
  rw [bV_ap]
  cases mb with
  | ok a => rw [show u Γ = _ from h]; rfl
  | ex x => obtain ⟨Γ', h⟩ := h; rw [h]; exact ⟨Γ', rfl⟩
  | st => trivial
theorem j_bf {mb : E Bool} (h : Si (f Γ) mb eB Γ1) : Si (bF f Γ) mb id Γ1 := by
  rw [bF_ap]
  cases mb with
  | ok a => rw [show f Γ = _ from h]; rfl
  | ex x => obtain ⟨Γ', h⟩ := h; rw [h]; exact ⟨Γ', rfl⟩
  | st => trivial
theorem j_bo {o : Opn} {mt : α → E Bool} (h : So o Γ m e Γ1 Γ1) (ht : ∀ a, R0 (dTru (e a)) (mt a) id) : Si (bO o Γ) (m.bind mt) id Γ1 := by
  rw [bO_ap]
  cases m with
  | ok a =>
    obtain ⟨d, q1, q2⟩ := h
    rw [q1, bind_ok, q2]
    exact Si.of (ht a)
  | ex x => obtain ⟨Γ', h⟩ := h; rw [h]; exact ⟨Γ', rfl⟩
  | st => trivial
theorem j_not {c : Ev → Out Bool} {mb : E Bool} (h : Si (c Γ) mb id Γ1) : Si (bNot c Γ) (mb.bind fun b => .ok (!b)) id Γ1 := by
  rw [bNot_ap]
  refine h.bind fun b _ => ?_
  rfl
theorem j_and {c c' : Ev → Out Bool} {mb mc : E Bool} (h : Si (c Γ) mb id Γ) (h' : Si (c' Γ) mc id Γ) : Si (bAnd c c' Γ) (mb.bind fun b => if b = true then mc else .ok false) id Γ := by
  rw [bAnd_ap]
  refine h.bind fun b _ => ?_
  cases b with
  | true => simpa using h'
  | false => rfl
theorem j_or {c c' : Ev → Out Bool} {mb mc : E Bool} (h : Si (c Γ) mb id Γ) (h' : Si (c' Γ) mc id Γ) : Si (bOr c c' Γ) (mb.bind fun b => if b = true then .ok true else mc) id Γ := by
  rw [bOr_ap]
  refine h.bind fun b _ => ?_
  cases b with
  | true => rfl
  | false => simpa using h'
theorem j_andP {c c' : Ev → Out Bool} {mb : E Bool} {b' : Bool} (h : Si (c Γ) mb id Γ) (h' : Si (c' Γ) (.ok b') id Γ) : Si (bAnd c c' Γ) (mb.bind fun b => .ok (b && b')) id Γ := by
  rw [bAnd_ap]
  refine h.bind fun b _ => ?_
  cases b with
  | true => simpa using h'
  | false => rfl
theorem j_orP {c c' : Ev → Out Bool} {mb : E Bool} {b' : Bool} (h : Si (c Γ) mb id Γ) (h' : Si (c' Γ) (.ok b') id Γ) : Si (bOr c c' Γ) (mb.bind fun b => .ok (b || b')) id Γ := by
  rw [bOr_ap]
  refine h.bind fun b _ => ?_
  cases b with
  | true => rfl
  | false => simpa using h'
theorem j_if {c : Ev → Out Bool} {mb : E Bool} {ez : γ → Va} {ma mc : E γ} (h : Si (c Γ) mb id Γ1) (h1 : Si (u Γ1) ma ez Γ1) (h2 : Si (v Γ1) mc ez Γ1) : Si (vIf c u v Γ) (mb.bind fun b => if b = true then ma else mc) ez Γ1 := by
  rw [vIf_ap]
  refine h.bind fun b _ => ?_
  cases b with
  | true => simpa using h1
  | false => simpa using h2
/-- and, or as values -/
theorem j_vand {mb mc : E Bool} (h : Si (f Γ) mb eB Γ) (h' : Si (v Γ) mc (vs .z eB) Γ) : Si (vAnd f v Γ) (mb.bind fun b => if b = true then mc else .ok false) (vs .z eB) Γ := by
  rw [vAnd_ap]
  refine h.bind fun b _ => ?_
  cases b with
  | true => exact (show Si (v Γ) (if true = true then mc else .ok false) _ _ by rw [if_pos rfl]; exact h')
  | false => rfl
theorem j_vor {mb mc : E Bool} (h : Si (f Γ) mb eB Γ) (h' : Si (v Γ) mc (vs .z eB) Γ) : Si (vOr f v Γ) (mb.bind fun b => if b = true then .ok true else mc) (vs .z eB) Γ := by
  rw [vOr_ap]
  refine h.bind fun b _ => ?_
  cases b with
  | true => rfl
  | false => exact (show Si (v Γ) (if false = true then .ok true else mc) _ _ by rw [if_neg Bool.false_ne_true]; exact h')
theorem j_vandP {mb : E Bool} {b' : Bool} (h : Si (f Γ) mb eB Γ) (h' : Si (v Γ) (.ok b') (vs .z eB) Γ) : Si (vAnd f v Γ) (mb.bind fun b => .ok (b && b')) (vs .z eB) Γ := by
  rw [vAnd_ap]
  refine h.bind fun b _ => ?_
  cases b with
  | true => exact (show Si (v Γ) (.ok (true && b')) _ _ by rw [Bool.true_and]; exact h')
  | false => rfl
theorem j_vorP {mb : E Bool} {b' : Bool} (h : Si (f Γ) mb eB Γ) (h' : Si (v Γ) (.ok b') (vs .z eB) Γ) : Si (vOr f v Γ) (mb.bind fun b => .ok (b || b')) (vs .z eB) Γ := by
  rw [vOr_ap]
  refine h.bind fun b _ => ?_
  cases b with
  | true => rfl
  | false => exact (show Si (v Γ) (.ok (false || b')) _ _ by rw [Bool.false_or]; exact h')
theorem j_fnot {mb : E Bool} (h : Si (f Γ) mb eB Γ1) : Si (fNot f Γ) (mb.bind fun b => .ok (!b)) eB Γ1 := by
  rw [fNot_ap]
  refine h.bind fun b _ => ?_
  rfl
theorem j_neg {mb : E Int} (h : Si (f Γ) mb eI Γ1) : Si (fNeg f Γ) (mb.bind fun b => .ok (-b)) eI Γ1 := by
  rw [fNeg_ap]
  refine h.bind fun b _ => ?_
  rfl
/-! slices -/
theorem p_n : Si (fPN Γ) (.ok none) id Γ := rfl
theorem p_s {mb : E Int} (h : Si (f Γ) mb eI Γ1) : Si (fPS f Γ) (mb.bind fun b => .ok (some b)) id Γ1 := by
  rw [fPS_ap]
  refine h.bind fun b _ => ?_
  rfl
theorem j_cut {o : Opn} {p q : Ev → Out (Option Int)} {mp mq : E (Option Int)} {mo : α → Option Int → Option Int → E γ} {ez : γ → Va} (h : So o Γ m e Γ1 Γ3) (h1 : Si (p Γ1) mp id Γ2) (h2 : Si (q Γ2) mq id Γ3) (ho : ∀ a lo hi, R0 (dCut (e a) lo hi) (mo a lo hi) ez) : Si (vCut o p q Γ) (m.bind fun a => mp.bind fun lo => mq.bind fun hi => mo a lo hi) ez Γ3 := by
  rw [vCut_ap]
  cases m with
  | ok a =>
    obtain ⟨d, q1, q2⟩ := h
    rw [q1, bind_ok, ok_bind]
    refine h1.bind fun lo _ => ?_
    refine h2.bind fun hi _ => ?_
    rw [q2]
    exact Si.of (ho a lo hi)
  | ex x => obtain ⟨Γ', h⟩ := h; rw [h]; exact ⟨Γ', rfl⟩
  | st => trivial
/-! what is walked -/
def rg (lo : Int) (n : Nat) : List Int := (List.range n).map fun k => lo + (k : Nat)
theorem rg_map (lo : Int) (n : Nat) : rangeL lo n = (rg lo n).map eI := by unfold rangeL rg; rw [List.map_map]; rfl
def rg1 (n : Int) : E (List Int) := chk (n < 2 ^ 62 ∧ -(2 ^ 62) ≤ n) (rg 0 n.toNat)
def rg2 (lo hi : Int) : E (List Int) := chk ((hi < 2 ^ 62 ∧ -(2 ^ 62) ≤ hi) ∧ lo < 2 ^ 62 ∧ -(2 ^ 62) ≤ lo) (rg lo (hi - lo).toNat)
theorem i_l (h : Si (f Γ) m' (eL e) Γ1) : Si (iLT f Γ) m' (List.map e) Γ1 := by
  rw [iLT_ap]
  cases m' with
  | ok a => rw [show f Γ = _ from h]; rfl
  | ex x => obtain ⟨Γ', h⟩ := h; rw [h]; exact ⟨Γ', rfl⟩
  | st => trivial
theorem i_t (h : Si (f Γ) m' (eT e) Γ1) : Si (iLT f Γ) m' (List.map e) Γ1 := by
  rw [iLT_ap]
  cases m' with
  | ok a => rw [show f Γ = _ from h]; rfl
  | ex x => obtain ⟨Γ', h⟩ := h; rw [h]; exact ⟨Γ', rfl⟩
  | st => trivial
theorem i_r1 {fs : Ev → Out (List D)} {ms : E Int} (h : Si (fs Γ) ms (n1 eI) Γ1) : Si (iR1 fs Γ) (ms.bind rg1) (List.map eI) Γ1 := by
  rw [iR1_ap]
  refine h.bind fun n _ => ?_
  unfold rg1 chk
  show Si (if _ then _ else _) _ _ _
  split
  · show Out.ok _ _ = _; rw [rg_map]
  · trivial
theorem i_r2 {fs : Ev → Out (List D)} {ms : E (Int × Int)} (h : Si (fs Γ) ms (nc eI (n1 eI)) Γ1) : Si (iR2 fs Γ) (ms.bind fun p => rg2 p.1 p.2) (List.map eI) Γ1 := by
  rw [iR2_ap]
  refine h.bind fun n _ => ?_
  unfold rg2 chk
  show Si (if _ then _ else _) _ _ _
  split
  · show Out.ok _ _ = _; rw [rg_map]
  · trivial
def enum (xs : List α) : List (Int × α) := xs.zipIdx.map fun p => ((p.2 : Nat), p.1)
theorem enum_map (xs : List α) : enumL (xs.map e) = (enum xs).map (eP (nc eI (n1 e))) := by
  unfold enumL enum
  rw [List.zipIdx_map, List.map_map, List.map_map]
  rfl
theorem i_en {fs : Ev → Out (List D)} {ms : E (List α)} (h : Si (fs Γ) ms (n1 (eL e)) Γ1) : Si (iEn fs Γ) (ms.bind fun xs => .ok (enum xs)) (List.map (eP (nc eI (n1 e)))) Γ1 := by
  rw [iEn_ap]
  refine h.bind fun n _ => ?_
  show Out.ok (enumL _) _ = _
  rw [enum_map]
theorem zip_map (xs : List α) (ys : List β) : zipL (xs.map e) (ys.map e1) = (xs.zip ys).map (eP (nc e (n1 e1))) := by
  unfold zipL
  rw [List.zip_map, List.map_map]
  rfl
theorem i_zp {fs : Ev → Out (List D)} {ms : E (List α × List β)} (h : Si (fs Γ) ms (nc (eL e) (n1 (eL e1))) Γ1) : Si (iZp fs Γ) (ms.bind fun p => .ok (p.1.zip p.2)) (List.map (eP (nc e (n1 e1)))) Γ1 := by
  rw [iZp_ap]
  refine h.bind fun n _ => ?_
  show Out.ok (zipL _ _) _ = _
  rw [zip_map]
def lrE (n : Int) : E (List Int) := chk (0 ≤ n ∧ n ≤ 16777216) (rg 0 n.toNat)
theorem j_lr1 {mn : E Int} (h : Si (f Γ) mn eI Γ1) : Si (vLR1 f Γ) (mn.bind lrE) (vs (.l .z) (eL eI)) Γ1 := by
  rw [vLR1_ap]
  refine h.bind fun n _ => ?_
  unfold lrE chk
  show Si (if _ then _ else _) _ _ _
  split
  · show Out.ok _ _ = _; rw [rg_map]; rfl
  · trivial
theorem j_tr1 {mn : E Int} (h : Si (f Γ) mn eI Γ1) : Si (fTR1 f Γ) (mn.bind lrE) (eT eI) Γ1 := by
  show Si ((f Γ).bind _) _ _ _
  refine h.bind fun n _ => ?_
  unfold lrE chk
  show Si (if _ then _ else _) _ _ _
  split
  · show Out.ok _ _ = _; rw [rg_map]; rfl
  · trivial
/-! comprehensions -/
def compG (c : α → E Bool) (g : α → E β) : List α → E (List β)
  | [] => .ok []
  | x :: xs => match c x with
    | .ok true => (match g x with | .ok y => (compG c g xs).bind fun ys => .ok (y :: ys) | _ => .st)
    | .ok false => compG c g xs
    | _ => .st
@[irreducible] def compE (c : α → E Bool) (g : α → E β) (xs : List α) : E (List β) := if xs.length ≤ 16777216 then compG c g xs else .st
def mapE (g : α → β) (xs : List α) : E (List β) := chk (xs.length ≤ 16777216) (xs.map g)
def filE (c : α → Bool) (g : α → β) (xs : List α) : E (List β) := chk (xs.length ≤ 16777216) ((xs.filter c).map g)
theorem compG_nex (c : α → E Bool) (g : α → E β) : ∀ xs x, compG c g xs ≠ .ex x
  | [], x => fun h => by cases h
  | y :: ys, x => by
    unfold compG
    split
    · split
      · cases h : compG c g ys with
        | ok a => exact fun z => by cases z
        | ex e => exact absurd h (compG_nex c g ys e)
        | st => exact fun z => by cases z
      · exact fun z => by cases z
    · exact compG_nex c g ys x
    · exact fun z => by cases z
theorem compL_ok {is : List Nat} {t : D → Ev → Option Ev} {c : Ev → Out Bool} {fe : Ev → Out D} {Γ0 : Ev} {ex : α → D} {ey : β → D} {mc : α → E Bool} {mg : α → E β}
    (hb : ∀ x, ∃ Γx Γy Γz, t (ex x) Γ0 = some Γx ∧ Si (c Γx) (mc x) id Γy ∧ Si (fe Γy) (mg x) ey Γz ∧ wipeG Γy is = Γ0 ∧ wipeG Γz is = Γ0) : ∀ xs ys, compG mc mg xs = .ok ys → compL is t c fe (xs.map ex) Γ0 = some (ys.map ey, Γ0)
  | [], ys, h => by cases h; rfl
  | x :: xs, ys, h => by
    obtain ⟨Γx, Γy, Γz, h1, h2, h3, h4, h5⟩ := hb x
    rw [List.map_cons]
    unfold compL
    rw [h1]
    dsimp only
    unfold compG at h
    cases hc : mc x with
    | ok b =>
      rw [hc] at h h2
      rw [show c Γx = .ok b Γy from h2]
      cases b with
      | true =>
        dsimp only at h ⊢
        cases hg : mg x with
        | ok y =>
          rw [hg] at h h3
          rw [show fe Γy = .ok (ey y) Γz from h3]
          dsimp only at h ⊢
          cases hr : compG mc mg xs with
          | ok zs =>
            rw [hr] at h
            cases h
            rw [h5, compL_ok hb xs zs hr]
            rfl
          | ex e => rw [hr] at h; cases h
          | st => rw [hr] at h; cases h
        | ex e => rw [hg] at h; cases h
        | st => rw [hg] at h; cases h
      | false =>
        dsimp only at h ⊢
        rw [h4]
        exact compL_ok hb xs ys h
    | ex e => rw [hc] at h; cases h
    | st => rw [hc] at h; cases h
theorem j_comp {is : List Nat} {ff : Ev → Out (List D)} {t : D → Ev → Option Ev} {c : Ev → Out Bool} {fe : Ev → Out D} {mi : E (List α)} {ex : α → D} {ey : β → D} {mc : α → E Bool} {mg : α → E β} (hi : Si (ff Γ) mi (List.map ex) Γ1)
    (hb : ∀ x, ∃ Γx Γy Γz, t (ex x) (wipeG Γ1 is) = some Γx ∧ Si (c Γx) (mc x) id Γy ∧ Si (fe Γy) (mg x) ey Γz ∧ wipeG Γy is = wipeG Γ1 is ∧ wipeG Γz is = wipeG Γ1 is) (hr : restG Γ1 (wipeG Γ1 is) is = Γ1) :
    Si (vComp is ff t c fe Γ) (mi.bind fun xs => compE mc mg xs) (vs (.l .z) (eL ey)) Γ1 := by
  rw [vComp_ap]
  refine hi.bind fun xs _ => ?_
  unfold compE
  rw [List.length_map]
  split
  · cases h : compG mc mg xs with
    | ok ys =>
      rw [compL_ok hb xs ys h]
      dsimp only
      rw [hr]
      rfl
    | ex e => exact absurd h (compG_nex _ _ _ _)
    | st => trivial
  · trivial
theorem compG_pure (c : α → Bool) (g : α → β) : ∀ xs, compG (fun x => .ok (c x)) (fun x => .ok (g x)) xs = .ok ((xs.filter c).map g)
  | [] => rfl
  | x :: xs => by
    unfold compG
    cases h : c x with
    | true => simp only [compG_pure c g xs, ok_bind, List.filter_cons, h, if_true, List.map_cons]
    | false => simp only [compG_pure c g xs, List.filter_cons, h, Bool.false_eq_true, if_false]
theorem j_compF {is : List Nat} {ff : Ev → Out (List D)} {t : D → Ev → Option Ev} {c : Ev → Out Bool} {fe : Ev → Out D} {mi : E (List α)} {ex : α → D} {ey : β → D} {mc : α → Bool} {mg : α → β} (hi : Si (ff Γ) mi (List.map ex) Γ1)
    (hb : ∀ x, ∃ Γx Γy Γz, t (ex x) (wipeG Γ1 is) = some Γx ∧ Si (c Γx) (.ok (mc x)) id Γy ∧ Si (fe Γy) (.ok (mg x)) ey Γz ∧ wipeG Γy is = wipeG Γ1 is ∧ wipeG Γz is = wipeG Γ1 is) (hr : restG Γ1 (wipeG Γ1 is) is = Γ1) :
    Si (vComp is ff t c fe Γ) (mi.bind fun xs => filE mc mg xs) (vs (.l .z) (eL ey)) Γ1 := by
  have h := j_comp (mc := fun x => .ok (mc x)) (mg := fun x => .ok (mg x)) hi hb hr
  refine h.eq ?_
  congr 1
  funext xs
  unfold compE filE chk
  rw [compG_pure]
theorem j_compM {is : List Nat} {ff : Ev → Out (List D)} {t : D → Ev → Option Ev} {fe : Ev → Out D} {mi : E (List α)} {ex : α → D} {ey : β → D} {mg : α → β} (hi : Si (ff Γ) mi (List.map ex) Γ1)
    (hb : ∀ x, ∃ Γx Γz, t (ex x) (wipeG Γ1 is) = some Γx ∧ Si (fe Γx) (.ok (mg x)) ey Γz ∧ wipeG Γx is = wipeG Γ1 is ∧ wipeG Γz is = wipeG Γ1 is) (hr : restG Γ1 (wipeG Γ1 is) is = Γ1) :
    Si (vComp is ff t bYes fe Γ) (mi.bind fun xs => mapE mg xs) (vs (.l .z) (eL ey)) Γ1 := by
  have h := j_compF (c := bYes) (mc := fun _ => true) (mg := mg) hi (fun x => by
    obtain ⟨Γx, Γz, h1, h2, h3, h4⟩ := hb x
    exact ⟨Γx, Γx, Γz, h1, rfl, h2, h3, h4⟩) hr
  refine h.eq ?_
  congr 1
  funext xs
  unfold filE mapE chk
  rw [List.filter_eq_self.mpr fun _ _ => rfl]
def comE (g : α → E β) (xs : List α) : E (List β) := compE (fun _ => .ok true) g xs
theorem j_compE {is : List Nat} {ff : Ev → Out (List D)} {t : D → Ev → Option Ev} {fe : Ev → Out D} {mi : E (List α)} {ex : α → D} {ey : β → D} {mg : α → E β} (hi : Si (ff Γ) mi (List.map ex) Γ1)
    (hb : ∀ x, ∃ Γx Γz, t (ex x) (wipeG Γ1 is) = some Γx ∧ Si (fe Γx) (mg x) ey Γz ∧ wipeG Γx is = wipeG Γ1 is ∧ wipeG Γz is = wipeG Γ1 is) (hr : restG Γ1 (wipeG Γ1 is) is = Γ1) :
    Si (vComp is ff t bYes fe Γ) (mi.bind fun xs => comE mg xs) (vs (.l .z) (eL ey)) Γ1 :=
  j_comp (c := bYes) hi (fun x => by
    obtain ⟨Γx, Γz, h1, h2, h3, h4⟩ := hb x
    exact ⟨Γx, Γx, Γz, h1, rfl, h2, h3, h4⟩) hr
end
end
end TM
namespace TM
open PySem PV
/-! ### statements -/
inductive Fl (σ ρ : Type) where
  | nx (s : σ) | bk (s : σ) | rt (r : ρ)
section
variable {α β γ δ σ ρ τ : Type}
def forE (f : σ → α → E σ) : List α → σ → E σ
  | [], s => .ok s
  | x :: xs, s => (f s x).bind fun s1 => forE f xs s1
def flow (k : σ → E (σ ⊕ ρ)) (q : Fl σ ρ) : E (σ ⊕ ρ) := match q with
  | .nx s => k s
  | .bk s => .ok (.inl s)
  | .rt r => .ok (.inr r)
def forR (f : σ → α → E (Fl σ ρ)) : List α → σ → E (σ ⊕ ρ)
  | [], s => .ok (.inl s)
  | x :: xs, s => (f s x).bind (flow fun s1 => forR f xs s1)
def whileE (c : σ → E Bool) (f : σ → E σ) : Nat → σ → E σ
  | 0, _ => .st
  | n + 1, s => (c s).bind fun b => if b = true then (f s).bind fun s1 => whileE c f n s1 else .ok s
def whileR (c : σ → E Bool) (f : σ → E (Fl σ ρ)) : Nat → σ → E (σ ⊕ ρ)
  | 0, _ => .st
  | n + 1, s => (c s).bind fun b => if b = true then (f s).bind (flow fun s1 => whileR c f n s1) else .ok (.inl s)
def Rf (e : ρ → Va) : ρ → SO → Prop := fun v r => (∃ Γ, r = .rt (e v) Γ) ∨ ((∃ Γ, r = .nx Γ) ∧ e v = (.z, .none))
def Rlp (G : σ → Ev) : σ → SO → Prop := fun s r => r = .nx (G s) ∨ r = .ct (G s)
def RlpR (G : σ → Ev) (e : ρ → Va) : Fl σ ρ → SO → Prop := fun q r => match q with
  | .nx s => r = .nx (G s) ∨ r = .ct (G s)
  | .bk s => r = .bk (G s)
  | .rt v => ∃ Γ, r = .rt (e v) Γ
def Rj (is : List Nat) (G : σ → Ev) : σ → SO → Prop := fun s r => ∃ Γ, r = .nx Γ ∧ wipeG Γ is = G s
def Rw (is : List Nat) (G : σ → Ev) : σ → SO → Prop := fun s r => ∃ Γ, (r = .nx Γ ∨ r = .ct Γ) ∧ wipeG Γ is = G s
def RwR (is : List Nat) (G : σ → Ev) (e : ρ → Va) : Fl σ ρ → SO → Prop := fun q r => match q with
  | .nx s => ∃ Γ, (r = .nx Γ ∨ r = .ct Γ) ∧ wipeG Γ is = G s
  | .bk s => ∃ Γ, r = .bk Γ ∧ wipeG Γ is = G s
  | .rt v => ∃ Γ, r = .rt (e v) Γ

variable {Γ Γ1 Γ2 Γ3 : Ev} {e : α → D} {f : Ev → Out D} {u v : Ev → Out Va} {a b : Ev → SO} {ss : List (Ev → SO)} {R : τ → SO → Prop} {m : E α} {mt : E τ} {mk : α → E τ}
theorem Ti.ex {r : SO} {x : Exc} (h : ∃ Γ, r = .ex x Γ) : Ti r (.ex x : E τ) R := h
theorem then_assoc (r : SO) (b c : Ev → SO) : (r.then b).then c = r.then fun Γ => (b Γ).then c := by cases r <;> rfl
theorem t_seq (h : Ti (run (a :: b :: ss) Γ) mt R) : Ti (run (sSeq a b :: ss) Γ) mt R := by
  have : run (sSeq a b :: ss) Γ = run (a :: b :: ss) Γ := by
    show (sSeq a b Γ).then (run ss) = (a Γ).then fun Γ => (b Γ).then (run ss)
    rw [seq_eq, then_assoc]
  rw [this]; exact h
theorem t_nx (h : Ti (run ss Γ) mt R) : Ti (run (sNx :: ss) Γ) mt R := h
theorem t_end {s : τ} (h : R s (.nx Γ)) : Ti (run [] Γ) (.ok s) R := h
theorem t_ct {s : τ} (h : R s (.ct Γ)) : Ti (run (sCt :: ss) Γ) (.ok s) R := h
theorem t_bk {s : τ} (h : R s (.bk Γ)) : Ti (run (sBk :: ss) Γ) (.ok s) R := h
theorem t_raise (x : Exc) : Ti (run (sRaise x :: ss) Γ) (.ex x) R := ⟨Γ, rfl⟩
theorem t_sB {β : Type} {r : Out β} {eb : α → β} {k : β → Ev → SO} (h : Si r m eb Γ1) (hk : ∀ a, Ti ((k (eb a) Γ1).then (run ss)) (mk a) R) : Ti ((sB r k).then (run ss)) (m.bind mk) R := by
  cases m with
  | ok a => rw [show r = .ok (eb a) Γ1 from h]; exact hk a
  | ex x => obtain ⟨Γ', h⟩ := h; exact ⟨Γ', by rw [h]; rfl⟩
  | st => trivial
theorem t_asg (i : Nat) {ez : α → Va} (h : Si (u Γ) m ez Γ1) (hk : ∀ a, Ti (run ss (Γ1.set i (some (ez a)))) (mk a) R) : Ti (run (sAsg i u :: ss) Γ) (m.bind mk) R := t_sB h hk
theorem t_fz (i : Nat) {s : Sh} (h : Si (u Γ) m (vs s e) Γ1) (hi : ∀ x : Option Va, (Γ1.set i x)[i]? = some x) (hk : ∀ a, Ti (run ss (Γ1.set i (some (.z, e a)))) (mk a) R) : Ti (run (sFz i (sAsg i u) :: ss) Γ) (m.bind mk) R := by
  show Ti ((sFz i (sAsg i u) Γ).then (run ss)) _ _
  rw [sFz_ap, sAsg_ap]
  cases m with
  | ok a =>
    rw [show u Γ = .ok (vs s e a) Γ1 from h, sB_ok, then_nx, hi, fzE_s, then_nx, List.set_set]
    exact hk a
  | ex x => obtain ⟨Γ', h⟩ := h; exact ⟨Γ', by rw [h]; rfl⟩
  | st => trivial
theorem t_exp (h : Si (f Γ) m e Γ1) (hk : ∀ a, Ti (run ss Γ1) (mk a) R) : Ti (run (sExp f :: ss) Γ) (m.bind mk) R := t_sB h hk
/-- a return, the def's -/
theorem t_ret {ρ : Type} {mv : E ρ} {ez : ρ → Va} (h : Si (u Γ) mv ez Γ1) : Ti (run (sRet u :: ss) Γ) mv (Rf ez) := by
  cases mv with
  | ok a => exact .inl ⟨Γ1, by show (sB (u Γ) _).then _ = _; rw [show u Γ = _ from h]; rfl⟩
  | ex x => obtain ⟨Γ', h⟩ := h; exact ⟨Γ', by show (sB (u Γ) _).then _ = _; rw [h]; rfl⟩
  | st => trivial
theorem t_retN {ez : ρ → Va} {v : ρ} (h : ez v = (.z, .none)) : Ti (run (sRetN :: ss) Γ) (.ok v) (Rf ez) := .inl ⟨Γ, by rw [h]; rfl⟩
/-- a return within a loop -/
theorem t_retL {ρ : Type} {mv : E ρ} {ez : ρ → Va} {w : ρ → τ} (h : Si (u Γ) mv ez Γ1) (hR : ∀ v, R (w v) (.rt (ez v) Γ1)) : Ti (run (sRet u :: ss) Γ) (mv.bind fun v => .ok (w v)) R := by
  cases mv with
  | ok a => show R (w a) ((sB (u Γ) _).then _); rw [show u Γ = _ from h]; exact hR a
  | ex x => obtain ⟨Γ', h⟩ := h; exact ⟨Γ', by show (sB (u Γ) _).then _ = _; rw [h]; rfl⟩
  | st => trivial
theorem t_retNL {v : τ} (h : R v (.rt (.z, .none) Γ)) : Ti (run (sRetN :: ss) Γ) (.ok v) R := h
/-- if, what follows in both ways -/
theorem t_if {c : Ev → Out Bool} {mc : E Bool} {ma mb : E τ} (h : Si (c Γ) mc id Γ1) (h1 : Ti (run (a :: ss) Γ1) ma R) (h2 : Ti (run (b :: ss) Γ1) mb R) : Ti (run (sIf c a b :: ss) Γ) (mc.bind fun k => if k = true then ma else mb) R := by
  refine t_sB (k := fun k Γ1 => if k = true then a Γ1 else b Γ1) h fun k => ?_
  cases k with
  | true => exact h1
  | false => exact h2
/-- if, joined -/
theorem t_ifj {c : Ev → Out Bool} {mc : E Bool} {ma mb : E σ} {mk : σ → E τ} (is : List Nat) (G : σ → Ev) (h : Si (c Γ) mc id Γ1) (h1 : Ti (run [a] Γ1) ma (Rj is G)) (h2 : Ti (run [b] Γ1) mb (Rj is G)) (hk : ∀ s, Ti (run ss (G s)) (mk s) R) : Ti (run (sWp is (sIf c a b) :: ss) Γ) ((mc.bind fun k => if k = true then ma else mb).bind mk) R := by
  have one : ∀ {s : Ev → SO} {ms : E σ} {Γ0 : Ev}, s Γ = s Γ0 ∨ True → True := fun _ => trivial
  have fin : ∀ {r : SO} {ms : E σ}, Ti (r.then (run [])) ms (Rj is G) → sIf c a b Γ = r → Ti ((sWp is (sIf c a b) Γ).then (run ss)) (ms.bind mk) R := by
    intro r ms hr e
    have hn : r.then (run []) = r := by cases r <;> rfl
    rw [hn] at hr
    cases ms with
    | ok s =>
      obtain ⟨Γ', e1, e2⟩ := hr
      rw [wp_nx (e.trans e1), e2]
      exact hk s
    | ex x =>
      obtain ⟨Γ', e1⟩ := hr
      refine ⟨Γ', ?_⟩
      have e2 : sIf c a b Γ = .ex x Γ' := e.trans e1
      show (sWp is (sIf c a b) Γ).then _ = _
      unfold sWp
      rw [e2]
      rfl
    | st => trivial
  cases mc with
  | ok k =>
    have e : sIf c a b Γ = if k = true then a Γ1 else b Γ1 := by show sB (c Γ) _ = _; rw [show c Γ = .ok k Γ1 from h]; rfl
    cases k with
    | true => exact fin (r := a Γ1) h1 e
    | false => exact fin (r := b Γ1) h2 e
  | ex x =>
    obtain ⟨Γ', h⟩ := h
    refine ⟨Γ', ?_⟩
    have e2 : sIf c a b Γ = .ex x Γ' := by show sB (c Γ) _ = _; rw [h]; rfl
    show (sWp is (sIf c a b) Γ).then _ = _
    unfold sWp
    rw [e2]
    rfl
  | st => trivial
/-! loops -/
theorem t_wp {is : List Nat} {G : σ → Ev} {ms : E σ} (h : Ti (run [a] Γ) ms (Rw is G)) : Ti (sWp is a Γ) ms (Rlp G) := by
  have hn : ∀ r : SO, r.then (run []) = r := fun r => by cases r <;> rfl
  change Ti ((a Γ).then (run [])) _ _ at h
  rw [hn] at h
  cases ms with
  | ok s =>
    obtain ⟨Γ', e1 | e1, e2⟩ := h
    · exact .inl (by unfold sWp; rw [e1]; show SO.nx _ = _; rw [e2])
    · exact .inr (by unfold sWp; rw [e1]; show SO.ct _ = _; rw [e2])
  | ex x => obtain ⟨Γ', e1⟩ := h; exact ⟨Γ', by unfold sWp; rw [e1]⟩
  | st => trivial
theorem t_wpR {is : List Nat} {G : σ → Ev} {ez : ρ → Va} {ms : E (Fl σ ρ)} (h : Ti (run [a] Γ) ms (RwR is G ez)) : Ti (sWp is a Γ) ms (RlpR G ez) := by
  have hn : ∀ r : SO, r.then (run []) = r := fun r => by cases r <;> rfl
  change Ti ((a Γ).then (run [])) _ _ at h
  rw [hn] at h
  cases ms with
  | ok q =>
    cases q with
    | nx s =>
      obtain ⟨Γ', e1 | e1, e2⟩ := h
      · exact .inl (by unfold sWp; rw [e1]; show SO.nx _ = _; rw [e2])
      · exact .inr (by unfold sWp; rw [e1]; show SO.ct _ = _; rw [e2])
    | bk s =>
      obtain ⟨Γ', e1, e2⟩ := h
      show sWp is a Γ = _
      unfold sWp; rw [e1]; show SO.bk _ = _; rw [e2]
    | rt v =>
      obtain ⟨Γ', e1⟩ := h
      exact ⟨Γ', by unfold sWp; rw [e1]⟩
  | ex x => obtain ⟨Γ', e1⟩ := h; exact ⟨Γ', by unfold sWp; rw [e1]⟩
  | st => trivial
theorem forL_ok {t : D → Ev → Option Ev} {body : Ev → SO} {ex : α → D} {mb : σ → α → E σ} {G : σ → Ev} (hb : ∀ s x, ∃ Γ2, t (ex x) (G s) = some Γ2 ∧ Ti (body Γ2) (mb s x) (Rlp G)) : ∀ (xs : List α) (s : σ), Ti (sForL t body (xs.map ex) (G s)) (forE mb xs s) (fun s r => r = .nx (G s))
  | [], s => rfl
  | x :: xs, s => by
    obtain ⟨Γ2, e, h⟩ := hb s x
    have ih := forL_ok hb xs
    rw [List.map_cons]
    unfold sForL forE
    rw [e]
    dsimp only
    cases hm : mb s x with
    | ok s1 =>
      rw [hm] at h
      rcases h with h | h <;> (rw [h]; exact ih s1)
    | ex x =>
      rw [hm] at h
      obtain ⟨Γ', h⟩ := h
      rw [h]
      exact ⟨Γ', rfl⟩
    | st => trivial
theorem forLR_ok {t : D → Ev → Option Ev} {body : Ev → SO} {ex : α → D} {mb : σ → α → E (Fl σ ρ)} {G : σ → Ev} {ez : ρ → Va} (hb : ∀ s x, ∃ Γ2, t (ex x) (G s) = some Γ2 ∧ Ti (body Γ2) (mb s x) (RlpR G ez)) : ∀ (xs : List α) (s : σ), Ti (sForL t body (xs.map ex) (G s)) (forR mb xs s) (fun q r => match q with | .inl s => r = .nx (G s) | .inr v => ∃ Γ, r = .rt (ez v) Γ)
  | [], s => rfl
  | x :: xs, s => by
    obtain ⟨Γ2, e, h⟩ := hb s x
    have ih := forLR_ok hb xs
    rw [List.map_cons]
    unfold sForL forR
    rw [e]
    dsimp only
    cases hm : mb s x with
    | ok q =>
      rw [hm] at h
      cases q with
      | nx s1 => rcases h with h | h <;> (rw [h]; exact ih s1)
      | bk s1 => rw [show body Γ2 = _ from h]; rfl
      | rt v => obtain ⟨Γ', h⟩ := h; rw [h]; exact ⟨Γ', rfl⟩
    | ex x =>
      rw [hm] at h
      obtain ⟨Γ', h⟩ := h
      rw [h]
      exact ⟨Γ', rfl⟩
    | st => trivial
theorem Ti.then {r : SO} {ms : E σ} {Rs : σ → SO → Prop} {mk : σ → E τ} (h : Ti r ms Rs) (hk : ∀ s, Rs s r → Ti (r.then (run ss)) (mk s) R) : Ti (r.then (run ss)) (ms.bind mk) R := by
  cases ms with
  | ok s => exact hk s h
  | ex x => obtain ⟨Γ', h⟩ := h; exact ⟨Γ', by rw [h]; rfl⟩
  | st => trivial
theorem t_for {it : Ev → Out (List D)} {t : D → Ev → Option Ev} {body : Ev → SO} {mi : E (List α)} {ex : α → D} {mb : σ → α → E σ} {mk : σ → E τ} (G : σ → Ev) (s0 : σ) (hi : Si (it Γ) mi (List.map ex) (G s0)) (hb : ∀ s x, ∃ Γ2, t (ex x) (G s) = some Γ2 ∧ Ti (body Γ2) (mb s x) (Rlp G)) (hk : ∀ s, Ti (run ss (G s)) (mk s) R) : Ti (run (sFor it t body :: ss) Γ) ((mi.bind fun xs => forE mb xs s0).bind mk) R := by
  show Ti ((sFor it t body Γ).then (run ss)) _ _
  rw [bind_assoc, sFor_ap]
  refine t_sB hi fun xs => ?_
  exact (forL_ok hb xs s0).then fun s e => by rw [e]; exact hk s
theorem t_forR {it : Ev → Out (List D)} {t : D → Ev → Option Ev} {body : Ev → SO} {mi : E (List α)} {ex : α → D} {mb : σ → α → E (Fl σ ρ)} {mk : σ → E τ} {mr : ρ → E τ} {ez : ρ → Va} (G : σ → Ev) (s0 : σ) (hi : Si (it Γ) mi (List.map ex) (G s0)) (hb : ∀ s x, ∃ Γ2, t (ex x) (G s) = some Γ2 ∧ Ti (body Γ2) (mb s x) (RlpR G ez)) (hk : ∀ s, Ti (run ss (G s)) (mk s) R) (hr : ∀ v Γ, Ti (.rt (ez v) Γ) (mr v) R) : Ti (run (sFor it t body :: ss) Γ) ((mi.bind fun xs => forR mb xs s0).bind (Sum.elim mk mr)) R := by
  show Ti ((sFor it t body Γ).then (run ss)) _ _
  rw [bind_assoc, sFor_ap]
  refine t_sB hi fun xs => ?_
  refine (forLR_ok hb xs s0).then fun q e => ?_
  cases q with
  | inl s => rw [show _ = SO.nx (G s) from e]; exact hk s
  | inr v => obtain ⟨Γ', e⟩ := e; rw [e]; exact hr v Γ'
theorem while_ok {c : Ev → Out Bool} {body : Ev → SO} {mc : σ → E Bool} {mb : σ → E σ} {G : σ → Ev} (hc : ∀ s, Si (c (G s)) (mc s) id (G s)) (hb : ∀ s, Ti (body (G s)) (mb s) (Rlp G)) : ∀ (n : Nat) (s : σ), Ti (sWhile c body n (G s)) (whileE mc mb n s) (fun s r => r = .nx (G s))
  | 0, s => trivial
  | n + 1, s => by
    have ih := while_ok hc hb n
    unfold sWhile whileE
    have h := hc s
    cases hm : mc s with
    | ok k =>
      rw [hm] at h
      rw [show c (G s) = .ok k (G s) from h, sB_ok, ok_bind]
      cases k with
      | true =>
        rw [if_pos rfl, if_pos rfl]
        have h2 := hb s
        cases hm2 : mb s with
        | ok s1 => rw [hm2] at h2; rcases h2 with h2 | h2 <;> (rw [h2]; exact ih s1)
        | ex x => rw [hm2] at h2; obtain ⟨Γ', h2⟩ := h2; rw [h2]; exact ⟨Γ', rfl⟩
        | st => trivial
      | false => rw [if_neg Bool.false_ne_true, if_neg Bool.false_ne_true]; rfl
    | ex x => rw [hm] at h; obtain ⟨Γ', h⟩ := h; rw [h]; exact ⟨Γ', rfl⟩
    | st => trivial
theorem whileR_ok {c : Ev → Out Bool} {body : Ev → SO} {mc : σ → E Bool} {mb : σ → E (Fl σ ρ)} {G : σ → Ev} {ez : ρ → Va} (hc : ∀ s, Si (c (G s)) (mc s) id (G s)) (hb : ∀ s, Ti (body (G s)) (mb s) (RlpR G ez)) : ∀ (n : Nat) (s : σ), Ti (sWhile c body n (G s)) (whileR mc mb n s) (fun q r => match q with | .inl s => r = .nx (G s) | .inr v => ∃ Γ, r = .rt (ez v) Γ)
  | 0, s => trivial
  | n + 1, s => by
    have ih := whileR_ok hc hb n
    unfold sWhile whileR
    have h := hc s
    cases hm : mc s with
    | ok k =>
      rw [hm] at h
      rw [show c (G s) = .ok k (G s) from h, sB_ok, ok_bind]
      cases k with
      | true =>
        rw [if_pos rfl, if_pos rfl]
        have h2 := hb s
        cases hm2 : mb s with
        | ok q =>
          rw [hm2] at h2
          cases q with
          | nx s1 => rcases h2 with h2 | h2 <;> (rw [h2]; exact ih s1)
          | bk s1 => rw [show body (G s) = _ from h2]; rfl
          | rt v => obtain ⟨Γ', h2⟩ := h2; rw [h2]; exact ⟨Γ', rfl⟩
        | ex x => rw [hm2] at h2; obtain ⟨Γ', h2⟩ := h2; rw [h2]; exact ⟨Γ', rfl⟩
        | st => trivial
      | false => rw [if_neg Bool.false_ne_true, if_neg Bool.false_ne_true]; rfl
    | ex x => rw [hm] at h; obtain ⟨Γ', h⟩ := h; rw [h]; exact ⟨Γ', rfl⟩
    | st => trivial
theorem t_while {c : Ev → Out Bool} {body : Ev → SO} {mc : σ → E Bool} {mb : σ → E σ} {mk : σ → E τ} {n : Nat} (G : σ → Ev) (s0 : σ) (h0 : Γ = G s0) (hc : ∀ s, Si (c (G s)) (mc s) id (G s)) (hb : ∀ s, Ti (body (G s)) (mb s) (Rlp G)) (hk : ∀ s, Ti (run ss (G s)) (mk s) R) : Ti (run (sWhile c body n :: ss) Γ) ((whileE mc mb n s0).bind mk) R := by
  subst h0
  exact (while_ok hc hb n s0).then fun s e => by rw [e]; exact hk s
theorem t_whileR {c : Ev → Out Bool} {body : Ev → SO} {mc : σ → E Bool} {mb : σ → E (Fl σ ρ)} {mk : σ → E τ} {mr : ρ → E τ} {ez : ρ → Va} {n : Nat} (G : σ → Ev) (s0 : σ) (h0 : Γ = G s0) (hc : ∀ s, Si (c (G s)) (mc s) id (G s)) (hb : ∀ s, Ti (body (G s)) (mb s) (RlpR G ez)) (hk : ∀ s, Ti (run ss (G s)) (mk s) R) (hr : ∀ v Γ, Ti (.rt (ez v) Γ) (mr v) R) : Ti (run (sWhile c body n :: ss) Γ) ((whileR mc mb n s0).bind (Sum.elim mk mr)) R := by
  subst h0
  refine (whileR_ok hc hb n s0).then fun q e => ?_
  cases q with
  | inl s => rw [show _ = SO.nx (G s) from e]; exact hk s
  | inr v => obtain ⟨Γ', e⟩ := e; rw [e]; exact hr v Γ'
theorem t_pre {is : List Nat} (h : Ti (run (a :: ss) (wipeG Γ is)) mt R) : Ti (run (sPre is a :: ss) Γ) mt R := h
theorem hr_f {ez : ρ → Va} (v : ρ) (Γ : Ev) : Ti (.rt (ez v) Γ) (.ok v) (Rf ez) := .inl ⟨Γ, rfl⟩
theorem hr_l {is : List Nat} {G : σ → Ev} {ez : ρ → Va} (v : ρ) (Γ : Ev) : Ti (.rt (ez v) Γ) (.ok (.rt v)) (RwR is G ez) := ⟨Γ, rfl⟩
/-! other statements -/
theorem t_tgt {t : D → Ev → Option Ev} (G : α → Ev) (h : Si (f Γ) m e Γ1) (ht : ∀ a, t (e a) Γ1 = some (G a)) (hk : ∀ a, Ti (run ss (G a)) (mk a) R) : Ti (run (sTgt t f :: ss) Γ) (m.bind mk) R := by
  show Ti ((sTgt t f Γ).then (run ss)) _ _
  rw [sTgt_ap]
  refine t_sB h fun a => ?_
  rw [ht]
  exact hk a
theorem t_aug {op : D → D → Option Va} {e0 : β → D} {e2 : γ → D} {mo : β → α → E γ} {mk : γ → E τ} (i : Nat) (x : β) (hx : Γ[i]? = some (some (.z, e0 x))) (h : Si (f Γ) m e Γ1) (ho : ∀ b, R0 (op (e0 x) (e b)) (mo x b) (vs .z e2)) (hk : ∀ a, Ti (run ss (Γ1.set i (some (.z, e2 a)))) (mk a) R) : Ti (run (sAug i op f :: ss) Γ) ((m.bind fun b => mo x b).bind mk) R := by
  show Ti ((sAug i op f Γ).then (run ss)) _ _
  unfold sAug
  rw [hx]
  dsimp only
  rw [bind_assoc]
  refine t_sB h fun b => ?_
  have h2 := ho b
  cases hm : mo x b with
  | ok z => rw [hm] at h2; rw [show op (e0 x) (e b) = some (vs .z e2 z) from h2]; exact hk z
  | ex y => rw [hm] at h2; exact h2.elim
  | st => trivial
def appE (xs : List α) (x : α) : E (List α) := chk (xs.length < 16777216) (xs ++ [x])
def isl (o : Option (Option Va)) : Prop := ∃ ds, o = some (some (.l .z, .list ds))
theorem t_app {mk : List α → E τ} (i : Nat) (e : α → D) (xs : List α) (h0 : isl (Γ[i]?)) (h : Si (f Γ) m e Γ1) (h1 : Γ1[i]? = some (some (.l .z, eL e xs))) (hk : ∀ ys, Ti (run ss (Γ1.set i (some (.l .z, eL e ys)))) (mk ys) R) : Ti (run (sExp (fMt i mAppend (fsC f fsN)) :: ss) Γ) (m.bind fun x => (appE xs x).bind mk) R := by
  show Ti ((sExp _ Γ).then (run ss)) _ _
  obtain ⟨ds, h0⟩ := h0
  rw [sExp_ap, fMt_ap, h0, mtS_l]
  cases m with
  | ok x =>
    rw [show fsC f fsN Γ = .ok [e x] Γ1 from f_1 (m := .ok x) h, bind_ok, h1, ok_bind]
    unfold appE chk
    split
    · rename_i c
      show Ti ((sB (mtE (some (some (.l .z, .list (xs.map e)))) i mAppend [e x] Γ1) _).then _) _ _
      rw [mtE_l]
      have : mAppend (xs.map e) [e x] = some (.none, (xs ++ [x]).map e) := by
        show (if (xs.map e).length < 16777216 then some (PyData.none, xs.map e ++ [e x]) else none) = _
        rw [List.length_map, if_pos c, List.map_append]
        rfl
      rw [this]
      exact hk _
    · trivial
  | ex x => obtain ⟨Γ', h⟩ := h; exact ⟨Γ', by rw [fsC_ap, h]; rfl⟩
  | st => trivial
/-- pop -/
@[irreducible] def popE (xs : List α) (k : Int) : E (α × List α) := if -(2 ^ 63) ≤ k ∧ k < 2 ^ 63 then (match seqIndex? k xs.length with | some j => (match xs[j]? with | some a => .ok (a, xs.eraseIdx j) | none => .st) | none => .st) else .st
def pop0E (xs : List α) : E (α × List α) := match xs[xs.length - 1]? with | some a => .ok (a, xs.dropLast) | none => .st
theorem mpop_ok {xs : List α} {k : Int} {p : α × List α} (h : popE xs k = .ok p) : mPop (xs.map e) [.int k] = some (e p.1, p.2.map e) := by
  unfold popE at h
  unfold mPop
  dsimp only
  split at h
  · rename_i c
    rw [if_pos c, List.length_map]
    split at h
    · rename_i j hj
      rw [hj]
      split at h
      · rename_i a ha
        cases h
        simp only [Option.bind_some, List.getElem?_map, ha, Option.map_some, erase_map]
      · cases h
    · cases h
  · cases h
theorem popE_nex (xs : List α) (k : Int) (x : Exc) : popE xs k ≠ .ex x := by
  unfold popE
  split
  · split
    · split <;> exact fun h => by cases h
    · exact fun h => by cases h
  · exact fun h => by cases h
/-- f: a pop's value; the list left stands in the slot -/
def Sg (r : Out β) (m : E α) (e : α → β) (G : α → Ev) : Prop := match m with | .ok a => r = .ok (e a) (G a) | .ex x => ∃ Γ, r = .ex x Γ | .st => True
theorem g_pop {mk : E Int} (j : Nat) (e : α → D) (xs : List α) (h0 : isl (Γ[j]?)) (h : Si (f Γ) mk eI Γ1) (h1 : Γ1[j]? = some (some (.l .z, eL e xs))) : Sg (fMt j mPop (fsC f fsN) Γ) (mk.bind fun k => popE xs k) (fun p => e p.1) (fun p => Γ1.set j (some (.l .z, eL e p.2))) := by
  obtain ⟨ds, h0⟩ := h0
  rw [fMt_ap, h0, mtS_l]
  cases mk with
  | ok k =>
    rw [show fsC f fsN Γ = .ok [.int k] Γ1 from f_1 (m := .ok k) h, bind_ok, h1, ok_bind]
    cases hp : popE xs k with
    | ok p =>
      show mtE (some (some (.l .z, .list (xs.map e)))) j mPop [.int k] Γ1 = _
      rw [mtE_l, mpop_ok hp]
      rfl
    | ex x => exact absurd hp (popE_nex _ _ _)
    | st => trivial
  | ex x => obtain ⟨Γ', h⟩ := h; exact ⟨Γ', by rw [fsC_ap, h]; rfl⟩
  | st => trivial
theorem g_pop0 (j : Nat) (e : α → D) (xs : List α) (h1 : Γ[j]? = some (some (.l .z, eL e xs))) : Sg (fMt j mPop0 fsN Γ) (pop0E xs) (fun p => e p.1) (fun p => Γ.set j (some (.l .z, eL e p.2))) := by
  rw [fMt_ap, h1]
  show Sg (mtS (some (some (.l .z, .list (xs.map e)))) _) _ _ _
  rw [mtS_l, fsN_ap, bind_ok, h1]
  unfold pop0E
  split
  · rename_i a ha
    show mtE (some (some (.l .z, .list (xs.map e)))) j mPop0 [] Γ = _
    rw [mtE_l]
    have : mPop0 (xs.map e) [] = some (e a, xs.dropLast.map e) := by
      unfold mPop0
      simp only [List.length_map, List.getElem?_map, ha, Option.map_some, List.map_dropLast]
    rw [this]
    rfl
  · trivial
theorem t_asgG {r : Ev → Out D} {G : α → Ev} (i : Nat) (h : Sg (r Γ) m e G) (hk : ∀ a, Ti (run ss ((G a).set i (some (.z, e a)))) (mk a) R) : Ti (run (sAsg i (vF r) :: ss) Γ) (m.bind mk) R := by
  show Ti ((sAsg i (vF r) Γ).then (run ss)) _ _
  rw [sAsg_ap, vF_ap]
  cases m with
  | ok a => rw [show r Γ = .ok (e a) (G a) from h]; exact hk a
  | ex x => obtain ⟨Γ', h⟩ := h; exact ⟨Γ', by rw [h]; rfl⟩
  | st => trivial
theorem t_expG {r : Ev → Out D} {G : α → Ev} (h : Sg (r Γ) m e G) (hk : ∀ a, Ti (run ss (G a)) (mk a) R) : Ti (run (sExp r :: ss) Γ) (m.bind mk) R := by
  show Ti ((sExp r Γ).then (run ss)) _ _
  rw [sExp_ap]
  cases m with
  | ok a => rw [show r Γ = .ok (e a) (G a) from h]; exact hk a
  | ex x => obtain ⟨Γ', h⟩ := h; exact ⟨Γ', by rw [h]; rfl⟩
  | st => trivial
/-- xs.append(ys.pop(..)) -/
theorem t_appG {r : Ev → Out D} {G : β → Ev} {mp : E β} {v : β → α} {mk : β → List α → E τ} (i : Nat) (e : α → D) (xs : List α) (h0 : isl (Γ[i]?)) (h : Sg (r Γ) mp (fun p => e (v p)) G) (h1 : ∀ p, (G p)[i]? = some (some (.l .z, eL e xs))) (hk : ∀ p ys, Ti (run ss ((G p).set i (some (.l .z, eL e ys)))) (mk p ys) R) : Ti (run (sExp (fMt i mAppend (fsC r fsN)) :: ss) Γ) (mp.bind fun p => (appE xs (v p)).bind (mk p)) R := by
  cases mp with
  | ok p => exact t_app (m := .ok (v p)) i e xs h0 h (h1 p) (hk p)
  | ex x =>
    obtain ⟨ds, h0⟩ := h0
    obtain ⟨Γ', h⟩ := h
    refine ⟨Γ', ?_⟩
    show (sExp _ Γ).then _ = _
    rw [sExp_ap, fMt_ap, h0, mtS_l, fsC_ap, h]
    rfl
  | st => trivial
/-- methods that give nothing back -/
theorem t_mt {op : List D → List D → Option (D × List D)} {fs : Ev → Out (List D)} {es : β → List D} {ms : E β} {mo : List α → β → E (List α)} {mk : List α → E τ} (i : Nat) (e : α → D) (xs : List α) (h0 : isl (Γ[i]?)) (h : Si (fs Γ) ms es Γ1) (h1 : Γ1[i]? = some (some (.l .z, eL e xs))) (ho : ∀ b, R0 (op (xs.map e) (es b)) (mo xs b) (fun ys => (PyData.none, ys.map e))) (hk : ∀ ys, Ti (run ss (Γ1.set i (some (.l .z, eL e ys)))) (mk ys) R) : Ti (run (sExp (fMt i op fs) :: ss) Γ) (ms.bind fun b => (mo xs b).bind mk) R := by
  show Ti ((sExp _ Γ).then (run ss)) _ _
  obtain ⟨ds, h0⟩ := h0
  rw [sExp_ap, fMt_ap, h0, mtS_l]
  cases ms with
  | ok b =>
    rw [show fs Γ = .ok (es b) Γ1 from h, bind_ok, h1, ok_bind]
    have h2 := ho b
    cases hm : mo xs b with
    | ok ys =>
      rw [hm] at h2
      show Ti ((sB (mtE (some (some (.l .z, .list (xs.map e)))) i op (es b) Γ1) _).then _) _ _
      rw [mtE_l, show op (xs.map e) (es b) = some (.none, ys.map e) from h2]
      exact hk ys
    | ex x => rw [hm] at h2; exact h2.elim
    | st => trivial
  | ex x => obtain ⟨Γ', h⟩ := h; exact ⟨Γ', by rw [h]; rfl⟩
  | st => trivial
/-- xs[k] = v -/
def setE (xs : List α) (k : Int) (x : α) : E (List α) := match L2.ixN xs.length k with | some j => .ok (xs.set j x) | none => .st
theorem t_set {fv fk : Ev → Out D} {mx : E α} {mi : E Int} {mk : List α → E τ} (i : Nat) (e : α → D) (xs : List α) (hv : Si (fv Γ) mx e Γ1) (h0 : isl (Γ1[i]?)) (hi : Si (fk Γ1) mi eI Γ2) (h1 : Γ2[i]? = some (some (.l .z, eL e xs))) (hk : ∀ ys, Ti (run ss (Γ2.set i (some (.l .z, eL e ys)))) (mk ys) R) : Ti (run (sSet i fv fk :: ss) Γ) (mx.bind fun x => mi.bind fun k => (setE xs k x).bind mk) R := by
  show Ti ((sSet i fv fk Γ).then (run ss)) _ _
  obtain ⟨ds, h0⟩ := h0
  rw [set_ap]
  refine t_sB hv fun x => ?_
  rw [h0, setS_l]
  refine t_sB hi fun k => ?_
  rw [h1]
  unfold TM.setE
  split
  · rename_i j hj
    rw [ok_bind]
    show Ti ((PV.setE i (e x) (some (some (.l .z, .list (xs.map e)))) (.int k) Γ2).then _) _ _
    rw [setE_l (j := j) (by rw [List.length_map]; exact hj)]
    have : (xs.map e).set j (e x) = (xs.set j x).map e := by rw [List.map_set]
    rw [this]
    exact hk _
  · trivial
/-! try -/
def tryE (t : Str → Option Bool) (r : E α) (k : α → E τ) (h : Exc → E τ) : E τ := match r with
  | .ok a => k a
  | .ex x => (match t x.c with | some true => if x.fs.isEmpty = true then (h x).nex else .st | some false => .ex x | none => .st)
  | .st => .st
theorem sClr_rt {i : Nat} {x : Va} {Γ : Ev} : sClr i (.rt x Γ) = .rt x (Γ.set i none) := id rfl
theorem sClr_nx {i : Nat} {Γ : Ev} : sClr i (.nx Γ) = .nx (Γ.set i none) := id rfl
/-- a call in a try, the handler returns -/
theorem t_tryC {t : Str → Option Bool} {i n : Nat} {F : List D → Res} {fs : Ev → Out (List D)} {hs : Addr → Exc → Ev → SO} {ms : E β} {es : β → List D} {M : β → E γ} {ez : γ → Va} {mk : γ → E τ} {mh : Exc → E τ} (hfs : Si (fs Γ) ms es Γ) (hF : ∀ a, Sd (F (es a)) (M a) ez) (hl : ∀ a, (es a).length = n)
    (hk : ∀ a, Ti (run ss Γ) (mk a) R) (hh : ∀ x, Ti ((sClr i (hs 0 x (Γ.set i (some (.z, rawD 0))))).then (run ss)) (mh x).nex R) : Ti (run (sTryA t i (sExp (fV (fCall n F fs))) hs :: ss) Γ) (ms.nex.bind fun a => tryE t (M a) mk mh) R := by
  show Ti ((sTryA _ _ _ _ Γ).then (run ss)) _ _
  unfold sTryA
  cases ms with
  | ok a =>
    rw [nex_ok, ok_bind, sExp_ap, fV_ap, fCall_ap, show fs Γ = .ok (es a) Γ from hfs, bind_ok, if_pos (hl a)]
    have h := (hF a).run
    unfold tryE
    cases hM : M a with
    | ok z => rw [hM] at h; rw [show F (es a) = .ok (ez z) from h]; exact hk z
    | ex x =>
      rw [hM] at h
      rw [show F (es a) = .ex x from h]
      show Ti ((tryA t i hs (.ex x Γ)).then _) _ _
      unfold tryA
      dsimp only
      cases ht : t x.c with
      | none => trivial
      | some b => cases b with
        | false => exact ⟨Γ, rfl⟩
        | true =>
          dsimp only
          cases hx : x.fs.isEmpty with
          | true => exact hh x
          | false => trivial
    | st => trivial
  | ex x => trivial
  | st => trivial
theorem h_ret {ρ : Type} {mv : E ρ} {ez : ρ → Va} {hs : Ev → SO} {i : Nat} (h : Ti (hs Γ) mv (fun v r => ∃ Γ', r = .rt (ez v) Γ')) : Ti ((sClr i (hs Γ)).then (run ss)) mv.nex (Rf ez) := by
  cases mv with
  | ok v => obtain ⟨Γ', h⟩ := h; rw [h, sClr_rt]; exact .inl ⟨_, rfl⟩
  | ex x => trivial
  | st => trivial
theorem h_retL {ρ : Type} {mv : E ρ} {ez : ρ → Va} {hs : Ev → SO} {i : Nat} {is : List Nat} {G : σ → Ev} (h : Ti (hs Γ) mv (fun v r => ∃ Γ', r = .rt (ez v) Γ')) : Ti ((sClr i (hs Γ)).then (run ss)) (mv.bind fun v => .ok (Fl.rt v)).nex (RwR is G ez) := by
  cases mv with
  | ok v => obtain ⟨Γ', h⟩ := h; rw [h, sClr_rt]; exact ⟨_, rfl⟩
  | ex x => trivial
  | st => trivial
theorem h_r {ρ : Type} {mv : E ρ} {ez : ρ → Va} (h : Si (u Γ) mv ez Γ1) : Ti (sRet u Γ) mv (fun v r => ∃ Γ', r = .rt (ez v) Γ') := by
  cases mv with
  | ok a => exact ⟨Γ1, by show sB (u Γ) _ = _; rw [show u Γ = _ from h]; rfl⟩
  | ex x => obtain ⟨Γ', h⟩ := h; exact ⟨Γ', by show sB (u Γ) _ = _; rw [h]; rfl⟩
  | st => trivial
theorem j_isx {isx : Str → Option Bool} {i : Nat} {x : Exc} (h : Γ[i]? = some (some (.z, rawD 0))) : Si (fIsX i isx 0 x Γ) (E.ofO (isx x.c)) eB Γ := by
  unfold fIsX
  rw [h]
  show Si (rawS 0 (some (some (.z, .dict [(.none, .int ((0 : Nat) : Int))]))) _) _ _ _
  unfold rawS
  dsimp only
  rw [if_pos rfl]
  cases isx x.c with
  | none => trivial
  | some b => rfl
/-- the def as a whole -/
theorem d_ok {n k : Nat} {fb : Ev → SO} {ds : List D} {Γ0 : Ev} {ms : E ρ} {ez : ρ → Va} (hl : ds.length = k) (h0 : st0 n ds = Γ0) (h : Ti (run [fb] Γ0) ms (Rf ez)) : Sr (runD n k fb ds) ms ez := by
  have hn : (fb Γ0).then (run []) = fb Γ0 := by cases fb Γ0 <;> rfl
  change Ti ((fb Γ0).then (run [])) _ _ at h
  rw [hn] at h
  unfold runD
  rw [if_pos hl, h0]
  cases ms with
  | ok v =>
    rcases h with ⟨Γ', h⟩ | ⟨⟨Γ', h⟩, e⟩
    · rw [h]; rfl
    · rw [h]; show Res.ok (.z, .none) = .ok (ez v); rw [e]
  | ex x => obtain ⟨Γ', h⟩ := h; rw [h]; rfl
  | st => trivial
theorem Sr.eq {r : Res} {ms ms' : E ρ} {ez : ρ → Va} (h : Sr r ms ez) (q : ms = ms') : Sr r ms' ez := q ▸ h
end
end TM
namespace TM
open PySem PV
section
variable {α β γ : Type}
/-! ### operators -/
def mulE (a b : Int) : E Int := chk (mulOk a b = true) (a * b)
def divE (a b : Int) : E Int := chk (0 < b ∧ b < 2 ^ 64) (a / b)
def modE (a b : Int) : E Int := chk (0 < b) (a % b)
def powE (a b : Int) : E Int := chk (0 ≤ b ∧ b ≤ 1000000 ∧ a.natAbs < 2 ^ 64) (a ^ b.toNat)
def shlE (a b : Int) : E Int := chk (0 ≤ b ∧ b ≤ 1000000 ∧ a.natAbs < 2 ^ 64) (a * 2 ^ b.toNat)
def shrE (a b : Int) : E Int := chk (0 ≤ b) (a / 2 ^ b.toNat)
def catE (xs ys : List α) : E (List α) := chk (xs.length + ys.length ≤ 16777216) (xs ++ ys)
def addSE (a b : Str) : E Str := chk (a.length + b.length ≤ 16777216) (a ++ b)
def repE (xs : List α) (n : Int) : E (List α) := chk (0 ≤ n ∧ n < 2 ^ 63 ∧ xs.length * n.toNat ≤ 16777216) (List.replicate n.toNat xs).flatten
def ixE (xs : List α) (i : Int) : E α := match L2.atI xs i with | some a => .ok a | none => .st
def ixSE (z : Str) (i : Int) : E Str := if z.length ≤ 16777216 then (match L2.atI z.cps.toList i with | some c => .ok ⟨#[c]⟩ | none => .st) else .st
def lenSE (z : Str) : E Int := chk (z.length ≤ 16777216) (z.length : Int)
def b2i (b : Bool) : Int := if b = true then 1 else 0
def intSE (a : Str) : E Int := if a.length ≤ 640 then E.ofO (PySem.intText? a) else .st
def maxE (xs : List Int) : E Int := match xs with | n :: ns => .ok (maxI n ns) | [] => .st
def minE (xs : List Int) : E Int := match xs with | n :: ns => .ok (minI n ns) | [] => .st
def imax (a b : Int) : Int := if a < b then b else a
def imin (a b : Int) : Int := if b < a then b else a
def cutSE (z : Str) (lo hi : Option Int) : E Str := chk (z.length ≤ 16777216) (L2.cutS z lo hi)

variable {e : α → D} {e1 : β → D}
theorem R0.chk {c : Prop} [Decidable c] {x y : β} {a : α} {f : α → β} (h : y = f a) : R0 (if c then some y else none) (chk c a) f := by
  unfold TM.chk
  split
  · exact congrArg some h
  · trivial
theorem q_add (a b : Int) : R0 (dAdd (eI a) (eI b)) (.ok (a + b)) (vs .z eI) := rfl
theorem q_addi (a b : Int) : R0 (dAddI (eI a) (eI b)) (.ok (a + b)) (vs .z eI) := rfl
theorem q_sub (a b : Int) : R0 (dSub (eI a) (eI b)) (.ok (a - b)) (vs .z eI) := rfl
theorem q_addS (a b : Str) : R0 (dAdd (eS a) (eS b)) (addSE a b) (vs .z eS) := by
  show R0 (if _ then _ else _) (TM.chk _ _) _
  unfold TM.chk
  split <;> first | rfl | trivial
theorem q_addL (a b : List α) : R0 (dAdd (eL e a) (eL e b)) (catE a b) (vs (.l .z) (eL e)) := by
  show R0 (if (a.map e).length + (b.map e).length ≤ 16777216 then _ else _) (TM.chk _ _) _
  unfold TM.chk
  rw [List.length_map, List.length_map]
  split
  · show some _ = some _; rw [← List.map_append]; rfl
  · trivial
theorem q_addT (a b : List α) : R0 (dAdd (eT e a) (eT e b)) (catE a b) (vs .z (eT e)) := by
  show R0 (if (a.map e).length + (b.map e).length ≤ 16777216 then _ else _) (TM.chk _ _) _
  unfold TM.chk
  rw [List.length_map, List.length_map]
  split
  · show some _ = some _; rw [← List.map_append]; rfl
  · trivial
theorem q_rep (a : List α) (n : Int) : R0 (dMul (eL e a) (eI n)) (repE a n) (vs (.l .z) (eL e)) := by
  show R0 (if 0 ≤ n ∧ n < 2 ^ 63 ∧ (a.map e).length * n.toNat ≤ 16777216 then _ else _) (TM.chk _ _) _
  unfold TM.chk
  rw [List.length_map]
  split
  · show some _ = some _
    have : (List.replicate n.toNat (a.map e)).flatten = ((List.replicate n.toNat a).flatten).map e := by
      rw [List.map_flatten, List.map_replicate]
    rw [this]; rfl
  · trivial
theorem q_mul (a b : Int) : R0 (dMul (eI a) (eI b)) (mulE a b) (vs .z eI) := by
  show R0 (if _ then _ else _) (TM.chk _ _) _
  unfold TM.chk
  split <;> first | rfl | trivial
theorem q_mulr {a b : Int} (h : b.natAbs < 2 ^ 64) : R0 (dMul (eI a) (eI b)) (.ok (a * b)) (vs .z eI) := if_pos (by unfold mulOk; rw [decide_eq_true h, Bool.or_true])
theorem q_mull {a b : Int} (h : a.natAbs < 2 ^ 64) : R0 (dMul (eI a) (eI b)) (.ok (a * b)) (vs .z eI) := if_pos (by unfold mulOk; rw [decide_eq_true h, Bool.true_or])
theorem q_div (a b : Int) : R0 (dDiv (eI a) (eI b)) (divE a b) (vs .z eI) := by
  show R0 (if _ then _ else _) (TM.chk _ _) _
  unfold TM.chk
  split <;> first | rfl | trivial
theorem q_divr {a b : Int} (h : 0 < b ∧ b < 2 ^ 64) : R0 (dDiv (eI a) (eI b)) (.ok (a / b)) (vs .z eI) := if_pos h
theorem q_mod (a b : Int) : R0 (dMod (eI a) (eI b)) (modE a b) (vs .z eI) := by
  show R0 (if _ then _ else _) (TM.chk _ _) _
  unfold TM.chk
  split <;> first | rfl | trivial
theorem q_modr {a b : Int} (h : 0 < b) : R0 (dMod (eI a) (eI b)) (.ok (a % b)) (vs .z eI) := if_pos h
theorem q_pow (a b : Int) : R0 (dPow (eI a) (eI b)) (powE a b) (vs .z eI) := by
  show R0 (if _ then _ else _) (TM.chk _ _) _
  unfold TM.chk
  split <;> first | rfl | trivial
theorem q_powl {a b : Int} (h : 0 ≤ b ∧ b ≤ 1000000 ∧ a.natAbs < 2 ^ 64) : R0 (dPow (eI a) (eI b)) (.ok (a ^ b.toNat)) (vs .z eI) := if_pos h
theorem q_shl (a b : Int) : R0 (dShl (eI a) (eI b)) (shlE a b) (vs .z eI) := by
  show R0 (if _ then _ else _) (TM.chk _ _) _
  unfold TM.chk
  split <;> first | rfl | trivial
theorem q_shr (a b : Int) : R0 (dShr (eI a) (eI b)) (shrE a b) (vs .z eI) := by
  show R0 (if _ then _ else _) (TM.chk _ _) _
  unfold TM.chk
  split <;> first | rfl | trivial
theorem q_and (a b : Int) : R0 (dAnd (eI a) (eI b)) (.ok (Builtin.bitAnd a b)) (vs .z eI) := rfl
/-! comparisons -/
theorem q_eqI (a b : Int) : R0 (dEq (eI a) (eI b)) (.ok (decide (a = b))) (vs .z eB) := rfl
theorem q_neI (a b : Int) : R0 (dNe (eI a) (eI b)) (.ok (!decide (a = b))) (vs .z eB) := rfl
theorem q_eqB (a b : Bool) : R0 (dEq (eB a) (eB b)) (.ok (decide (a = b))) (vs .z eB) := rfl
theorem q_neB (a b : Bool) : R0 (dNe (eB a) (eB b)) (.ok (!decide (a = b))) (vs .z eB) := rfl
theorem q_eqS (a b : Str) : R0 (dEq (eS a) (eS b)) (.ok (decide (a = b))) (vs .z eB) := rfl
theorem q_neS (a b : Str) : R0 (dNe (eS a) (eS b)) (.ok (!decide (a = b))) (vs .z eB) := rfl
theorem q_lt (a b : Int) : R0 (dLt (eI a) (eI b)) (.ok (decide (a < b))) (vs .z eB) := rfl
theorem q_gt (a b : Int) : R0 (dGt (eI a) (eI b)) (.ok (decide (b < a))) (vs .z eB) := rfl
theorem q_le (a b : Int) : R0 (dLe (eI a) (eI b)) (.ok (decide (a ≤ b))) (vs .z eB) := rfl
theorem q_ge (a b : Int) : R0 (dGe (eI a) (eI b)) (.ok (decide (b ≤ a))) (vs .z eB) := rfl
theorem q_isN (a : Option α) (u : Unit) (h : ∀ a, e a ≠ .none) : R0 (dIs (eO e a) (eN u)) (.ok a.isNone) (vs .z eB) := by
  cases a with
  | none => rfl
  | some a =>
    show dIs (e a) .none = _
    have := h a
    unfold dIs
    split
    · rename_i h1 h2
      cases hz : e a with
      | none => exact absurd hz this
      | _ => rfl
    · rename_i h1; exact (h1 rfl).elim
theorem q_isntN (a : Option α) (u : Unit) (h : ∀ a, e a ≠ .none) : R0 (dIsnt (eO e a) (eN u)) (.ok a.isSome) (vs .z eB) := by
  cases a with
  | none => rfl
  | some a =>
    show dIsnt (e a) .none = _
    have := h a
    unfold dIsnt
    split
    · rename_i h1 h2
      cases hz : e a with
      | none => exact absurd hz this
      | _ => rfl
    · rename_i h1; exact (h1 rfl).elim
/-! items -/
theorem atI_map (f : α → β) (xs : List α) (i : Int) : L2.atI (xs.map f) i = (L2.atI xs i).map f := by
  unfold L2.atI
  rw [List.length_map]
  cases L2.ixN xs.length i with
  | none => rfl
  | some j => show (xs.map f)[j]? = (xs[j]?).map f; rw [List.getElem?_map]
theorem q_ixL (xs : List α) (i : Int) : R0 (dAt (eL e xs) (eI i)) (ixE xs i) (vs .z e) := by
  show R0 ((L2.atI (xs.map e) i).map _) _ _
  rw [atI_map]
  unfold ixE
  cases L2.atI xs i <;> first | rfl | trivial
theorem q_ixT (xs : List α) (i : Int) : R0 (dAt (eT e xs) (eI i)) (ixE xs i) (vs .z e) := by
  show R0 ((L2.atI (xs.map e) i).map _) _ _
  rw [atI_map]
  unfold ixE
  cases L2.atI xs i <;> first | rfl | trivial
theorem q_ixScr (xs : List Int) (i : Int) : R0 (dAt (eScr xs) (eI i)) (ixE xs i) (vs .z eI) := by
  show R0 ((L2.atI (xs.map eI) i).map _) _ _
  rw [atI_map]
  unfold ixE
  cases L2.atI xs i <;> first | rfl | trivial
theorem q_ixS (z : Str) (i : Int) : R0 (dAt (eS z) (eI i)) (ixSE z i) (vs .z eS) := by
  show R0 (if z.length ≤ 16777216 then _ else _) _ _
  unfold ixSE
  split
  · cases L2.atI z.cps.toList i <;> first | rfl | trivial
  · trivial
theorem q_proj {α : Type} {es : α → List D} {e1 : β → D} {f : α → β} (j : Nat) (k : Int) (hk : ∀ n, j < n → L2.ixN n k = some j) (h : ∀ p, (es p)[j]? = some (e1 (f p))) (p : α) : R0 (dAt (eP es p) (eI k)) (.ok (f p)) (vs .z e1) := by
  show (L2.atI (es p) k).map _ = _
  have hj : j < (es p).length := by
    have := h p
    by_cases c : j < (es p).length
    · exact c
    · rw [List.getElem?_eq_none (by omega)] at this; cases this
  unfold L2.atI
  rw [hk _ hj, Option.bind_some, h]
  rfl
theorem ixn_nat (j : Nat) (n : Nat) (h : j < n) : L2.ixN n (j : Int) = some j := by
  unfold L2.ixN
  rw [if_pos (by omega), if_pos (by omega)]
  rfl
/-! built-ins -/
theorem q_lenL (xs : List α) : R0 (dLen [eL e xs]) (.ok (xs.length : Int)) (vs .z eI) := by show some _ = _; rw [List.length_map]; rfl
theorem q_lenT (xs : List α) : R0 (dLen [eT e xs]) (.ok (xs.length : Int)) (vs .z eI) := by show some _ = _; rw [List.length_map]; rfl
theorem q_lenP {es : α → List D} (n : Nat) (h : ∀ p, (es p).length = n) (p : α) : R0 (dLen [eP es p]) (.ok (n : Int)) (vs .z eI) := by show some _ = _; rw [h]; rfl
theorem q_lenS (z : Str) : R0 (dLen [eS z]) (lenSE z) (vs .z eI) := by
  show R0 (if _ then _ else _) (TM.chk _ _) _
  unfold TM.chk
  split <;> first | rfl | trivial
theorem q_lenScr (xs : List Int) : R0 (dLen [eScr xs]) (.ok (xs.length : Int)) (vs .z eI) := by show some _ = _; rw [List.length_map]; rfl
theorem q_intI (a : Int) : R0 (dIntV [eI a]) (.ok a) (vs .z eI) := rfl
theorem q_intB (a : Bool) : R0 (dIntV [eB a]) (.ok (b2i a)) (vs .z eI) := rfl
theorem q_intS (a : Str) : R0 (dIntV [eS a]) (intSE a) (vs .z eI) := by
  show R0 (if _ then _ else _) _ _
  unfold intSE
  split
  · cases PySem.intText? a <;> first | rfl | trivial
  · trivial
theorem q_sum (xs : List Int) : R0 (dSum [eL eI xs]) (.ok xs.sum) (vs .z eI) := sum_int
theorem q_max2 (a b : Int) : R0 (dMax [eI a, eI b]) (.ok (imax a b)) (vs .z eI) := rfl
theorem q_min2 (a b : Int) : R0 (dMin [eI a, eI b]) (.ok (imin a b)) (vs .z eI) := rfl
theorem q_max (xs : List Int) : R0 (dMax [eL eI xs]) (maxE xs) (vs .z eI) := by
  show R0 (match dInts (xs.map .int) with | some (n :: ns) => _ | _ => _) _ _
  rw [ints_map]
  cases xs <;> first | rfl | trivial
theorem q_min (xs : List Int) : R0 (dMin [eL eI xs]) (minE xs) (vs .z eI) := by
  show R0 (match dInts (xs.map .int) with | some (n :: ns) => _ | _ => _) _ _
  rw [ints_map]
  cases xs <;> first | rfl | trivial
theorem q_all (xs : List Bool) : R0 (dAll [eL eB xs]) (.ok (xs.all id)) (vs .z eB) := by
  show (dBools (xs.map .bool)).map _ = _
  have := bools_mapP id xs
  rw [List.map_id] at this
  show (dBools (xs.map fun b => .bool (id b))).map _ = _
  rw [this]
  rfl
theorem q_any (xs : List Bool) : R0 (dAny [eL eB xs]) (.ok (xs.any id)) (vs .z eB) := by
  show (dBools (xs.map .bool)).map _ = _
  have := bools_mapP id xs
  rw [List.map_id] at this
  show (dBools (xs.map fun b => .bool (id b))).map _ = _
  rw [this]
  rfl
theorem q_abs (a : Int) : R0 (dAbs [eI a]) (.ok (if a < 0 then -a else a)) (vs .z eI) := rfl
theorem q_listL (xs : List α) : R0 (dListOf [eL e xs]) (.ok xs) (vs (.l .z) (eL e)) := rfl
theorem q_listT (xs : List α) : R0 (dListOf [eT e xs]) (.ok xs) (vs (.l .z) (eL e)) := rfl
theorem q_tupL (xs : List α) : R0 (dTupOf [eL e xs]) (.ok xs) (vs .z (eT e)) := rfl
theorem q_tupT (xs : List α) : R0 (dTupOf [eT e xs]) (.ok xs) (vs .z (eT e)) := rfl
/-! slices -/
theorem cut_map (f : α → β) (xs : List α) (lo hi : Option Int) : cut (xs.map f) lo hi = (cut xs lo hi).map f := by
  unfold PV.cut
  rw [List.length_map, ← List.map_drop, ← List.map_take]
theorem q_cutL (xs : List α) (lo hi : Option Int) : R0 (dCut (eL e xs) lo hi) (.ok (cut xs lo hi)) (vs (.l .z) (eL e)) := by
  show some (Sh.l .z, PyData.list (cut (xs.map e) lo hi)) = _
  rw [cut_map]; rfl
theorem q_cutT (xs : List α) (lo hi : Option Int) : R0 (dCut (eT e xs) lo hi) (.ok (cut xs lo hi)) (vs .z (eT e)) := by
  show some (Sh.z, PyData.tuple (cut (xs.map e) lo hi)) = _
  rw [cut_map]; rfl
theorem q_cutS (z : Str) (lo hi : Option Int) : R0 (dCut (eS z) lo hi) (cutSE z lo hi) (vs .z eS) := by
  show R0 (if _ then _ else _) (TM.chk _ _) _
  unfold TM.chk
  split <;> first | rfl | trivial
/-! truth -/
theorem q_truB (b : Bool) : R0 (dTru (eB b)) (.ok b) id := rfl
theorem q_truI (b : Int) : R0 (dTru (eI b)) (.ok (!decide (b = 0))) id := by
  show some (b != 0) = _
  rfl
theorem q_truL (xs : List α) : R0 (dTru (eL e xs)) (.ok (!xs.isEmpty)) id := by
  show some (!(xs.map e).isEmpty) = _
  rw [List.isEmpty_map]; rfl
theorem q_truT (xs : List α) : R0 (dTru (eT e xs)) (.ok (!xs.isEmpty)) id := by
  show some (!(xs.map e).isEmpty) = _
  rw [List.isEmpty_map]; rfl
/-! isinstance -/
theorem j_isi {Γ Γ1 : Ev} {o : Opn} {m : E α} {T : String} {c : Bool} (h : So o Γ m e Γ1 Γ1) (hd : ∀ a x, e a ≠ .dict [(.none, x)]) (ht : ∀ a, isB (tyD (e a)) T = c) : Si (fIsi T o Γ) (m.bind fun _ => .ok c) eB Γ1 := by
  rw [fIsi_ap]
  cases m with
  | ok a =>
    obtain ⟨d, q1, q2⟩ := h
    rw [q1, bind_ok, q2, Option.bind_some]
    have : dIsi T (e a) = some (.bool c) := by
      unfold dIsi
      split
      · rename_i x hx; exact absurd hx (hd a x)
      · rw [ht]
    rw [this]
    rfl
  | ex x => obtain ⟨Γ', h⟩ := h; rw [h]; exact ⟨Γ', rfl⟩
  | st => trivial
theorem j_isiO {Γ Γ1 : Ev} {o : Opn} {m : E (Option α)} {T : String} {c : Bool} (h : So o Γ m (eO e) Γ1 Γ1) (hd : ∀ a x, e a ≠ .dict [(.none, x)]) (hn : isB "NoneType" T = false) (ht : ∀ a, isB (tyD (e a)) T = c) : Si (fIsi T o Γ) (m.bind fun a => .ok (a.isSome && c)) eB Γ1 := by
  rw [fIsi_ap]
  cases m with
  | ok a =>
    obtain ⟨d, q1, q2⟩ := h
    rw [q1, bind_ok, q2, Option.bind_some]
    have : dIsi T (eO e a) = some (.bool (a.isSome && c)) := by
      cases a with
      | none => show some (PyData.bool (isB "NoneType" T)) = _; rw [hn]; rfl
      | some a =>
        show dIsi T (e a) = _
        unfold dIsi
        split
        · rename_i x hx; exact absurd hx (hd a x)
        · rw [ht]; rfl
    rw [this]
    rfl
  | ex x => obtain ⟨Γ', h⟩ := h; rw [h]; exact ⟨Γ', rfl⟩
  | st => trivial
/-! equality of data -/
structure EqE (n : Nat) (e : α → D) [DecidableEq α] : Prop where
  eqv : ∀ a b, PyData.eqv (e a) (e b) = decide (a = b)
  lay : ∀ a, (e a).canLay0 = true
  dep : ∀ a, (e a).depth ≤ n
  nn : ∀ a, e a ≠ .none
structure RwE (n : Nat) (es : α → List D) [DecidableEq α] : Prop where
  eqv : ∀ a b, PyData.eqvAll (es a) (es b) = decide (a = b)
  lay : ∀ a, PyData.canLayAll0 (es a) = true
  dep : ∀ a, PyData.depthAll (es a) ≤ n
theorem eq_I : EqE 0 eI := ⟨fun a b => rfl, fun a => by simp only [eI, PyData.canLay0], fun a => by simp only [eI, PyData.depth]; omega, fun a h => by cases h⟩
theorem eq_B : EqE 0 eB := ⟨fun a b => by cases a <;> cases b <;> rfl, fun a => by simp only [eB, PyData.canLay0], fun a => by simp only [eB, PyData.depth]; omega, fun a h => by cases h⟩
theorem rw_0 : RwE 0 n0 := ⟨fun a b => rfl, fun a => by simp only [n0, PyData.canLayAll0], fun a => by simp only [n0, PyData.depthAll]; omega⟩
section
variable [DecidableEq α] [DecidableEq β]
theorem rw_1 {n : Nat} (h : EqE n e) : RwE n (n1 e) := ⟨fun a b => by simp only [n1, PyData.eqvAll, h.eqv, Bool.and_true], fun a => by simp only [n1, PyData.canLayAll0, h.lay, Bool.and_self], fun a => by
  have := h.dep a
  simp only [n1, PyData.depthAll]; omega⟩
theorem rw_c {n m : Nat} {es : β → List D} (h : EqE n e) (hs : RwE m es) : RwE (max n m) (nc e es) := ⟨fun a b => by
    obtain ⟨a, a'⟩ := a; obtain ⟨b, b'⟩ := b
    simp only [nc, PyData.eqvAll, h.eqv, hs.eqv, Prod.mk.injEq, Bool.decide_and], fun a => by simp only [nc, PyData.canLayAll0, h.lay, hs.lay, Bool.and_self], fun a => by
  have := h.dep a.1
  have := hs.dep a.2
  simp only [nc, PyData.depthAll]; omega⟩
theorem rw_m {n : Nat} (h : EqE n e) : RwE n (List.map e) := ⟨fun a => by
    induction a with
    | nil => intro b; cases b <;> simp [PyData.eqvAll]
    | cons x xs ih => intro b; cases b with
      | nil => simp [PyData.eqvAll]
      | cons y ys => simp only [List.map_cons, PyData.eqvAll, h.eqv, ih, List.cons.injEq, Bool.decide_and], fun a => by
    induction a with
    | nil => simp only [List.map_nil, PyData.canLayAll0]
    | cons x xs ih => simp only [List.map_cons, PyData.canLayAll0, h.lay, ih, Bool.and_self], fun a => by
    induction a with
    | nil => simp only [List.map_nil, PyData.depthAll]; omega
    | cons x xs ih => have := h.dep x; simp only [List.map_cons, PyData.depthAll]; omega⟩
theorem eq_L {n : Nat} (h : EqE n e) : EqE (n + 1) (eL e) := ⟨fun a b => by simp only [eL, PyData.eqv]; exact (rw_m h).eqv a b, fun a => by simp only [eL, PyData.canLay0]; exact (rw_m h).lay a, fun a => by
  have := (rw_m h).dep a
  simp only [eL, PyData.depth]; omega, fun a h => by cases h⟩
theorem eq_T {n : Nat} (h : EqE n e) : EqE (n + 1) (eT e) := ⟨fun a b => by simp only [eT, PyData.eqv]; exact (rw_m h).eqv a b, fun a => by simp only [eT, PyData.canLay0]; exact (rw_m h).lay a, fun a => by
  have := (rw_m h).dep a
  simp only [eT, PyData.depth]; omega, fun a h => by cases h⟩
theorem eq_P {n : Nat} {es : α → List D} (h : RwE n es) : EqE (n + 1) (eP es) := ⟨fun a b => by simp only [eP, PyData.eqv]; exact h.eqv a b, fun a => by simp only [eP, PyData.canLay0]; exact h.lay a, fun a => by
  have := h.dep a
  simp only [eP, PyData.depth]; omega, fun a h => by cases h⟩
theorem eqv_none {d : D} (h : d ≠ .none) : PyData.eqv .none d = false ∧ PyData.eqv d .none = false := by
  cases d with
  | none => exact absurd rfl h
  | _ => exact ⟨by simp only [PyData.eqv], by simp only [PyData.eqv]⟩
/-- maybe nothing: where it is compared -/
theorem eqvO {n : Nat} (h : EqE n e) (a b : Option α) : PyData.eqv (eO e a) (eO e b) = decide (a = b) := by
  cases a with
  | none => cases b with
    | none => simp only [eO, PyData.eqv]; rfl
    | some b => simp only [eO, (eqv_none (h.nn b)).1]; simp
  | some a => cases b with
    | none => simp only [eO, (eqv_none (h.nn a)).2]; simp
    | some b => simp only [eO, h.eqv, Option.some.injEq]
theorem dSc_eqv {x y : D} (hx : SeqAt.shaped x = true) (hy : SeqAt.shaped y = true) : dSc x y = some (PyData.eqv x y) := by
  have h0 : dEqv x y = some (PyData.eqv x y) := by unfold dEqv; rw [hx, hy]; rfl
  unfold dSc
  split <;> first
    | exact h0
    | (simp only [PyData.eqv]; done)
    | (simp only [PyData.eqv]; rfl)
theorem shaped_of {n : Nat} {d : D} (h1 : d.canLay0 = true) (h2 : d.depth ≤ n) (h : n ≤ 64) : SeqAt.shaped d = true := by
  unfold SeqAt.shaped
  rw [h1, decide_eq_true (Nat.le_trans h2 h)]
  rfl
theorem q_eq {n : Nat} (h : EqE n e) (hn : n ≤ 64) (a b : α) : R0 (dEq (e a) (e b)) (.ok (decide (a = b))) (vs .z eB) := by
  show b2 _ = _
  rw [dSc_eqv (shaped_of (h.lay a) (h.dep a) hn) (shaped_of (h.lay b) (h.dep b) hn), h.eqv]
  rfl
theorem q_ne {n : Nat} (h : EqE n e) (hn : n ≤ 64) (a b : α) : R0 (dNe (e a) (e b)) (.ok (!decide (a = b))) (vs .z eB) := by
  show b2 (Option.map not _) = _
  rw [dSc_eqv (shaped_of (h.lay a) (h.dep a) hn) (shaped_of (h.lay b) (h.dep b) hn), h.eqv]
  rfl
theorem shapedO {n : Nat} (h : EqE n e) (hn : n ≤ 64) (a : Option α) : SeqAt.shaped (eO e a) = true := by
  cases a with
  | none => show SeqAt.shaped PyData.none = true; decide +kernel
  | some a => exact shaped_of (h.lay a) (h.dep a) hn
theorem q_eqO {n : Nat} (h : EqE n e) (hn : n ≤ 64) (a b : Option α) : R0 (dEq (eO e a) (eO e b)) (.ok (decide (a = b))) (vs .z eB) := by
  show b2 _ = _
  rw [dSc_eqv (shapedO h hn a) (shapedO h hn b), eqvO h]
  rfl
theorem q_neO {n : Nat} (h : EqE n e) (hn : n ≤ 64) (a b : Option α) : R0 (dNe (eO e a) (eO e b)) (.ok (!decide (a = b))) (vs .z eB) := by
  show b2 (Option.map not _) = _
  rw [dSc_eqv (shapedO h hn a) (shapedO h hn b), eqvO h]
  rfl
/-- items of a flat kind -/
theorem q_inG (hf : ∀ a, dFlat (e a) = true) (he : ∀ a b, PyData.eqv (e a) (e b) = decide (a = b)) (x : α) (xs : List α) : dInB (e x) (.list (xs.map e)) = some (decide (x ∈ xs)) ∧ dInB (e x) (.tuple (xs.map e)) = some (decide (x ∈ xs)) := by
  have h1 : (xs.map e).all dFlat = true := by rw [List.all_map]; exact List.all_eq_true.mpr fun a _ => hf a
  have h2 : (xs.map e).any (fun z => PyData.eqv z (e x)) = decide (x ∈ xs) := by
    rw [List.any_map]
    induction xs with
    | nil => simp
    | cons y ys ih =>
      have ih := ih (by rw [List.all_map]; exact List.all_eq_true.mpr fun a _ => hf a)
      rw [List.any_cons, ih]
      show (PyData.eqv (e y) (e x) || _) = _
      rw [he]
      simp only [List.mem_cons, Bool.decide_or]
      congr 1
      exact decide_eq_decide.mpr eq_comm
  constructor
  · show (if _ then _ else _) = _
    rw [if_pos (by rw [hf, h1]; rfl), h2]
  · show (if _ then _ else _) = _
    rw [if_pos (by rw [hf, h1]; rfl), h2]
end
theorem q_inL [DecidableEq α] (hf : ∀ a, dFlat (e a) = true) (he : ∀ a b, PyData.eqv (e a) (e b) = decide (a = b)) (x : α) (xs : List α) : R0 (dIn (e x) (eL e xs)) (.ok (decide (x ∈ xs))) (vs .z eB) := by
  show b2 _ = _
  rw [show eL e xs = .list (xs.map e) from rfl, (q_inG hf he x xs).1]; rfl
theorem q_ninL [DecidableEq α] (hf : ∀ a, dFlat (e a) = true) (he : ∀ a b, PyData.eqv (e a) (e b) = decide (a = b)) (x : α) (xs : List α) : R0 (dNin (e x) (eL e xs)) (.ok (!decide (x ∈ xs))) (vs .z eB) := by
  show b2 (Option.map not _) = _
  rw [show eL e xs = .list (xs.map e) from rfl, (q_inG hf he x xs).1]; rfl
theorem q_inT [DecidableEq α] (hf : ∀ a, dFlat (e a) = true) (he : ∀ a b, PyData.eqv (e a) (e b) = decide (a = b)) (x : α) (xs : List α) : R0 (dIn (e x) (eT e xs)) (.ok (decide (x ∈ xs))) (vs .z eB) := by
  show b2 _ = _
  rw [show eT e xs = .tuple (xs.map e) from rfl, (q_inG hf he x xs).2]; rfl
theorem q_ninT [DecidableEq α] (hf : ∀ a, dFlat (e a) = true) (he : ∀ a b, PyData.eqv (e a) (e b) = decide (a = b)) (x : α) (xs : List α) : R0 (dNin (e x) (eT e xs)) (.ok (!decide (x ∈ xs))) (vs .z eB) := by
  show b2 (Option.map not _) = _
  rw [show eT e xs = .tuple (xs.map e) from rfl, (q_inG hf he x xs).2]; rfl
theorem fl_I (a : Int) : dFlat (eI a) = true := rfl
theorem fl_S (a : Str) : dFlat (eS a) = true := rfl
theorem fl_B (a : Bool) : dFlat (eB a) = true := rfl
theorem ev_I (a b : Int) : PyData.eqv (eI a) (eI b) = decide (a = b) := rfl
theorem ev_B (a b : Bool) : PyData.eqv (eB a) (eB b) = decide (a = b) := by cases a <;> cases b <;> rfl
theorem ev_S (a b : Str) : PyData.eqv (eS a) (eS b) = decide (a = b) := by
  show (a == b) = _
  rfl
end
end TM
namespace TM
open PySem PV
section
variable {α β γ : Type} {e : α → D} {e1 : β → D}
/-! written numbers as operands -/
theorem q_mulrL {a b k : Int} (h : k.natAbs < 2 ^ 64) (hb : (E.ok k : E Int) = .ok b) : R0 (dMul (eI a) (eI b)) (.ok (a * b)) (vs .z eI) := by cases hb; exact q_mulr h
theorem q_mullL {a b k : Int} (h : k.natAbs < 2 ^ 64) (hb : (E.ok k : E Int) = .ok a) : R0 (dMul (eI a) (eI b)) (.ok (a * b)) (vs .z eI) := by cases hb; exact q_mull h
theorem q_divrL {a b k : Int} (h : 0 < k ∧ k < 2 ^ 64) (hb : (E.ok k : E Int) = .ok b) : R0 (dDiv (eI a) (eI b)) (.ok (a / b)) (vs .z eI) := by cases hb; exact q_divr h
theorem q_modrL {a b k : Int} (h : 0 < k) (hb : (E.ok k : E Int) = .ok b) : R0 (dMod (eI a) (eI b)) (.ok (a % b)) (vs .z eI) := by cases hb; exact q_modr h
theorem q_powL {a b j k : Int} (h : 0 ≤ k ∧ k ≤ 1000000 ∧ j.natAbs < 2 ^ 64) (ha : (E.ok j : E Int) = .ok a) (hb : (E.ok k : E Int) = .ok b) : R0 (dPow (eI a) (eI b)) (.ok (a ^ b.toNat)) (vs .z eI) := by cases ha; cases hb; exact q_powl h
theorem q_pj {es : α → List D} {e1 : β → D} (f : α → β) (j : Nat) {k b : Int} (hk : ∀ n, j < n → L2.ixN n k = some j) (h : ∀ p, (es p)[j]? = some (e1 (f p))) (p : α) (hb : (E.ok k : E Int) = .ok b) : R0 (dAt (eP es p) (eI b)) (.ok (f p)) (vs .z e1) := by cases hb; exact q_proj j k hk h p
theorem q_pjn {es : α → List D} {e1 : β → D} (f : α → β) (j m : Nat) {k b : Int} (hm : ∀ p, (es p).length = m) (hk : L2.ixN m k = some j) (h : ∀ p, (es p)[j]? = some (e1 (f p))) (p : α) (hb : (E.ok k : E Int) = .ok b) : R0 (dAt (eP es p) (eI b)) (.ok (f p)) (vs .z e1) := by
  cases hb
  show (L2.atI (es p) k).map _ = _
  unfold L2.atI
  rw [hm, hk, Option.bind_some, h]
  rfl
theorem q_lenPn {es : α → List D} (n : Nat) (k : Int) (hk : (n : Int) = k) (h : ∀ p, (es p).length = n) (p : α) : R0 (dLen [eP es p]) (.ok k) (vs .z eI) := by subst hk; exact q_lenP n h p
theorem j_someV {Γ1 : Ev} {s : Sh} {r : Out Va} {m : E α} (h : Si r m (vs s e) Γ1) : Si r (m.bind fun a => .ok (some a)) (vs s (eO e)) Γ1 := h.map fun _ => rfl
theorem j_unV {Γ1 : Ev} {s : Sh} {r : Out Va} {m : E (Option α)} (h : Si r m (vs s (eO e)) Γ1) : Si r (m.bind E.ofO) (vs s e) Γ1 := by
  cases m with
  | ok a => cases a with
    | none => trivial
    | some a => exact h
  | ex x => exact h
  | st => trivial
theorem o_un {o : Opn} {Γ Γ1 Γ2 : Ev} {m : E (Option α)} (h : So o Γ m (eO e) Γ1 Γ2) : So o Γ (m.bind E.ofO) e Γ1 Γ2 := by
  cases m with
  | ok a => cases a with
    | none => trivial
    | some a => exact h
  | ex x => exact h
  | st => trivial
theorem o_some {o : Opn} {Γ Γ1 Γ2 : Ev} {m : E α} (h : So o Γ m e Γ1 Γ2) : So o Γ (m.bind fun a => .ok (some a)) (eO e) Γ1 Γ2 := by
  cases m with
  | ok a => exact h
  | ex x => exact h
  | st => trivial
theorem o_eq {o : Opn} {Γ Γ1 Γ2 : Ev} {m m' : E α} (h : So o Γ m e Γ1 Γ2) (q : m = m') : So o Γ m' e Γ1 Γ2 := q ▸ h
/-! tables of the module -/
def tbD (t : List (Str × Option α)) (e : α → D) : List (Str × Option D) := t.map fun p => (p.1, p.2.map e)
theorem lookup_tb (t : List (Str × Option α)) (x : Str) : (tbD t e).lookup x = (t.lookup x).map fun r => r.map e := by
  unfold tbD
  induction t with
  | nil => rfl
  | cons p t ih =>
    obtain ⟨k, r⟩ := p
    rw [List.map_cons, List.lookup_cons, List.lookup_cons, ih]
    cases x == k <;> rfl
def tabIn (t : List (Str × Option α)) (x : Str) : E Bool := match t.lookup x with | some r => .ok r.isSome | none => .st
def tabGet (t : List (Str × Option α)) (x : Str) : E α := match t.lookup x with | some (some a) => .ok a | _ => .st
theorem j_kin {Γ Γ1 : Ev} {o : Opn} {m : E Str} (t : List (Str × Option α)) (e : α → D) (h : So o Γ m eS Γ1 Γ1) {tab : List (Str × Option D)} (ht : tab = tbD t e) : Si (fIn false tab o Γ) (m.bind (tabIn t)) eB Γ1 := by
  subst ht
  rw [fIn_ap]
  cases m with
  | ok a =>
    obtain ⟨d, q1, q2⟩ := h
    rw [q1, bind_ok, q2, Option.bind_some]
    show Si (.of (((tbD t e).lookup a).map fun r => PyData.bool r.isSome) Γ1) (tabIn t a) eB Γ1
    rw [lookup_tb]
    unfold tabIn
    cases t.lookup a with
    | none => trivial
    | some r => cases r <;> rfl
  | ex x => obtain ⟨Γ', h⟩ := h; rw [h]; exact ⟨Γ', rfl⟩
  | st => trivial
theorem j_knin {Γ Γ1 : Ev} {o : Opn} {m : E Str} (t : List (Str × Option α)) (e : α → D) (h : So o Γ m eS Γ1 Γ1) {tab : List (Str × Option D)} (ht : tab = tbD t e) : Si (fIn true tab o Γ) (m.bind fun x => (tabIn t x).bind fun b => .ok (!b)) eB Γ1 := by
  subst ht
  rw [fIn_ap]
  cases m with
  | ok a =>
    obtain ⟨d, q1, q2⟩ := h
    rw [q1, bind_ok, q2, Option.bind_some]
    show Si (.of (((tbD t e).lookup a).map fun r => PyData.bool !r.isSome) Γ1) ((tabIn t a).bind fun b => .ok (!b)) eB Γ1
    rw [lookup_tb]
    unfold tabIn
    cases t.lookup a with
    | none => trivial
    | some r => cases r <;> rfl
  | ex x => obtain ⟨Γ', h⟩ := h; rw [h]; exact ⟨Γ', rfl⟩
  | st => trivial
theorem j_kget {Γ Γ1 : Ev} {o : Opn} {m : E Str} (t : List (Str × Option α)) (e : α → D) (h : So o Γ m eS Γ1 Γ1) {tab : List (Str × Option D)} (ht : tab = tbD t e) : Si (fGet tab o Γ) (m.bind (tabGet t)) e Γ1 := by
  subst ht
  rw [fGet_ap]
  cases m with
  | ok a =>
    obtain ⟨d, q1, q2⟩ := h
    rw [q1, bind_ok, q2, Option.bind_some]
    show Si (.of (((tbD t e).lookup a).bind fun r => r) Γ1) (tabGet t a) e Γ1
    rw [lookup_tb]
    unfold tabGet
    cases t.lookup a with
    | none => trivial
    | some r => cases r <;> first | rfl | trivial
  | ex x => obtain ⟨Γ', h⟩ := h; rw [h]; exact ⟨Γ', rfl⟩
  | st => trivial
/-! dicts -/
def lookD [DecidableEq α] : List (α × β) → α → Option β
  | [], _ => none
  | (k, v) :: r, x => if k = x then some v else lookD r x
def putD [DecidableEq α] (kvs : List (α × β)) (k : α) (v : β) : List (α × β) := if (kvs.any fun p => decide (p.1 = k)) = true then kvs.map fun p => if p.1 = k then (p.1, v) else p else kvs ++ [(k, v)]
/-- keys -/
structure KyE (e : α → D) (ky : α → L2.Key) : Prop where
  key : ∀ a, dKey (e a) = some (ky a)
  inj : ∀ a b, ky a = ky b → a = b
  kd : ∀ a, kD (ky a) = e a
theorem ky_I : KyE eI Sum.inl := ⟨fun _ => rfl, fun a b h => by cases h; rfl, fun _ => rfl⟩
theorem ky_S : KyE eS Sum.inr := ⟨fun _ => rfl, fun a b h => by cases h; rfl, fun _ => rfl⟩
section
variable [DecidableEq α] {ky : α → L2.Key} {ev : β → D}
theorem dl_ok (hk : KyE e ky) (x : α) : ∀ kvs : List (α × β), dLook (kvs.map fun p => (e p.1, ev p.2)) (ky x) = (lookD kvs x).map ev
  | [] => rfl
  | (k, v) :: r => by
    rw [List.map_cons]
    unfold dLook lookD
    rw [hk.key, dl_ok hk x r]
    by_cases c : k = x
    · subst c; rw [if_pos rfl, if_pos rfl]; rfl
    · rw [if_neg (fun z => c (hk.inj _ _ (Option.some.inj z))), if_neg c]
theorem dp_ok (hk : KyE e ky) (kvs : List (α × β)) (x : α) (v : β) : dPutL (kvs.map fun p => (e p.1, ev p.2)) (ky x) (ev v) = (putD kvs x v).map fun p => (e p.1, ev p.2) := by
  unfold dPutL putD dHas
  have h : (kvs.map fun p => (e p.1, ev p.2)).any (fun p => decide (dKey p.1 = some (ky x))) = kvs.any fun p => decide (p.1 = x) := by
    rw [List.any_map]
    congr 1
    funext p
    show decide (dKey (e p.1) = some (ky x)) = _
    rw [hk.key]
    exact decide_eq_decide.mpr ⟨fun z => hk.inj _ _ (Option.some.inj z), fun z => by rw [z]⟩
  rw [h]
  split
  · rw [List.map_map, List.map_map]
    refine List.map_congr_left fun p _ => ?_
    show (if dKey (e p.1) = some (ky x) then _ else _) = (e (if p.1 = x then (p.1, v) else p).1, ev (if p.1 = x then (p.1, v) else p).2)
    rw [hk.key]
    by_cases c : p.1 = x
    · rw [if_pos (by rw [c]), if_pos c]
    · rw [if_neg (fun z => c (hk.inj _ _ (Option.some.inj z))), if_neg c]
  · rw [List.map_append, hk.kd]; rfl
theorem keys_ok (hk : KyE e ky) (kvs : List (α × β)) : ((kvs.map fun p => (e p.1, ev p.2)).all fun p => (dKey p.1).isSome) = true := by
  rw [List.all_map]
  exact List.all_eq_true.mpr fun p _ => by show (dKey (e p.1)).isSome = true; rw [hk.key]; rfl
theorem dic_d (kvs : List (α × β)) : dic (some (some (.d .z, eD e ev kvs))) = some (kvs.map fun p => (e p.1, ev p.2)) := rfl
theorem dic_z (hk : KyE e ky) (kvs : List (α × β)) : dic (some (some (.z, eD e ev kvs))) = some (kvs.map fun p => (e p.1, ev p.2)) := by
  show (if _ then _ else _) = _
  rw [if_pos (keys_ok hk kvs)]
/-- what stands at a dict's slot -/
def isd (o : Option (Option Va)) (rs : List (D × D)) : Prop := dic o = some rs
theorem j_din {Γ Γ1 : Ev} {f : Ev → Out D} {m : E α} (hk : KyE e ky) (ev : β → D) (i : Nat) (kvs : List (α × β)) (h : Si (f Γ) m e Γ1) (h1 : dic (Γ1[i]?) = some (kvs.map fun p => (e p.1, ev p.2))) : Si (fDIn false i f Γ) (m.bind fun k => .ok (lookD kvs k).isSome) eB Γ1 := by
  show Si ((f Γ).bind _) _ _ _
  refine h.bind fun k _ => ?_
  rw [h1, Option.bind_some, hk.key]
  show Si (.of (some (PyData.bool (if false = true then _ else _))) Γ1) _ _ _
  rw [if_neg Bool.false_ne_true, dl_ok hk]
  show Out.ok _ _ = _
  rw [Option.isSome_map]; rfl
theorem j_dnin {Γ Γ1 : Ev} {f : Ev → Out D} {m : E α} (hk : KyE e ky) (ev : β → D) (i : Nat) (kvs : List (α × β)) (h : Si (f Γ) m e Γ1) (h1 : dic (Γ1[i]?) = some (kvs.map fun p => (e p.1, ev p.2))) : Si (fDIn true i f Γ) (m.bind fun k => .ok (!(lookD kvs k).isSome)) eB Γ1 := by
  show Si ((f Γ).bind _) _ _ _
  refine h.bind fun k _ => ?_
  rw [h1, Option.bind_some, hk.key]
  show Si (.of (some (PyData.bool (if true = true then _ else _))) Γ1) _ _ _
  rw [if_pos rfl, dl_ok hk]
  show Out.ok _ _ = _
  rw [Option.isSome_map]; rfl
theorem j_dat {Γ Γ1 : Ev} {f : Ev → Out D} {m : E α} (hk : KyE e ky) (ev : β → D) (i : Nat) (kvs : List (α × β)) (h0 : ∃ rs, dic (Γ[i]?) = some rs) (h : Si (f Γ) m e Γ1) (h1 : dic (Γ1[i]?) = some (kvs.map fun p => (e p.1, ev p.2))) : Si (fDAt i f Γ) (m.bind fun k => E.ofO (lookD kvs k)) ev Γ1 := by
  obtain ⟨rs, h0⟩ := h0
  show Si (dicS (Γ[i]?) ((f Γ).bind _)) _ _ _
  unfold dicS
  rw [h0]
  refine h.bind fun k _ => ?_
  rw [h1, Option.bind_some, hk.key, Option.bind_some, dl_ok hk]
  cases lookD kvs k <;> first | rfl | trivial
theorem j_dg1 {Γ Γ1 : Ev} {f : Ev → Out D} {m : E α} (hk : KyE e ky) (ev : β → D) (i : Nat) (kvs : List (α × β)) (h0 : ∃ rs, dic (Γ[i]?) = some rs) (h : Si (f Γ) m e Γ1) (h1 : dic (Γ1[i]?) = some (kvs.map fun p => (e p.1, ev p.2))) : Si (fDG1 i f Γ) (m.bind fun k => .ok (lookD kvs k)) (eO ev) Γ1 := by
  obtain ⟨rs, h0⟩ := h0
  show Si (dicS (Γ[i]?) ((f Γ).bind _)) _ _ _
  unfold dicS
  rw [h0]
  refine h.bind fun k _ => ?_
  rw [h1, Option.bind_some, hk.key]
  show Out.ok ((dLook _ _).getD .none) Γ1 = _
  rw [dl_ok hk]
  cases lookD kvs k <;> rfl
theorem j_dg2 {Γ Γ1 Γ2 : Ev} {f g : Ev → Out D} {m : E α} {mx : E β} (hk : KyE e ky) (ev : β → D) (i : Nat) (kvs : List (α × β)) (h0 : ∃ rs, dic (Γ[i]?) = some rs) (h : Si (f Γ) m e Γ1) (hx : Si (g Γ1) mx ev Γ2) (h1 : dic (Γ2[i]?) = some (kvs.map fun p => (e p.1, ev p.2))) : Si (fDG2 i f g Γ) (m.bind fun k => mx.bind fun x => .ok ((lookD kvs k).getD x)) ev Γ2 := by
  obtain ⟨rs, h0⟩ := h0
  show Si (dicS (Γ[i]?) ((f Γ).bind _)) _ _ _
  unfold dicS
  rw [h0]
  refine h.bind fun k _ => ?_
  refine hx.bind fun x _ => ?_
  rw [h1, Option.bind_some, hk.key]
  show Out.ok ((dLook _ _).getD _) Γ2 = _
  rw [dl_ok hk]
  cases lookD kvs k <;> rfl
/-- d.get(k, x), d any expression -/
theorem j_get2 {Γ Γ0 Γ1 Γ2 : Ev} {fd f g : Ev → Out D} {md : E (List (α × β))} {m : E α} {mx : E β} (hk : KyE e ky) (ev : β → D) (hd : Si (fd Γ) md (eD e ev) Γ0) (h : Si (f Γ0) m e Γ1) (hx : Si (g Γ1) mx ev Γ2) : Si (fGet2 fd f g Γ) (md.bind fun kvs => m.bind fun k => mx.bind fun x => .ok ((lookD kvs k).getD x)) ev Γ2 := by
  cases md with
  | ok kvs =>
    rw [fGet2_rs (show fd Γ = .ok (.dict (kvs.map fun p => (e p.1, ev p.2))) Γ0 from hd) (keys_ok hk kvs), ok_bind]
    refine h.bind fun k _ => ?_
    refine hx.bind fun x _ => ?_
    rw [hk.key]
    show Out.ok ((dLook _ _).getD _) Γ2 = _
    rw [dl_ok hk]
    cases lookD kvs k <;> rfl
  | ex x => obtain ⟨Γ', h⟩ := hd; exact ⟨Γ', by show (fd Γ).bind _ = _; rw [h]; rfl⟩
  | st => trivial
theorem j_dct0 (ek : α → D) (ev : β → D) {Γ : Ev} : Si (fDct0 Γ) (.ok []) (eD ek ev) Γ := rfl
theorem j_vdct0 (ek : α → D) (ev : β → D) {Γ : Ev} : Si (vDct0 Γ) (.ok []) (vs (.d .z) (eD ek ev)) Γ := rfl
theorem j_dct1 {Γ Γ1 Γ2 : Ev} {fk fv : Ev → Out D} {m : E α} {mx : E β} (hk : KyE e ky) (h : Si (fk Γ) m e Γ1) (hx : Si (fv Γ1) mx ev Γ2) : Si (vDct1 fk fv Γ) (m.bind fun k => mx.bind fun x => .ok [(k, x)]) (vs (.d .z) (eD e ev)) Γ2 := by
  rw [vDct1_ap]
  refine h.bind fun k _ => ?_
  refine hx.bind fun x _ => ?_
  rw [hk.key]
  rfl
def putDE (kvs : List (α × β)) (k : α) (v : β) : E (List (α × β)) := chk (kvs.length < 16777216) (putD kvs k v)
theorem t_dput {Γ Γ1 Γ2 : Ev} {fv fk : Ev → Out D} {mx : E β} {m : E α} {τ : Type} {mk : List (α × β) → E τ} {R : τ → SO → Prop} {ss : List (Ev → SO)} (hk : KyE e ky) (ev : β → D) (i : Nat) (kvs : List (α × β)) (hv : Si (fv Γ) mx ev Γ1) (h0 : ∃ rs, Γ1[i]? = some (some (.d .z, .dict rs))) (hi : Si (fk Γ1) m e Γ2) (h1 : Γ2[i]? = some (some (.d .z, eD e ev kvs))) (hn : ∀ ys, Ti (run ss (Γ2.set i (some (.d .z, eD e ev ys)))) (mk ys) R) : Ti (run (sDPutI i fv fk :: ss) Γ) (mx.bind fun x => m.bind fun k => (putDE kvs k x).bind mk) R := by
  show Ti ((sDPutI i fv fk Γ).then (run ss)) _ _
  obtain ⟨rs, h0⟩ := h0
  unfold sDPutI
  refine t_sB hv fun x => ?_
  rw [h0]
  show Ti ((dputS (some (some (.d .z, .dict rs))) _).then _) _ _
  unfold dputS
  refine t_sB hi fun k => ?_
  rw [h1]
  show Ti ((dputE i (ev x) (some (some (.d .z, .dict (kvs.map fun p => (e p.1, ev p.2))))) (e k) Γ2).then _) _ _
  unfold dputE putDE chk
  dsimp only
  rw [hk.key, List.length_map]
  dsimp only
  split
  · rw [dp_ok hk]; exact hn _
  · trivial
end
/-- a < b < c -/
theorem j_ch {op op' : D → D → Option Va} {a b c : Opn} {Γ : Ev} {e2 : γ → D} {ma : E α} {mb : E β} {mc : E γ} {g : α → β → Bool} {g' : β → γ → Bool} (h1 : So a Γ ma e Γ Γ) (h2 : So b Γ mb e1 Γ Γ) (h3 : So c Γ mc e2 Γ Γ) (ho : ∀ x y, R0 (op (e x) (e1 y)) (.ok (g x y)) (vs .z eB)) (ho' : ∀ x y, R0 (op' (e1 x) (e2 y)) (.ok (g' x y)) (vs .z eB)) : Si (vCh op op' a b c Γ) (ma.bind fun x => mb.bind fun y => if g x y = true then mc.bind fun z => .ok (g' y z) else .ok false) eB Γ := by
  rw [vch_ap]
  cases ma with
  | ok x =>
    obtain ⟨d, q1, q2⟩ := h1
    rw [q1, bind_ok, ok_bind]
    cases mb with
    | ok y =>
      obtain ⟨d', q3, q4⟩ := h2
      rw [q3, bind_ok, q2, q4, ok_bind]
      show Si (chE op' b c d' (op (e x) (e1 y)) Γ) _ _ _
      rw [show op (e x) (e1 y) = some (.z, .bool (g x y)) from ho x y]
      cases g x y with
      | true =>
        rw [chE_t, if_pos rfl]
        cases mc with
        | ok z =>
          obtain ⟨d'', q5, q6⟩ := h3
          rw [q5, bind_ok, q4, q6]
          show Si (.of ((op' (e1 y) (e2 z)).bind chB) Γ) _ _ _
          rw [show op' (e1 y) (e2 z) = some (.z, .bool (g' y z)) from ho' y z]
          rfl
        | ex x => obtain ⟨Γ', h⟩ := h3; rw [h]; exact ⟨Γ', rfl⟩
        | st => trivial
      | false => rw [chE_f, if_neg Bool.false_ne_true]; rfl
    | ex x => obtain ⟨Γ', h⟩ := h2; rw [h]; exact ⟨Γ', rfl⟩
    | st => trivial
  | ex x => obtain ⟨Γ', h⟩ := h1; rw [h]; exact ⟨Γ', rfl⟩
  | st => trivial
theorem r_lt (a b : Int) : R0 (dLt (eI a) (eI b)) (.ok (decide (a < b))) (vs .z eB) := rfl
theorem r_le (a b : Int) : R0 (dLe (eI a) (eI b)) (.ok (decide (a ≤ b))) (vs .z eB) := rfl
theorem hl_0 : ∀ a, (E.ok [] : E (List α)) = .ok a → a.length = 0 := fun a h => by cases h; rfl
theorem hl_c {m : E α} {ms : E (List α)} {n : Nat} (h : ∀ a, ms = .ok a → a.length = n) : ∀ a, (m.bind fun x => ms.bind fun y => .ok (x :: y)) = .ok a → a.length = n + 1 := fun a q => by
  cases m with
  | ok x => cases ms with
    | ok y => cases q; rw [List.length_cons, h y rfl]
    | ex x => cases q
    | st => cases q
  | ex x => cases q
  | st => cases q
theorem isb_int_int : isB "int" "int" = true := by decide +kernel
theorem isb_int_bool : isB "int" "bool" = false := by decide +kernel
theorem isb_int_str : isB "int" "str" = false := by decide +kernel
theorem isb_int_list : isB "int" "list" = false := by decide +kernel
theorem isb_int_tuple : isB "int" "tuple" = false := by decide +kernel
theorem isb_int_dict : isB "int" "dict" = false := by decide +kernel
theorem isb_bool_int : isB "bool" "int" = true := by decide +kernel
theorem isb_bool_bool : isB "bool" "bool" = true := by decide +kernel
theorem isb_bool_str : isB "bool" "str" = false := by decide +kernel
theorem isb_bool_list : isB "bool" "list" = false := by decide +kernel
theorem isb_bool_tuple : isB "bool" "tuple" = false := by decide +kernel
theorem isb_bool_dict : isB "bool" "dict" = false := by decide +kernel
theorem isb_str_int : isB "str" "int" = false := by decide +kernel
theorem isb_str_bool : isB "str" "bool" = false := by decide +kernel
theorem isb_str_str : isB "str" "str" = true := by decide +kernel
theorem isb_str_list : isB "str" "list" = false := by decide +kernel
theorem isb_str_tuple : isB "str" "tuple" = false := by decide +kernel
theorem isb_str_dict : isB "str" "dict" = false := by decide +kernel
theorem isb_list_int : isB "list" "int" = false := by decide +kernel
theorem isb_list_bool : isB "list" "bool" = false := by decide +kernel
theorem isb_list_str : isB "list" "str" = false := by decide +kernel
theorem isb_list_list : isB "list" "list" = true := by decide +kernel
theorem isb_list_tuple : isB "list" "tuple" = false := by decide +kernel
theorem isb_list_dict : isB "list" "dict" = false := by decide +kernel
theorem isb_tuple_int : isB "tuple" "int" = false := by decide +kernel
theorem isb_tuple_bool : isB "tuple" "bool" = false := by decide +kernel
theorem isb_tuple_str : isB "tuple" "str" = false := by decide +kernel
theorem isb_tuple_list : isB "tuple" "list" = false := by decide +kernel
theorem isb_tuple_tuple : isB "tuple" "tuple" = true := by decide +kernel
theorem isb_tuple_dict : isB "tuple" "dict" = false := by decide +kernel
theorem isb_NoneType_int : isB "NoneType" "int" = false := by decide +kernel
theorem isb_NoneType_bool : isB "NoneType" "bool" = false := by decide +kernel
theorem isb_NoneType_str : isB "NoneType" "str" = false := by decide +kernel
theorem isb_NoneType_list : isB "NoneType" "list" = false := by decide +kernel
theorem isb_NoneType_tuple : isB "NoneType" "tuple" = false := by decide +kernel
theorem isb_NoneType_dict : isB "NoneType" "dict" = false := by decide +kernel
theorem isb_dict_int : isB "dict" "int" = false := by decide +kernel
theorem isb_dict_bool : isB "dict" "bool" = false := by decide +kernel
theorem isb_dict_str : isB "dict" "str" = false := by decide +kernel
theorem isb_dict_list : isB "dict" "list" = false := by decide +kernel
theorem isb_dict_tuple : isB "dict" "tuple" = false := by decide +kernel
theorem isb_dict_dict : isB "dict" "dict" = true := by decide +kernel
end
end TM
namespace TM
open PySem PV
section
variable {α β γ : Type} {e : α → D} {e1 : β → D}
theorem q_inDp [DecidableEq α] {n : Nat} (h : EqE n e) (hn : n + 1 ≤ 64) (x : α) (xs : List α) : dInX (e x) (eL e xs) = some (decide (x ∈ xs)) := by
  have h1 : SeqAt.shaped (e x) = true := shaped_of (h.lay x) (h.dep x) (by omega)
  have h2 : SeqAt.shaped (eL e xs) = true := shaped_of ((eq_L h).lay xs) ((eq_L h).dep xs) hn
  show (if _ then _ else _) = _
  rw [if_pos (by rw [h1]; exact h2)]
  refine congrArg some ?_
  rw [List.any_map]
  induction xs with
  | nil => simp
  | cons y ys ih =>
    rw [List.any_cons, ih (shaped_of ((eq_L h).lay ys) ((eq_L h).dep ys) hn)]
    show (PyData.eqv (e y) (e x) || _) = _
    rw [h.eqv]
    simp only [List.mem_cons, Bool.decide_or]
    congr 1
    exact decide_eq_decide.mpr eq_comm
theorem q_inD [DecidableEq α] {n : Nat} (h : EqE n e) (hn : n + 1 ≤ 64) (x : α) (xs : List α) : R0 (dInD (e x) (eL e xs)) (.ok (decide (x ∈ xs))) (vs .z eB) := by
  show b2 _ = _
  rw [q_inDp h hn]; rfl
theorem q_ninD [DecidableEq α] {n : Nat} (h : EqE n e) (hn : n + 1 ≤ 64) (x : α) (xs : List α) : R0 (dNinD (e x) (eL e xs)) (.ok (!decide (x ∈ xs))) (vs .z eB) := by
  show b2 (Option.map not _) = _
  rw [q_inDp h hn]; rfl
/-! methods of a receiver that stays -/
theorem j_bm0 {Γ Γ1 : Ev} {T : String} {op : D → List D → Option Va} {fr : Ev → Out D} {m : E α} {mo : α → E γ} {ez : γ → Va} (h : Si (fr Γ) m e Γ1) (hT : ∀ a, rcvT T (e a) = true) (ho : ∀ a, R0 (op (e a) []) (mo a) ez) : Si (fBM T op fr fsN Γ) (m.bind mo) ez Γ1 := by
  show Si ((fr Γ).bind _) _ _ _
  refine h.bind fun a _ => ?_
  rw [if_pos (hT a)]
  exact Si.of (ho a)
theorem j_bm1 {Γ Γ1 Γ2 : Ev} {T : String} {op : D → List D → Option Va} {fr f : Ev → Out D} {m : E α} {m1 : E β} {mo : α → β → E γ} {ez : γ → Va} (h : Si (fr Γ) m e Γ1) (h1 : Si (f Γ1) m1 e1 Γ2) (hT : ∀ a, rcvT T (e a) = true) (ho : ∀ a b, R0 (op (e a) [e1 b]) (mo a b) ez) : Si (fBM T op fr (fsC f fsN) Γ) (m.bind fun a => m1.bind fun b => mo a b) ez Γ2 := by
  show Si ((fr Γ).bind _) _ _ _
  refine h.bind fun a _ => ?_
  rw [if_pos (hT a)]
  refine Si.bind (f_1 h1) fun b _ => ?_
  exact Si.of (ho a b)
def idxE [DecidableEq α] (xs : List α) (x : α) : E Int := match xs.findIdx? (fun z => decide (z = x)) with | some j => .ok (j : Nat) | none => .st
theorem q_index [DecidableEq α] {n : Nat} (h : EqE n e) (hn : n + 1 ≤ 64) (xs : List α) (x : α) : R0 (dIndex (eL e xs) [e x]) (idxE xs x) (vs .z eI) := by
  have h1 : SeqAt.shaped (e x) = true := shaped_of (h.lay x) (h.dep x) (by omega)
  have h2 : SeqAt.shaped (eL e xs) = true := shaped_of ((eq_L h).lay xs) ((eq_L h).dep xs) hn
  show R0 (if _ then _ else _) _ _
  rw [if_pos (by rw [h1]; exact h2), List.findIdx?_map]
  have : ((fun z => PyData.eqv z (e x)) ∘ e) = fun z => decide (z = x) := by
    funext z
    exact h.eqv z x
  rw [this]
  unfold idxE
  cases xs.findIdx? (fun z => decide (z = x)) <;> first | rfl | trivial
end
end TM
namespace TM
open PySem PV
section
variable {α β γ δ : Type} {e : α → D} {e1 : β → D}
/-! dicts whose keys are tuples -/
def eDT (ek : α → D) (ev : β → D) : List (α × β) → D := fun kvs => .dict ((.bool true, .none) :: kvs.map fun p => (ek p.1, ev p.2))
structure KtE (e : α → D) (ky : α → List L2.Key) : Prop where
  key : ∀ a, tKey (e a) = some (ky a)
  inj : ∀ a b, ky a = ky b → a = b
  kd : ∀ a, kT (ky a) = e a
section
variable [DecidableEq α] {ky : α → List L2.Key} {ev : β → D}
theorem tl_ok (hk : KtE e ky) (x : α) : ∀ kvs : List (α × β), tLook (kvs.map fun p => (e p.1, ev p.2)) (ky x) = (lookD kvs x).map ev
  | [] => rfl
  | (k, v) :: r => by
    rw [List.map_cons]
    unfold tLook lookD
    rw [hk.key, tl_ok hk x r]
    by_cases c : k = x
    · subst c; rw [if_pos rfl, if_pos rfl]; rfl
    · rw [if_neg (fun z => c (hk.inj _ _ (Option.some.inj z))), if_neg c]
theorem tp_ok (hk : KtE e ky) (kvs : List (α × β)) (x : α) (v : β) : tPutL (kvs.map fun p => (e p.1, ev p.2)) (ky x) (ev v) = (putD kvs x v).map fun p => (e p.1, ev p.2) := by
  unfold tPutL putD tHas
  have h : (kvs.map fun p => (e p.1, ev p.2)).any (fun p => decide (tKey p.1 = some (ky x))) = kvs.any fun p => decide (p.1 = x) := by
    rw [List.any_map]
    congr 1
    funext p
    show decide (tKey (e p.1) = some (ky x)) = _
    rw [hk.key]
    exact decide_eq_decide.mpr ⟨fun z => hk.inj _ _ (Option.some.inj z), fun z => by rw [z]⟩
  rw [h]
  split
  · rw [List.map_map, List.map_map]
    refine List.map_congr_left fun p _ => ?_
    show (if tKey (e p.1) = some (ky x) then _ else _) = (e (if p.1 = x then (p.1, v) else p).1, ev (if p.1 = x then (p.1, v) else p).2)
    rw [hk.key]
    by_cases c : p.1 = x
    · rw [if_pos (by rw [c]), if_pos c]
    · rw [if_neg (fun z => c (hk.inj _ _ (Option.some.inj z))), if_neg c]
  · rw [List.map_append, hk.kd]; rfl
theorem tdic_d (kvs : List (α × β)) : tdic (some (some (.e .z, eDT e ev kvs))) = some (kvs.map fun p => (e p.1, ev p.2)) := rfl
theorem tdic_z (kvs : List (α × β)) : tdic (some (some (.z, eDT e ev kvs))) = some (kvs.map fun p => (e p.1, ev p.2)) := rfl
theorem j_tin {Γ Γ1 : Ev} {f : Ev → Out D} {m : E α} (hk : KtE e ky) (ev : β → D) (i : Nat) (kvs : List (α × β)) (h : Si (f Γ) m e Γ1) (h1 : tdic (Γ1[i]?) = some (kvs.map fun p => (e p.1, ev p.2))) : Si (fTIn false i f Γ) (m.bind fun k => .ok (lookD kvs k).isSome) eB Γ1 := by
  show Si ((f Γ).bind _) _ _ _
  refine h.bind fun k _ => ?_
  rw [h1, Option.bind_some, hk.key]
  show Si (.of (some (PyData.bool (if false = true then _ else _))) Γ1) _ _ _
  rw [if_neg Bool.false_ne_true, tl_ok hk]
  show Out.ok _ _ = _
  rw [Option.isSome_map]; rfl
theorem j_tnin {Γ Γ1 : Ev} {f : Ev → Out D} {m : E α} (hk : KtE e ky) (ev : β → D) (i : Nat) (kvs : List (α × β)) (h : Si (f Γ) m e Γ1) (h1 : tdic (Γ1[i]?) = some (kvs.map fun p => (e p.1, ev p.2))) : Si (fTIn true i f Γ) (m.bind fun k => .ok (!(lookD kvs k).isSome)) eB Γ1 := by
  show Si ((f Γ).bind _) _ _ _
  refine h.bind fun k _ => ?_
  rw [h1, Option.bind_some, hk.key]
  show Si (.of (some (PyData.bool (if true = true then _ else _))) Γ1) _ _ _
  rw [if_pos rfl, tl_ok hk]
  show Out.ok _ _ = _
  rw [Option.isSome_map]; rfl
theorem j_tat {Γ Γ1 : Ev} {f : Ev → Out D} {m : E α} (hk : KtE e ky) (ev : β → D) (i : Nat) (kvs : List (α × β)) (h0 : ∃ rs, tdic (Γ[i]?) = some rs) (h : Si (f Γ) m e Γ1) (h1 : tdic (Γ1[i]?) = some (kvs.map fun p => (e p.1, ev p.2))) : Si (fTAt i f Γ) (m.bind fun k => E.ofO (lookD kvs k)) ev Γ1 := by
  obtain ⟨rs, h0⟩ := h0
  show Si (tdicS (Γ[i]?) ((f Γ).bind _)) _ _ _
  unfold tdicS
  rw [h0]
  refine h.bind fun k _ => ?_
  rw [h1, Option.bind_some, hk.key, Option.bind_some, tl_ok hk]
  cases lookD kvs k <;> first | rfl | trivial
theorem j_tg1 {Γ Γ1 : Ev} {f : Ev → Out D} {m : E α} (hk : KtE e ky) (ev : β → D) (i : Nat) (kvs : List (α × β)) (h0 : ∃ rs, tdic (Γ[i]?) = some rs) (h : Si (f Γ) m e Γ1) (h1 : tdic (Γ1[i]?) = some (kvs.map fun p => (e p.1, ev p.2))) : Si (fTG1 i f Γ) (m.bind fun k => .ok (lookD kvs k)) (eO ev) Γ1 := by
  obtain ⟨rs, h0⟩ := h0
  show Si (tdicS (Γ[i]?) ((f Γ).bind _)) _ _ _
  unfold tdicS
  rw [h0]
  refine h.bind fun k _ => ?_
  rw [h1, Option.bind_some, hk.key]
  show Out.ok ((tLook _ _).getD .none) Γ1 = _
  rw [tl_ok hk]
  cases lookD kvs k <;> rfl
theorem j_tg2 {Γ Γ1 Γ2 : Ev} {f g : Ev → Out D} {m : E α} {mx : E β} (hk : KtE e ky) (ev : β → D) (i : Nat) (kvs : List (α × β)) (h0 : ∃ rs, tdic (Γ[i]?) = some rs) (h : Si (f Γ) m e Γ1) (hx : Si (g Γ1) mx ev Γ2) (h1 : tdic (Γ2[i]?) = some (kvs.map fun p => (e p.1, ev p.2))) : Si (fTG2 i f g Γ) (m.bind fun k => mx.bind fun x => .ok ((lookD kvs k).getD x)) ev Γ2 := by
  obtain ⟨rs, h0⟩ := h0
  show Si (tdicS (Γ[i]?) ((f Γ).bind _)) _ _ _
  unfold tdicS
  rw [h0]
  refine h.bind fun k _ => ?_
  refine hx.bind fun x _ => ?_
  rw [h1, Option.bind_some, hk.key]
  show Out.ok ((tLook _ _).getD _) Γ2 = _
  rw [tl_ok hk]
  cases lookD kvs k <;> rfl
theorem t_tput {Γ Γ1 Γ2 : Ev} {fv fk : Ev → Out D} {mx : E β} {m : E α} {τ : Type} {mk : List (α × β) → E τ} {R : τ → SO → Prop} {ss : List (Ev → SO)} (hk : KtE e ky) (ev : β → D) (i : Nat) (kvs : List (α × β)) (hv : Si (fv Γ) mx ev Γ1) (h0 : ∃ rs, Γ1[i]? = some (some (.e .z, .dict ((.bool true, .none) :: rs)))) (hi : Si (fk Γ1) m e Γ2) (h1 : Γ2[i]? = some (some (.e .z, eDT e ev kvs))) (hn : ∀ ys, Ti (run ss (Γ2.set i (some (.e .z, eDT e ev ys)))) (mk ys) R) : Ti (run (sTPutI i fv fk :: ss) Γ) (mx.bind fun x => m.bind fun k => (putDE kvs k x).bind mk) R := by
  show Ti ((sTPutI i fv fk Γ).then (run ss)) _ _
  obtain ⟨rs, h0⟩ := h0
  unfold sTPutI
  refine t_sB hv fun x => ?_
  rw [h0]
  show Ti ((tputS (some (some (.e .z, .dict ((.bool true, .none) :: rs)))) _).then _) _ _
  unfold tputS
  refine t_sB hi fun k => ?_
  rw [h1]
  show Ti ((tputE i (ev x) (some (some (.e .z, .dict ((.bool true, .none) :: kvs.map fun p => (e p.1, ev p.2))))) (e k) Γ2).then _) _ _
  unfold tputE putDE chk
  dsimp only
  rw [hk.key, List.length_map]
  dsimp only
  split
  · rw [tp_ok hk]; exact hn _
  · trivial
theorem j_vtct0 (ek : α → D) (ev : β → D) {Γ : Ev} : Si (vTct0 Γ) (.ok []) (vs (.e .z) (eDT ek ev)) Γ := rfl
end
end
end TM
namespace TM
open PySem PV
section
variable {α β γ δ κ : Type} {e : α → D} {e1 : β → D} {Γ Γ1 : Ev}
/-! keys that are tuples -/
structure KrE (er : α → List D) (ky : α → List L2.Key) : Prop where
  key : ∀ a, dKeys (er a) = some (ky a)
  inj : ∀ a b, ky a = ky b → a = b
  kd : ∀ a, (ky a).map kD = er a
theorem kr_1 {k : α → L2.Key} (h : KyE e k) : KrE (n1 e) (fun a => [k a]) :=
  ⟨fun a => by show ((dKey (e a)).bind fun k => (some []).map (k :: ·)) = _; rw [h.key]; rfl, fun a b q => h.inj a b (by injection q), fun a => by show [kD (k a)] = [e a]; rw [h.kd]⟩
theorem kr_c {k : α → L2.Key} {er : β → List D} {ks : β → List L2.Key} (h : KyE e k) (r : KrE er ks) : KrE (nc e er) (fun p => k p.1 :: ks p.2) :=
  ⟨fun a => by show ((dKey (e a.1)).bind fun k => (dKeys (er a.2)).map (k :: ·)) = _; rw [h.key, r.key]; rfl,
   fun a b q => by
    injection q with q1 q2
    exact Prod.ext (h.inj _ _ q1) (r.inj _ _ q2),
   fun a => by show kD (k a.1) :: (ks a.2).map kD = e a.1 :: er a.2; rw [h.kd, r.kd]⟩
theorem kt_P {er : α → List D} {ks : α → List L2.Key} (r : KrE er ks) : KtE (eP er) ks :=
  ⟨fun a => r.key a, r.inj, fun a => by show PyData.tuple ((ks a).map kD) = .tuple (er a); rw [r.kd]⟩
/-! tuples that the module has written -/
def eKT (e : α → D) : List α → D := fun xs => .dict [(.none, .tuple (xs.map e))]
theorem i_kt {f : Ev → Out D} {m' : E (List α)} (h : Si (f Γ) m' (eKT e) Γ1) : Si (iLT f Γ) m' (List.map e) Γ1 := by
  rw [iLT_ap]
  cases m' with
  | ok a => rw [show f Γ = _ from h]; rfl
  | ex x => obtain ⟨Γ', h⟩ := h; rw [h]; exact ⟨Γ', rfl⟩
  | st => trivial
theorem q_ixKT (xs : List α) (i : Int) : R0 (dAt (eKT e xs) (eI i)) (ixE xs i) (vs .z e) := q_ixT xs i
theorem dInB_kt (x : D) (ds : List D) : dInB x (.dict [(.none, .tuple ds)]) = dInB x (.tuple ds) := by
  cases x <;> rfl
theorem q_inKT [DecidableEq α] (hf : ∀ a, dFlat (e a) = true) (he : ∀ a b, PyData.eqv (e a) (e b) = decide (a = b)) (x : α) (xs : List α) : R0 (dIn (e x) (eKT e xs)) (.ok (decide (x ∈ xs))) (vs .z eB) := by
  show b2 _ = _
  rw [show eKT e xs = .dict [(.none, .tuple (xs.map e))] from rfl, dInB_kt, (q_inG hf he x xs).2]; rfl
theorem q_ninKT [DecidableEq α] (hf : ∀ a, dFlat (e a) = true) (he : ∀ a b, PyData.eqv (e a) (e b) = decide (a = b)) (x : α) (xs : List α) : R0 (dNin (e x) (eKT e xs)) (.ok (!decide (x ∈ xs))) (vs .z eB) := by
  show b2 (Option.map not _) = _
  rw [show eKT e xs = .dict [(.none, .tuple (xs.map e))] from rfl, dInB_kt, (q_inG hf he x xs).2]; rfl
theorem j_yes {Γ : Ev} : Si (bYes Γ) (.ok true) id Γ := rfl
/-- membership, one instance for all -/
def memB [DecidableEq α] (x : α) (xs : List α) : Bool := decide (x ∈ xs)
theorem q_inM [DecidableEq α] {n : Nat} (h : EqE n e) (hn : n + 1 ≤ 64) (x : α) (xs : List α) : R0 (dInD (e x) (eL e xs)) (.ok (memB x xs)) (vs .z eB) := q_inD h hn x xs
theorem q_ninM [DecidableEq α] {n : Nat} (h : EqE n e) (hn : n + 1 ≤ 64) (x : α) (xs : List α) : R0 (dNinD (e x) (eL e xs)) (.ok (!memB x xs)) (vs .z eB) := q_ninD h hn x xs
/-! comprehensions with two clauses -/
def comp2G (c : α → E Bool) (m1 : α → E (List β)) (c1 : α → β → E Bool) (g : α → β → E γ) : List α → E (List γ)
  | [] => .ok []
  | x :: xs => match c x with
    | .ok true => (match m1 x with
      | .ok ys => (match compG (c1 x) (g x) ys with | .ok zs => (comp2G c m1 c1 g xs).bind fun ws => .ok (zs ++ ws) | _ => .st)
      | _ => .st)
    | .ok false => comp2G c m1 c1 g xs
    | _ => .st
@[irreducible] def comp2E (c : α → E Bool) (m1 : α → E (List β)) (c1 : α → β → E Bool) (g : α → β → E γ) (xs : List α) : E (List γ) := match comp2G c m1 c1 g xs with | .ok zs => if zs.length ≤ 16777216 then .ok zs else .st | _ => .st
theorem comp2E_ok {c : α → E Bool} {m1 : α → E (List β)} {c1 : α → β → E Bool} {g : α → β → E γ} {xs : List α} {zs : List γ} (h : comp2G c m1 c1 g xs = .ok zs) (hz : zs.length ≤ 16777216) : comp2E c m1 c1 g xs = .ok zs := by
  unfold comp2E
  rw [h]
  dsimp only
  rw [if_pos hz]
section
variable {is is1 : List Nat} {ff f1 : Ev → Out (List D)} {t t1 : D → Ev → Option Ev} {c c1 : Ev → Out Bool} {fe : Ev → Out D} {mi : E (List α)} {ex : α → D} {ey : β → D} {ez : γ → D} {mc : α → E Bool} {m1 : α → E (List β)} {mc1 : α → β → E Bool} {mg : α → β → E γ}
theorem compL2_ok {Γ0 : Ev}
    (hb : ∀ x, ∃ Γx Γy Γi, t (ex x) Γ0 = some Γx ∧ Si (c Γx) (mc x) id Γy ∧ Si (f1 Γy) (m1 x) (List.map ey) Γi ∧
      (∀ y, ∃ Γa Γb Γc, t1 (ey y) (wipeG Γi is1) = some Γa ∧ Si (c1 Γa) (mc1 x y) id Γb ∧ Si (fe Γb) (mg x y) ez Γc ∧ wipeG Γb is1 = wipeG Γi is1 ∧ wipeG Γc is1 = wipeG Γi is1) ∧ wipeG Γy is = Γ0 ∧ wipeG (wipeG Γi is1) is = Γ0) :
    ∀ xs zs, comp2G mc m1 mc1 mg xs = .ok zs → compL2 is t c f1 is1 t1 c1 fe (xs.map ex) Γ0 = some (zs.map ez, Γ0)
  | [], zs, h => by cases h; rfl
  | x :: xs, zs, h => by
    obtain ⟨Γx, Γy, Γi, h1, h2, h3, h4, h5, h6⟩ := hb x
    rw [List.map_cons]
    unfold compL2
    rw [h1]
    dsimp only
    unfold comp2G at h
    cases hc : mc x with
    | ok b =>
      rw [hc] at h h2
      rw [show c Γx = .ok b Γy from h2]
      cases b with
      | true =>
        dsimp only at h ⊢
        cases hm : m1 x with
        | ok ys =>
          rw [hm] at h h3
          rw [show f1 Γy = .ok (ys.map ey) Γi from h3]
          dsimp only at h ⊢
          cases hg : compG (mc1 x) (mg x) ys with
          | ok ws =>
            rw [hg] at h
            rw [compL_ok h4 ys ws hg]
            dsimp only at h ⊢
            cases hr : comp2G mc m1 mc1 mg xs with
            | ok vs =>
              rw [hr] at h
              cases h
              rw [h6, compL2_ok hb xs vs hr]
              show some (_, _) = some (_, _)
              rw [List.map_append]
            | ex e => rw [hr] at h; cases h
            | st => rw [hr] at h; cases h
          | ex e => rw [hg] at h; cases h
          | st => rw [hg] at h; cases h
        | ex e => rw [hm] at h; cases h
        | st => rw [hm] at h; cases h
      | false =>
        dsimp only at h ⊢
        rw [h5]
        exact compL2_ok hb xs zs h
    | ex e => rw [hc] at h; cases h
    | st => rw [hc] at h; cases h
theorem comp2G_nex : ∀ xs x, comp2G mc m1 mc1 mg xs ≠ .ex x
  | [], x => fun h => by cases h
  | y :: ys, x => by
    unfold comp2G
    split
    · split
      · split
        · cases h : comp2G mc m1 mc1 mg ys with
          | ok a => exact fun z => by cases z
          | ex e => exact absurd h (comp2G_nex ys e)
          | st => exact fun z => by cases z
        · exact fun z => by cases z
      · exact fun z => by cases z
    · exact comp2G_nex ys x
    · exact fun z => by cases z
theorem j_comp2 (hi : Si (ff Γ) mi (List.map ex) Γ1)
    (hb : ∀ x, ∃ Γx Γy Γi, t (ex x) (wipeG Γ1 is) = some Γx ∧ Si (c Γx) (mc x) id Γy ∧ Si (f1 Γy) (m1 x) (List.map ey) Γi ∧
      (∀ y, ∃ Γa Γb Γc, t1 (ey y) (wipeG Γi is1) = some Γa ∧ Si (c1 Γa) (mc1 x y) id Γb ∧ Si (fe Γb) (mg x y) ez Γc ∧ wipeG Γb is1 = wipeG Γi is1 ∧ wipeG Γc is1 = wipeG Γi is1) ∧ wipeG Γy is = wipeG Γ1 is ∧ wipeG (wipeG Γi is1) is = wipeG Γ1 is) (hr : restG Γ1 (wipeG Γ1 is) is = Γ1) :
    Si (vComp2 is ff t c f1 is1 t1 c1 fe Γ) (mi.bind fun xs => comp2E mc m1 mc1 mg xs) (vs (.l .z) (eL ez)) Γ1 := by
  show Si ((ff Γ).bind _) _ _ _
  refine hi.bind fun xs _ => ?_
  unfold comp2E
  cases h : comp2G mc m1 mc1 mg xs with
  | ok zs =>
    rw [compL2_ok hb xs zs h]
    dsimp only
    rw [List.length_map]
    split
    · rw [hr]; rfl
    · trivial
  | ex e => exact absurd h (comp2G_nex _ _)
  | st => trivial
end
/-! dict comprehensions -/
def dcE [DecidableEq κ] (c : α → E Bool) (g : α → E (κ × β)) (xs : List α) : E (List (κ × β)) := (compE c g xs).bind fun ps => .ok (ps.foldl (fun r p => putD r p.1 p.2) [])
section
variable [DecidableEq κ] {ek : κ → D} {ev : β → D} {is : List Nat} {ff : Ev → Out (List D)} {t : D → Ev → Option Ev} {c : Ev → Out Bool} {fk fv : Ev → Out D} {mi : E (List α)} {ex : α → D} {mc : α → E Bool} {mg : α → E (κ × β)}
theorem putAll_t {ky : κ → List L2.Key} (hk : KtE ek ky) : ∀ (ps rs : List (κ × β)), putAll true (ps.map (eP (nc ek (n1 ev)))) (rs.map fun p => (ek p.1, ev p.2)) = some ((ps.foldl (fun r p => putD r p.1 p.2) rs).map fun p => (ek p.1, ev p.2))
  | [], rs => rfl
  | p :: ps, rs => by
    show ((tKey (ek p.1)).map fun y => tPutL (rs.map fun p => (ek p.1, ev p.2)) y (ev p.2)).bind _ = _
    rw [hk.key, Option.map_some, Option.bind_some, tp_ok hk]
    exact putAll_t hk ps _
theorem putAll_k {ky : κ → L2.Key} (hk : KyE ek ky) : ∀ (ps rs : List (κ × β)), putAll false (ps.map (eP (nc ek (n1 ev)))) (rs.map fun p => (ek p.1, ev p.2)) = some ((ps.foldl (fun r p => putD r p.1 p.2) rs).map fun p => (ek p.1, ev p.2))
  | [], rs => rfl
  | p :: ps, rs => by
    show ((dKey (ek p.1)).map fun y => dPutL (rs.map fun p => (ek p.1, ev p.2)) y (ev p.2)).bind _ = _
    rw [hk.key, Option.map_some, Option.bind_some, dp_ok hk]
    exact putAll_k hk ps _
theorem j_dcG (b : Bool) {en : List (κ × β) → D} (hi : Si (ff Γ) mi (List.map ex) Γ1)
    (hp : ∀ ps : List (κ × β), ∃ rs, putAll b (ps.map (eP (nc ek (n1 ev)))) [] = some rs ∧ flD b rs = en (ps.foldl (fun r p => putD r p.1 p.2) []))
    (hb : ∀ x, ∃ Γx Γy Γz, t (ex x) (wipeG Γ1 is) = some Γx ∧ Si (c Γx) (mc x) id Γy ∧ Si (fTup (fsC fk (fsC fv fsN)) Γy) (mg x) (eP (nc ek (n1 ev))) Γz ∧ wipeG Γy is = wipeG Γ1 is ∧ wipeG Γz is = wipeG Γ1 is) (hr : restG Γ1 (wipeG Γ1 is) is = Γ1) :
    Si (vDc b is ff t c fk fv Γ) (mi.bind fun xs => dcE mc mg xs) (vs (flSh b) en) Γ1 := by
  show Si ((ff Γ).bind _) _ _ _
  refine hi.bind fun xs _ => ?_
  unfold dcE compE
  rw [List.length_map]
  split
  · cases h : compG mc mg xs with
    | ok ys =>
      rw [compL_ok hb xs ys h]
      obtain ⟨rs, e1, e2⟩ := hp ys
      dsimp only
      rw [e1]
      dsimp only
      rw [hr, e2]
      rfl
    | ex e => exact absurd h (compG_nex _ _ _ _)
    | st => trivial
  · trivial
theorem j_dcT {ky : κ → List L2.Key} (hk : KtE ek ky) (hi : Si (ff Γ) mi (List.map ex) Γ1)
    (hb : ∀ x, ∃ Γx Γy Γz, t (ex x) (wipeG Γ1 is) = some Γx ∧ Si (c Γx) (mc x) id Γy ∧ Si (fTup (fsC fk (fsC fv fsN)) Γy) (mg x) (eP (nc ek (n1 ev))) Γz ∧ wipeG Γy is = wipeG Γ1 is ∧ wipeG Γz is = wipeG Γ1 is) (hr : restG Γ1 (wipeG Γ1 is) is = Γ1) :
    Si (vDc true is ff t c fk fv Γ) (mi.bind fun xs => dcE mc mg xs) (vs (.e .z) (eDT ek ev)) Γ1 :=
  j_dcG true hi (fun ps => ⟨_, putAll_t hk ps [], rfl⟩) hb hr
theorem j_dcK {ky : κ → L2.Key} (hk : KyE ek ky) (hi : Si (ff Γ) mi (List.map ex) Γ1)
    (hb : ∀ x, ∃ Γx Γy Γz, t (ex x) (wipeG Γ1 is) = some Γx ∧ Si (c Γx) (mc x) id Γy ∧ Si (fTup (fsC fk (fsC fv fsN)) Γy) (mg x) (eP (nc ek (n1 ev))) Γz ∧ wipeG Γy is = wipeG Γ1 is ∧ wipeG Γz is = wipeG Γ1 is) (hr : restG Γ1 (wipeG Γ1 is) is = Γ1) :
    Si (vDc false is ff t c fk fv Γ) (mi.bind fun xs => dcE mc mg xs) (vs (.d .z) (eD ek ev)) Γ1 :=
  j_dcG false hi (fun ps => ⟨_, putAll_k hk ps [], rfl⟩) hb hr
end
/-! a try whose handler goes on -/
def tryJ {σ : Type} (t : Str → Option Bool) (r : E α) (s0 : σ) (h : Exc → E σ) : E σ := match r with
  | .ok _ => .ok s0
  | .ex x => (match t x.c with | some true => if x.fs.isEmpty = true then (h x).nex else .st | some false => .ex x | none => .st)
  | .st => .st
theorem t_tryJ {σ τ : Type} {R : τ → SO → Prop} {ss : List (Ev → SO)} {t : Str → Option Bool} {i n : Nat} {F : List D → Res} {fs : Ev → Out (List D)} {hs : Addr → Exc → Ev → SO} {ms : E β} {es : β → List D} {M : β → E γ} {ez : γ → Va} {mk : σ → E τ} {mh : Exc → E σ} (G : σ → Ev) (s0 : σ)
    (hfs : Si (fs (G s0)) ms es (G s0)) (hF : ∀ a, Sd (F (es a)) (M a) ez) (hl : ∀ a, (es a).length = n)
    (hh : ∀ x, Ti (run [hs 0 x] ((G s0).set i (some (.z, rawD 0)))) (mh x) (fun s r => ∃ Γ', r = .nx Γ' ∧ Γ'.set i none = G s)) (hk : ∀ s, Ti (run ss (G s)) (mk s) R) :
    Ti (run (sTryA t i (sExp (fV (fCall n F fs))) hs :: ss) (G s0)) ((ms.nex.bind fun a => tryJ t (M a) s0 mh).bind mk) R := by
  have hn : ∀ r : SO, r.then (run []) = r := fun r => by cases r <;> rfl
  show Ti ((sTryA _ _ _ _ (G s0)).then (run ss)) _ _
  unfold sTryA
  cases ms with
  | ok a =>
    rw [nex_ok, ok_bind, sExp_ap, fV_ap, fCall_ap, show fs (G s0) = .ok (es a) (G s0) from hfs, bind_ok, if_pos (hl a)]
    have h := (hF a).run
    unfold tryJ
    cases hM : M a with
    | ok z => rw [hM] at h; rw [show F (es a) = .ok (ez z) from h]; exact hk s0
    | ex x =>
      rw [hM] at h
      rw [show F (es a) = .ex x from h]
      show Ti ((tryA t i hs (.ex x (G s0))).then _) _ _
      unfold tryA
      dsimp only
      cases ht : t x.c with
      | none => trivial
      | some b => cases b with
        | false => exact ⟨G s0, rfl⟩
        | true =>
          dsimp only
          cases hx : x.fs.isEmpty with
          | true =>
            have q := hh x
            change Ti ((hs 0 x ((G s0).set i (some (.z, rawD 0)))).then (run [])) _ _ at q
            rw [hn] at q
            simp only [if_true]
            cases hm : mh x with
            | ok s =>
              rw [hm] at q
              obtain ⟨Γ', e1, e2⟩ := q
              rw [e1, sClr_nx, e2]
              exact hk s
            | ex e => trivial
            | st => trivial
          | false => trivial
    | st => trivial
  | ex x => trivial
  | st => trivial
end
end TM
namespace TM
open PySem PV
section
variable {α β γ σ ρ τ : Type}
/-! ### reckoning with the mirror -/
def nats (n : Nat) : List Int := (List.range n).map fun k => ((k : Nat) : Int)
theorem rg0 (n : Nat) : rg 0 n = nats n := by
  unfold rg nats
  refine List.map_congr_left fun k _ => ?_
  rw [Int.zero_add]
theorem nats_len (n : Nat) : (nats n).length = n := by simp [nats]
theorem nats_get {n k : Nat} (h : k < n) : (nats n)[k]? = some (k : Int) := by simp [nats, h]
theorem nats_at {n k : Nat} {x : Int} (h : (nats n)[k]? = some x) : k < n ∧ x = k := by
  by_cases c : k < n
  · rw [nats_get c] at h; exact ⟨c, (Option.some.inj h).symm⟩
  · rw [List.getElem?_eq_none (by rw [nats_len]; omega)] at h; cases h
theorem rg_at {lo : Int} {n k : Nat} {x : Int} (h : (rg lo n)[k]? = some x) : k < n ∧ x = lo + k := by
  by_cases c : k < n
  · have : (rg lo n)[k]? = some (lo + k) := by simp [rg, c]
    rw [this] at h; exact ⟨c, (Option.some.inj h).symm⟩
  · rw [List.getElem?_eq_none (by simp [rg]; omega)] at h; cases h
theorem nats_mem {n : Nat} {x : Int} : x ∈ nats n ↔ 0 ≤ x ∧ x < n := by
  unfold nats
  rw [List.mem_map]
  constructor
  · rintro ⟨k, hk, rfl⟩; rw [List.mem_range] at hk; omega
  · intro h; exact ⟨x.toNat, List.mem_range.mpr (by omega), by omega⟩
theorem nats_succ (n : Nat) : nats (n + 1) = nats n ++ [(n : Int)] := by simp [nats, List.range_succ]
theorem rg_get {lo : Int} {n k : Nat} (h : k < n) : (rg lo n)[k]? = some (lo + k) := by simp [rg, h]
theorem rg_len (lo : Int) (n : Nat) : (rg lo n).length = n := by simp [rg]
theorem rg_mem {lo : Int} {n : Nat} {x : Int} : x ∈ rg lo n ↔ lo ≤ x ∧ x < lo + n := by
  unfold rg
  rw [List.mem_map]
  constructor
  · rintro ⟨k, hk, rfl⟩; rw [List.mem_range] at hk; omega
  · intro h; exact ⟨(x - lo).toNat, List.mem_range.mpr (by omega), by omega⟩
theorem rg1_ok {n : Int} (h : n < 2 ^ 62) (h0 : -(2 ^ 62) ≤ n) : rg1 n = .ok (nats n.toNat) := by
  unfold rg1
  rw [chk_ok ⟨h, h0⟩, rg0]
theorem rg1_nat {n : Nat} (h : (n : Int) < 2 ^ 62) : rg1 (n : Int) = .ok (nats n) := by
  rw [rg1_ok h (by omega), Int.toNat_natCast]
theorem rg2_ok {lo hi : Int} (h1 : hi < 2 ^ 62) (h2 : -(2 ^ 62) ≤ hi) (h3 : lo < 2 ^ 62) (h4 : -(2 ^ 62) ≤ lo) : rg2 lo hi = .ok (rg lo (hi - lo).toNat) := by
  unfold rg2
  rw [chk_ok ⟨⟨h1, h2⟩, h3, h4⟩]
theorem lrE_ok {n : Int} (h : 0 ≤ n) (h0 : n ≤ 16777216) : lrE n = .ok (nats n.toNat) := by
  unfold lrE
  rw [chk_ok ⟨h, h0⟩, rg0]
theorem appE_ok {xs : List α} {x : α} (h : xs.length < 16777216) : appE xs x = .ok (xs ++ [x]) := by unfold appE; exact chk_ok h
theorem catE_ok {xs ys : List α} (h : xs.length + ys.length ≤ 16777216) : catE xs ys = .ok (xs ++ ys) := by unfold catE; exact chk_ok h
theorem modE_ok {a b : Int} (h : 0 < b) : modE a b = .ok (a % b) := by unfold modE; exact chk_ok h
theorem divE_ok {a b : Int} (h : 0 < b) (h2 : b < 2 ^ 64) : divE a b = .ok (a / b) := by unfold divE; exact chk_ok ⟨h, h2⟩
theorem mulE_r {a b : Int} (h : -(2 ^ 64) < b) (h2 : b < 2 ^ 64) : mulE a b = .ok (a * b) := by
  unfold mulE
  refine chk_ok ?_
  unfold mulOk
  rw [Bool.or_eq_true, decide_eq_true_eq, decide_eq_true_eq]
  omega
theorem mulE_l {a b : Int} (h : -(2 ^ 64) < a) (h2 : a < 2 ^ 64) : mulE a b = .ok (a * b) := by
  unfold mulE
  refine chk_ok ?_
  unfold mulOk
  rw [Bool.or_eq_true, decide_eq_true_eq, decide_eq_true_eq]
  omega
theorem shlE_ok {a b : Int} (h : 0 ≤ b) (h2 : b ≤ 1000000) (h3 : -(2 ^ 64) < a) (h4 : a < 2 ^ 64) : shlE a b = .ok (a * 2 ^ b.toNat) := by
  unfold shlE
  exact chk_ok ⟨h, h2, by omega⟩
theorem shrE_ok {a b : Int} (h : 0 ≤ b) : shrE a b = .ok (a / 2 ^ b.toNat) := by unfold shrE; exact chk_ok h
theorem repE_ok {xs : List α} {n : Int} (h : 0 ≤ n) (h2 : n < 2 ^ 63) (h3 : xs.length * n.toNat ≤ 16777216) : repE xs n = .ok (List.replicate n.toNat xs).flatten := by unfold repE; exact chk_ok ⟨h, h2, h3⟩
theorem ixE_nat {xs : List α} {k : Nat} {a : α} (h : xs[k]? = some a) : ixE xs (k : Int) = .ok a := by unfold ixE; rw [L2.atI_nat h]
theorem ixE_at {xs : List α} {i : Int} {a : α} (h0 : 0 ≤ i) (h : xs[i.toNat]? = some a) : ixE xs i = .ok a := by
  have := ixE_nat h
  rwa [Int.toNat_of_nonneg h0] at this
theorem ixE_lt {xs : List α} {i : Int} (h0 : 0 ≤ i) (h1 : i < xs.length) : ixE xs i = .ok (xs[i.toNat]'(by omega)) := ixE_at h0 (List.getElem?_eq_getElem _)
theorem ixE_0 {a : α} {xs : List α} : ixE (a :: xs) 0 = .ok a := ixE_nat (k := 0) rfl
theorem ixE_1 {a b : α} {xs : List α} : ixE (a :: b :: xs) 1 = .ok b := ixE_nat (k := 1) rfl
theorem ixE_2 {a b c : α} {xs : List α} : ixE (a :: b :: c :: xs) 2 = .ok c := ixE_nat (k := 2) rfl
theorem ixE_3 {a b c d : α} {xs : List α} : ixE (a :: b :: c :: d :: xs) 3 = .ok d := ixE_nat (k := 3) rfl
theorem ixE_4 {a b c d e : α} {xs : List α} : ixE (a :: b :: c :: d :: e :: xs) 4 = .ok e := ixE_nat (k := 4) rfl
theorem ixE_5 {a b c d e f : α} {xs : List α} : ixE (a :: b :: c :: d :: e :: f :: xs) 5 = .ok f := ixE_nat (k := 5) rfl
theorem mapE_ok {g : α → β} {xs : List α} (h : xs.length ≤ 16777216) : mapE g xs = .ok (xs.map g) := by unfold mapE; exact chk_ok h
theorem filE_ok {c : α → Bool} {g : α → β} {xs : List α} (h : xs.length ≤ 16777216) : filE c g xs = .ok ((xs.filter c).map g) := by unfold filE; exact chk_ok h
theorem compG_ok {mc : α → E Bool} {mg : α → E β} {c : α → Bool} {g : α → β} : ∀ {xs : List α}, (∀ x ∈ xs, mc x = .ok (c x)) → (∀ x ∈ xs, c x = true → mg x = .ok (g x)) → compG mc mg xs = .ok ((xs.filter c).map g)
  | [], _, _ => rfl
  | x :: xs, h1, h2 => by
    have ih := compG_ok (xs := xs) (fun y hy => h1 y (List.mem_cons_of_mem _ hy)) (fun y hy => h2 y (List.mem_cons_of_mem _ hy))
    unfold compG
    rw [h1 x (List.mem_cons_self ..)]
    cases hc : c x with
    | true => simp only [h2 x (List.mem_cons_self ..) hc, ih, ok_bind, List.filter_cons, hc, if_true, List.map_cons]
    | false => simp only [ih, List.filter_cons, hc, Bool.false_eq_true, if_false]
theorem compE_ok {mc : α → E Bool} {mg : α → E β} {c : α → Bool} {g : α → β} {xs : List α} (h : xs.length ≤ 16777216) (h1 : ∀ x ∈ xs, mc x = .ok (c x)) (h2 : ∀ x ∈ xs, c x = true → mg x = .ok (g x)) : compE mc mg xs = .ok ((xs.filter c).map g) := by
  unfold compE
  rw [if_pos h, compG_ok h1 h2]
theorem comE_ok {mg : α → E β} {g : α → β} {xs : List α} (h : xs.length ≤ 16777216) (h2 : ∀ x ∈ xs, mg x = .ok (g x)) : comE mg xs = .ok (xs.map g) := by
  unfold comE
  rw [compE_ok (c := fun _ => true) (g := g) h (fun _ _ => rfl) (fun x hx _ => h2 x hx), List.filter_eq_self.mpr fun _ _ => rfl]
/-- some list, when each item gives something -/
theorem comE_ex {mg : α → E β} {xs : List α} (P : α → β → Prop) (h : xs.length ≤ 16777216) (h2 : ∀ x ∈ xs, ∃ y, mg x = .ok y ∧ P x y) : ∃ ys, comE mg xs = .ok ys ∧ ys.length = xs.length ∧ ∀ (i : Nat) (x : α) (y : β), xs[i]? = some x → ys[i]? = some y → P x y := by
  classical
  by_cases hx : xs = []
  · subst hx
    exact ⟨[], by unfold comE compE; rw [if_pos (by simp)]; rfl, rfl, fun i x y h => by simp at h⟩
  · obtain ⟨x0, hx0⟩ := List.exists_mem_of_ne_nil xs hx
    obtain ⟨y0, _⟩ := h2 x0 hx0
    let g : α → β := fun x => if q : x ∈ xs then (h2 x q).choose else y0
    have hg : ∀ x (q : x ∈ xs), mg x = .ok (g x) ∧ P x (g x) := fun x q => by
      have := (h2 x q).choose_spec
      show mg x = .ok (if q : x ∈ xs then _ else _) ∧ P x (if q : x ∈ xs then _ else _)
      rw [dif_pos q]
      exact this
    refine ⟨xs.map g, comE_ok h fun x q => (hg x q).1, by simp, fun i x y e1 e2 => ?_⟩
    rw [List.getElem?_map, e1] at e2
    cases e2
    exact (hg x (List.mem_of_getElem? e1)).2
theorem setE_nat {xs : List α} {k : Nat} {x : α} (h : k < xs.length) : setE xs (k : Int) x = .ok (xs.set k x) := by unfold setE; rw [ixn_nat k _ h]
theorem setE_ok {xs : List α} {i : Int} {x : α} (h0 : 0 ≤ i) (h : i < xs.length) : setE xs i x = .ok (xs.set i.toNat x) := by
  have := setE_nat (xs := xs) (k := i.toNat) (x := x) (by omega)
  rwa [Int.toNat_of_nonneg h0] at this
theorem popE_nat {xs : List α} {k : Nat} {a : α} (h : xs[k]? = some a) (hb : xs.length ≤ 16777216) : popE xs (k : Int) = .ok (a, xs.eraseIdx k) := by
  have hk : k < xs.length := (List.getElem?_eq_some_iff.mp h).1
  unfold popE
  have hs : seqIndex? (k : Int) xs.length = some k := by
    unfold seqIndex?
    simp (disch := omega) [hk]
    try omega
  rw [if_pos (by omega), hs]
  simp only [h]
theorem popE_0 {a : α} {xs : List α} : popE (a :: xs) 0 = .ok (a, xs) := by
  unfold popE
  have hs : seqIndex? 0 (a :: xs).length = some 0 := by
    unfold seqIndex?
    simp only [List.length_cons]
    simp
    try omega
  rw [if_pos (by decide), hs]
  rfl
theorem popE_at {xs : List α} {i : Int} {a : α} (h0 : 0 ≤ i) (h : xs[i.toNat]? = some a) (hb : xs.length ≤ 16777216) : popE xs i = .ok (a, xs.eraseIdx i.toNat) := by
  have := popE_nat h hb
  rwa [Int.toNat_of_nonneg h0] at this
/-! loops -/
theorem forE_inv {f : σ → α → E σ} (I : Nat → σ → Prop) : ∀ (xs : List α) (j : Nat) (s : σ), I j s → (∀ i x s, xs[i]? = some x → I (j + i) s → ∃ s', f s x = .ok s' ∧ I (j + i + 1) s') → ∃ s', forE f xs s = .ok s' ∧ I (j + xs.length) s'
  | [], j, s, h, _ => ⟨s, rfl, h⟩
  | x :: xs, j, s, h, hs => by
    obtain ⟨s1, h1, h2⟩ := hs 0 x s rfl h
    obtain ⟨s', e, q⟩ := forE_inv I xs (j + 1) s1 h2 fun i y s2 hy hi => by
      have := hs (i + 1) y s2 (by simpa using hy) (by rw [show j + (i + 1) = j + 1 + i by omega]; exact hi)
      rw [show j + (i + 1) = j + 1 + i by omega] at this
      exact this
    refine ⟨s', ?_, by rw [List.length_cons, show j + (xs.length + 1) = j + 1 + xs.length by omega]; exact q⟩
    unfold forE
    rw [h1, ok_bind]
    exact e
theorem forE_inv0 {f : σ → α → E σ} (I : Nat → σ → Prop) {xs : List α} {s : σ} (h : I 0 s) (hs : ∀ i x s, xs[i]? = some x → I i s → ∃ s', f s x = .ok s' ∧ I (i + 1) s') : ∃ s', forE f xs s = .ok s' ∧ I xs.length s' := by
  obtain ⟨s', e, q⟩ := forE_inv I xs 0 s h fun i x s h1 h2 => by
    rw [Nat.zero_add] at h2 ⊢
    exact hs i x s h1 h2
  exact ⟨s', e, by rwa [Nat.zero_add] at q⟩
theorem forE_fold {f : σ → α → E σ} {g : σ → α → σ} : ∀ {xs : List α} {s : σ}, (∀ s, ∀ x ∈ xs, f s x = .ok (g s x)) → forE f xs s = .ok (xs.foldl g s)
  | [], s, _ => rfl
  | x :: xs, s, h => by
    unfold forE
    rw [h s x (List.mem_cons_self ..), ok_bind]
    exact forE_fold fun s y hy => h s y (List.mem_cons_of_mem _ hy)
/-- a list grown by one item a turn -/
theorem forE_app {f : List β → α → E (List β)} {g : α → β} : ∀ {xs : List α} {s : List β}, s.length + xs.length ≤ 16777216 → (∀ s, ∀ x ∈ xs, f s x = (appE s (g x))) → forE f xs s = .ok (s ++ xs.map g)
  | [], s, _, _ => by simp [forE]
  | x :: xs, s, hl, h => by
    rw [List.length_cons] at hl
    unfold forE
    rw [h s x (List.mem_cons_self ..), appE_ok (by omega), ok_bind, forE_app (g := g) (by rw [List.length_append]; simp; omega) fun s y hy => h s y (List.mem_cons_of_mem _ hy)]
    simp
theorem forR_nx {f : σ → α → E (Fl σ ρ)} {g : σ → α → σ} : ∀ {xs : List α} {s : σ}, (∀ s, ∀ x ∈ xs, f s x = .ok (.nx (g s x))) → forR f xs s = .ok (.inl (xs.foldl g s))
  | [], s, _ => rfl
  | x :: xs, s, h => by
    unfold forR
    rw [h s x (List.mem_cons_self ..), ok_bind]
    exact forR_nx fun s y hy => h s y (List.mem_cons_of_mem _ hy)
theorem forR_inv {f : σ → α → E (Fl σ ρ)} (I : Nat → σ → Prop) : ∀ (xs : List α) (j : Nat) (s : σ), I j s → (∀ i x s, xs[i]? = some x → I (j + i) s → ∃ s', f s x = .ok (.nx s') ∧ I (j + i + 1) s') → ∃ s', forR f xs s = .ok (.inl s') ∧ I (j + xs.length) s'
  | [], j, s, h, _ => ⟨s, rfl, h⟩
  | x :: xs, j, s, h, hs => by
    obtain ⟨s1, h1, h2⟩ := hs 0 x s rfl h
    obtain ⟨s', e, q⟩ := forR_inv I xs (j + 1) s1 h2 fun i y s2 hy hi => by
      have := hs (i + 1) y s2 (by simpa using hy) (by rw [show j + (i + 1) = j + 1 + i by omega]; exact hi)
      rw [show j + (i + 1) = j + 1 + i by omega] at this
      exact this
    refine ⟨s', ?_, by rw [List.length_cons, show j + (xs.length + 1) = j + 1 + xs.length by omega]; exact q⟩
    unfold forR
    rw [h1, ok_bind]
    exact e
theorem forR_inv0 {f : σ → α → E (Fl σ ρ)} (I : Nat → σ → Prop) {xs : List α} {s : σ} (h : I 0 s) (hs : ∀ i x s, xs[i]? = some x → I i s → ∃ s', f s x = .ok (.nx s') ∧ I (i + 1) s') : ∃ s', forR f xs s = .ok (.inl s') ∧ I xs.length s' := by
  obtain ⟨s', e, q⟩ := forR_inv I xs 0 s h fun i x s h1 h2 => by
    rw [Nat.zero_add] at h2 ⊢
    exact hs i x s h1 h2
  exact ⟨s', e, by rwa [Nat.zero_add] at q⟩
/-! two lists, item by item -/
inductive All2 (R : α → β → Prop) : List α → List β → Prop
  | nil : All2 R [] []
  | cons {a : α} {b : β} {as : List α} {bs : List β} : R a b → All2 R as bs → All2 R (a :: as) (b :: bs)
theorem All2.hd {R : α → β → Prop} {as : List α} {b : β} {bs : List β} (h : All2 R as (b :: bs)) : ∃ a as', as = a :: as' ∧ R a b ∧ All2 R as' bs := by cases h with | cons r h => exact ⟨_, _, rfl, r, h⟩
theorem All2.nl {R : α → β → Prop} {as : List α} (h : All2 R as []) : as = [] := by cases h; rfl
theorem All2.length {R : α → β → Prop} : ∀ {as : List α} {bs : List β}, All2 R as bs → as.length = bs.length
  | _, _, .nil => rfl
  | _, _, .cons _ h => congrArg (· + 1) h.length
theorem All2.append {R : α → β → Prop} : ∀ {as : List α} {bs : List β} {cs : List α} {ds : List β}, All2 R as bs → All2 R cs ds → All2 R (as ++ cs) (bs ++ ds)
  | _, _, _, _, .nil, h => h
  | _, _, _, _, .cons r h, h2 => .cons r (h.append h2)
theorem All2.get {R : α → β → Prop} : ∀ {as : List α} {bs : List β} {i : Nat} {b : β}, All2 R as bs → bs[i]? = some b → ∃ a, as[i]? = some a ∧ R a b
  | _, _, _, _, .nil, e => by simp at e
  | _, _, 0, _, .cons r _, e => by simp at e; subst e; exact ⟨_, rfl, r⟩
  | _, _, i + 1, _, .cons _ h, e => h.get (i := i) (by simpa using e)
/-! bits -/
theorem bitAnd1 (x : Int) (h : 0 ≤ x) : Builtin.bitAnd x 1 = x % 2 := by
  obtain ⟨n, rfl⟩ := Int.eq_ofNat_of_zero_le h
  show Builtin.bitAnd (Int.ofNat n) (Int.ofNat 1) = _
  unfold Builtin.bitAnd
  show Int.ofNat (n &&& 1) = _
  rw [Nat.and_one_is_mod]
  rfl
end
/-! the law's own -/
theorem tru_of {F : List D → Res} {ns : List Int} {M : E Bool} (h : Sd (F [eScr ns]) M (vs .z eB)) (hm : M = .ok true) : F [scr ns] = .ok (.z, .bool true) := by
  subst hm
  exact h.run
end TM
namespace K10
open PySem PV TM

def mk_MOST_CASES : Int := 64
def mk_NANDS : (List Str) := [(S "not"), (S "nand2"), (S "nand3")]
def mt_CONSTANTS : List (Str × Option Int) := [(S "tie0", some 0), (S "tie1", some 1), (S "not", none), (S "nand2", none), (S "nand3", none), (S "nor2", none), (S "nor3", none)]
def M_cell_value (kind_1 : Str) (values_2 : (List Int)) : E Int :=
 (E.bind (tabIn mt_CONSTANTS kind_1) fun t_11 =>
 (if t_11 = true then
 (tabGet mt_CONSTANTS kind_1)
 else
 (if (decide (kind_1 ∈ mk_NANDS)) = true then
 (E.bind (E.bind (E.bind (mapE (β := Bool) (fun value_3 =>
 (decide (value_3 = 1))) values_2) fun t_4 =>
 (E.ok (t_4.all id))) fun t_5 =>
 (E.ok (!t_5))) fun t_6 =>
 (E.ok (b2i t_6)))
 else
 (E.bind (E.bind (E.bind (mapE (β := Bool) (fun value_7 =>
 (decide (value_7 = 1))) values_2) fun t_8 =>
 (E.ok (t_8.any id))) fun t_9 =>
 (E.ok (!t_9))) fun t_10 =>
 (E.ok (b2i t_10))))))
theorem sd_cell_value (kind_1 : Str) (values_2 : (List Int)) : Sd (F_cell_value [eS kind_1, (eL eI) values_2]) (M_cell_value kind_1 values_2) (vs .z eI) :=
  sd_mk (d_ok (Γ0 := [some (.z, eS kind_1), some (.z, (eL eI) values_2), none]) rfl rfl (t_seq (t_if (j_bf (j_kin mt_CONSTANTS eI (o_f (j_n 0 eS kind_1 rfl)) rfl)) (t_ret (j_vf (j_kget mt_CONSTANTS eI (o_f (j_n 0 eS kind_1 rfl)) rfl))) (t_nx (t_seq (t_if (j_bv (j_o2 (o_f (j_n 0 eS kind_1 rfl)) (o_f (j_c kd_NANDS (eKT eS) mk_NANDS rfl)) (fun _ _ _ _ => q_inKT fl_S ev_S _ _))) (t_ret (j_vf (j_v (j_b1 (o_f (j_fnot (j_v (j_b1 (o_f (j_v (j_compM (ey := eB) (i_l (j_n 1 (eL eI) values_2 rfl)) (fun value_3 => ⟨_, _, rfl, (j_v (j_o2 (o_f (j_n 2 eI value_3 rfl)) (o_f (j_c (.int 1) eI 1 rfl)) (fun _ _ _ _ => q_eqI _ _))), rfl, rfl⟩) rfl))) (fun _ _ => q_all _))))) (fun _ _ => q_intB _))))) (t_nx (t_ret (j_vf (j_v (j_b1 (o_f (j_fnot (j_v (j_b1 (o_f (j_v (j_compM (ey := eB) (i_l (j_n 1 (eL eI) values_2 rfl)) (fun value_7 => ⟨_, _, rfl, (j_v (j_o2 (o_f (j_n 2 eI value_7 rfl)) (o_f (j_c (.int 1) eI 1 rfl)) (fun _ _ _ _ => q_eqI _ _))), rfl, rfl⟩) rfl))) (fun _ _ => q_any _))))) (fun _ _ => q_intB _)))))))))))) (by unfold M_cell_value; simp only [TM.bind_assoc, ok_bind, bind_ok_r, nex_ok])
def M_latch_cells (circuit_1 : (Int × (List (Str × (List Int) × Int)) × (List Int) × (List Int))) : E (List (Str × (List Int) × Int)) :=
 (filE (β := (Str × (List Int) × Int)) (fun cell_2 => (decide ((cell_2.1) = (S "latch")))) (fun cell_2 =>
 cell_2) (circuit_1.2.1))
theorem sd_latch_cells (circuit_1 : (Int × (List (Str × (List Int) × Int)) × (List Int) × (List Int))) : Sd (F_latch_cells [(eP (nc eI (nc (eT (eP (nc eS (nc (eT eI) (n1 eI))))) (nc (eT eI) (n1 (eT eI)))))) circuit_1]) (M_latch_cells circuit_1) (vs (.l .z) (eL (eP (nc eS (nc (eT eI) (n1 eI)))))) :=
  sd_mk (d_ok (Γ0 := [some (.z, (eP (nc eI (nc (eT (eP (nc eS (nc (eT eI) (n1 eI))))) (nc (eT eI) (n1 (eT eI)))))) circuit_1), none]) rfl rfl (t_ret (j_compF (ey := (eP (nc eS (nc (eT eI) (n1 eI))))) (i_t (j_v (j_o2 (o_f (j_n 0 (eP (nc eI (nc (eT (eP (nc eS (nc (eT eI) (n1 eI))))) (nc (eT eI) (n1 (eT eI)))))) circuit_1 rfl)) (o_f (j_c (.int 1) eI 1 rfl)) (fun _ _ _ h => q_pj (e1 := (eT (eP (nc eS (nc (eT eI) (n1 eI)))))) (fun (p : (Int × (List (Str × (List Int) × Int)) × (List Int) × (List Int))) => (p.2.1)) 1 (ixn_nat 1) (fun _ => rfl) _ h)))) (fun cell_2 => ⟨_, _, _, rfl, (j_bv (j_o2 (o_f (j_v (j_o2 (o_f (j_n 1 (eP (nc eS (nc (eT eI) (n1 eI)))) cell_2 rfl)) (o_f (j_c (.int 0) eI 0 rfl)) (fun _ _ _ h => q_pj (e1 := eS) (fun (p : (Str × (List Int) × Int)) => (p.1)) 0 (ixn_nat 0) (fun _ => rfl) _ h)))) (o_f (j_c (.str (S "latch")) eS (S "latch") rfl)) (fun _ _ _ _ => q_eqS _ _))), (j_n 1 (eP (nc eS (nc (eT eI) (n1 eI)))) cell_2 rfl), rfl, rfl⟩) rfl))) (by unfold M_latch_cells; simp only [TM.bind_assoc, ok_bind, bind_ok_r, nex_ok])
def B_settled_values_1 (stuck_4 : (List (Int × Int))) : (((List Int) × (List Int))) → ((Str × (List Int) × Int)) → E ((List Int) × (List Int)) := fun s_8 x_9 =>
 (E.bind (if (decide ((x_9.1) = (S "latch"))) = true then (E.bind (popE (s_8.2) 0) fun value_10 =>
 (E.ok (value_10.2, value_10.1))) else (E.bind (E.bind (comE (β := Int) (fun net_12 =>
 (ixE (s_8.1) net_12)) (x_9.2.1)) fun t_14 =>
 (M_cell_value (x_9.1) t_14)) fun value_11 =>
 (E.ok ((s_8.2), value_11)))) fun s_15 =>
 (E.bind (appE (s_8.1) ((lookD stuck_4 (x_9.2.2)).getD (s_15.2))) fun values_16 =>
 (E.ok (values_16, (s_15.1)))))
def M_settled_values (circuit_1 : (Int × (List (Str × (List Int) × Int)) × (List Int) × (List Int))) (inputs_2 : (List Int)) (states_3 : (List Int)) (stuck_4 : (List (Int × Int))) : E (List Int) :=
 (E.bind (mapE (β := Int) (fun x_6 =>
 ((lookD stuck_4 (x_6.1)).getD (x_6.2))) (enum inputs_2)) fun values_5 =>
 (E.bind (E.ok states_3) fun left_7 =>
 (E.bind (forE (σ := (List Int) × (List Int)) (B_settled_values_1 stuck_4) (circuit_1.2.1) (values_5, left_7)) fun s_17 =>
 (E.ok (s_17.1)))))
theorem sd_settled_values (circuit_1 : (Int × (List (Str × (List Int) × Int)) × (List Int) × (List Int))) (inputs_2 : (List Int)) (states_3 : (List Int)) (stuck_4 : (List (Int × Int))) : Sd (F_settled_values [(eP (nc eI (nc (eT (eP (nc eS (nc (eT eI) (n1 eI))))) (nc (eT eI) (n1 (eT eI)))))) circuit_1, (eL eI) inputs_2, (eL eI) states_3, (eD eI eI) stuck_4]) (M_settled_values circuit_1 inputs_2 states_3 stuck_4) (vs (.l .z) (eL eI)) :=
  sd_mk (d_ok (Γ0 := [some (.z, (eP (nc eI (nc (eT (eP (nc eS (nc (eT eI) (n1 eI))))) (nc (eT eI) (n1 (eT eI)))))) circuit_1), some (.z, (eL eI) inputs_2), some (.z, (eL eI) states_3), some (.z, (eD eI eI) stuck_4), none, none, none, none, none, none, none, none]) rfl rfl (t_seq (t_asg 4 (j_compM (ey := eI) (i_en (f_1 (j_n 1 (eL eI) inputs_2 rfl))) (fun x_6 => ⟨_, _, rfl, (j_get2 ky_I eI (j_n 3 (eD eI eI) stuck_4 rfl) (j_n 10 eI (x_6.1) rfl) (j_n 11 eI (x_6.2) rfl)), rfl, rfl⟩) rfl) (fun values_5 => (t_seq (t_asg 5 (j_b1 (o_f (j_n 2 (eL eI) states_3 rfl)) (fun _ _ => q_listL _)) (fun left_7 => (t_seq (t_pre (t_for (σ := (List Int) × (List Int)) (fun s_8 => [some (.z, (eP (nc eI (nc (eT (eP (nc eS (nc (eT eI) (n1 eI))))) (nc (eT eI) (n1 (eT eI)))))) circuit_1), some (.z, (eL eI) inputs_2), some (.z, (eL eI) states_3), some (.z, (eD eI eI) stuck_4), some ((.l .z), (eL eI) (s_8.1)), some ((.l .z), (eL eI) (s_8.2)), none, none, none, none, none, none]) (values_5, left_7) (i_t (j_v (j_o2 (o_f (j_n 0 (eP (nc eI (nc (eT (eP (nc eS (nc (eT eI) (n1 eI))))) (nc (eT eI) (n1 (eT eI)))))) circuit_1 rfl)) (o_f (j_c (.int 1) eI 1 rfl)) (fun _ _ _ h => q_pj (e1 := (eT (eP (nc eS (nc (eT eI) (n1 eI)))))) (fun (p : (Int × (List (Str × (List Int) × Int)) × (List Int) × (List Int))) => (p.2.1)) 1 (ixn_nat 1) (fun _ => rfl) _ h)))) (fun s_8 x_9 => ⟨_, rfl, t_wp (t_seq (t_ifj (σ := (List Int) × Int) [] (fun s_15 => [some (.z, (eP (nc eI (nc (eT (eP (nc eS (nc (eT eI) (n1 eI))))) (nc (eT eI) (n1 (eT eI)))))) circuit_1), some (.z, (eL eI) inputs_2), some (.z, (eL eI) states_3), some (.z, (eD eI eI) stuck_4), some ((.l .z), (eL eI) (s_8.1)), some ((.l .z), (eL eI) (s_15.1)), some (.z, eS (x_9.1)), some (.z, (eT eI) (x_9.2.1)), some (.z, eI (x_9.2.2)), some (.z, eI (s_15.2)), none, none]) (j_bv (j_o2 (o_f (j_n 6 eS (x_9.1) rfl)) (o_f (j_c (.str (S "latch")) eS (S "latch") rfl)) (fun _ _ _ _ => q_eqS _ _))) (t_asgG (α := Int × List Int) 9 (g_pop 5 eI (s_8.2) ⟨_, rfl⟩ (j_c (.int 0) eI 0 rfl) rfl) (fun value_10 => (t_end (s := (value_10.2, value_10.1)) ⟨_, rfl, rfl⟩))) (t_asg 9 (j_vf (j_v (j_call (M := (fun (p : (Str × (List Int))) => M_cell_value (p.1) (p.2))) (f_c (j_n 6 eS (x_9.1) rfl) (f_1 (j_v (j_compE (ey := eI) (i_t (j_n 7 (eT eI) (x_9.2.1) rfl)) (fun net_12 => ⟨_, _, rfl, (j_v (j_o2 (o_b 4 _ (eL eI) (s_8.1) rfl (by rfl)) (o_f (j_n 10 eI net_12 rfl)) (fun _ _ _ _ => q_ixL _ _))), rfl, rfl⟩) rfl)))) (fun (p : (Str × (List Int))) => sd_cell_value (p.1) (p.2)) (fun _ => rfl)))) (fun value_11 => (t_end (s := ((s_8.2), value_11)) ⟨_, rfl, rfl⟩))) (fun s_15 => (t_app 4 eI (s_8.1) ⟨_, rfl⟩ (j_get2 ky_I eI (j_n 3 (eD eI eI) stuck_4 rfl) (j_n 8 eI (x_9.2.2) rfl) (j_n 9 eI (s_15.2) rfl)) rfl (fun values_16 => (t_end (s := (values_16, (s_15.1))) ⟨_, .inl rfl, rfl⟩))))))⟩) (fun s_17 => (t_ret (j_mv 4 _ (eL eI) (s_17.1) rfl))))))))))))) (by unfold M_settled_values; delta B_settled_values_1; simp only [TM.bind_assoc, ok_bind, bind_ok_r, nex_ok])
def M_bit_count (circuit_1 : (Int × (List (Str × (List Int) × Int)) × (List Int) × (List Int))) : E Int :=
 (E.bind (E.bind (M_latch_cells circuit_1) fun t_2 =>
 (E.ok (t_2.length : Int))) fun t_3 =>
 (E.ok ((circuit_1.1) + t_3)))
theorem sd_bit_count (circuit_1 : (Int × (List (Str × (List Int) × Int)) × (List Int) × (List Int))) : Sd (F_bit_count [(eP (nc eI (nc (eT (eP (nc eS (nc (eT eI) (n1 eI))))) (nc (eT eI) (n1 (eT eI)))))) circuit_1]) (M_bit_count circuit_1) (vs .z eI) :=
  sd_mk (d_ok (Γ0 := [some (.z, (eP (nc eI (nc (eT (eP (nc eS (nc (eT eI) (n1 eI))))) (nc (eT eI) (n1 (eT eI)))))) circuit_1)]) rfl rfl (t_ret (j_vf (j_v (j_o2 (o_f (j_v (j_o2 (o_f (j_n 0 (eP (nc eI (nc (eT (eP (nc eS (nc (eT eI) (n1 eI))))) (nc (eT eI) (n1 (eT eI)))))) circuit_1 rfl)) (o_f (j_c (.int 0) eI 0 rfl)) (fun _ _ _ h => q_pj (e1 := eI) (fun (p : (Int × (List (Str × (List Int) × Int)) × (List Int) × (List Int))) => (p.1)) 0 (ixn_nat 0) (fun _ => rfl) _ h)))) (o_f (j_v (j_b1 (o_f (j_v (j_call (M := M_latch_cells) (f_1 (j_n 0 (eP (nc eI (nc (eT (eP (nc eS (nc (eT eI) (n1 eI))))) (nc (eT eI) (n1 (eT eI)))))) circuit_1 rfl)) sd_latch_cells (fun _ => rfl)))) (fun _ _ => q_lenL _)))) (fun _ _ _ _ => q_add _ _)))))) (by unfold M_bit_count; simp only [TM.bind_assoc, ok_bind, bind_ok_r, nex_ok])
def M_case_count (circuit_1 : (Int × (List (Str × (List Int) × Int)) × (List Int) × (List Int))) : E Int :=
 (E.bind (M_bit_count circuit_1) fun t_2 =>
 (shlE 1 t_2))
theorem sd_case_count (circuit_1 : (Int × (List (Str × (List Int) × Int)) × (List Int) × (List Int))) : Sd (F_case_count [(eP (nc eI (nc (eT (eP (nc eS (nc (eT eI) (n1 eI))))) (nc (eT eI) (n1 (eT eI)))))) circuit_1]) (M_case_count circuit_1) (vs .z eI) :=
  sd_mk (d_ok (Γ0 := [some (.z, (eP (nc eI (nc (eT (eP (nc eS (nc (eT eI) (n1 eI))))) (nc (eT eI) (n1 (eT eI)))))) circuit_1)]) rfl rfl (t_ret (j_vf (j_v (j_o2 (o_f (j_c (.int 1) eI 1 rfl)) (o_f (j_v (j_call (M := M_bit_count) (f_1 (j_n 0 (eP (nc eI (nc (eT (eP (nc eS (nc (eT eI) (n1 eI))))) (nc (eT eI) (n1 (eT eI)))))) circuit_1 rfl)) sd_bit_count (fun _ => rfl)))) (fun _ _ _ _ => q_shl _ _)))))) (by unfold M_case_count; simp only [TM.bind_assoc, ok_bind, bind_ok_r, nex_ok])
def M_case_bits (circuit_1 : (Int × (List (Str × (List Int) × Int)) × (List Int) × (List Int))) (case_2 : Int) : E ((List Int) × (List Int)) :=
 (E.bind (E.bind (if (decide (0 ≤ case_2)) = true then (E.bind (M_case_count circuit_1) fun t_3 => E.ok (decide (case_2 < t_3))) else E.ok false) fun t_4 =>
 (E.ok (!t_4))) fun t_11 =>
 (if t_11 = true then
 (E.ex ⟨(S "NoSuchThing"), []⟩)
 else
 (E.bind (E.bind (E.bind (M_bit_count circuit_1) fun t_7 =>
 (rg1 t_7)) fun t_10 =>
 (comE (β := Int) (fun k_8 =>
 (E.bind (shrE case_2 k_8) fun t_9 =>
 (E.ok (Builtin.bitAnd t_9 1)))) t_10)) fun bits_5 =>
 (E.ok ((cut bits_5 none (some (circuit_1.1))), (cut bits_5 (some (circuit_1.1)) none))))))
theorem sd_case_bits (circuit_1 : (Int × (List (Str × (List Int) × Int)) × (List Int) × (List Int))) (case_2 : Int) : Sd (F_case_bits [(eP (nc eI (nc (eT (eP (nc eS (nc (eT eI) (n1 eI))))) (nc (eT eI) (n1 (eT eI)))))) circuit_1, eI case_2]) (M_case_bits circuit_1 case_2) (vs .z (eP (nc (eL eI) (n1 (eL eI))))) :=
  sd_mk (d_ok (Γ0 := [some (.z, (eP (nc eI (nc (eT (eP (nc eS (nc (eT eI) (n1 eI))))) (nc (eT eI) (n1 (eT eI)))))) circuit_1), some (.z, eI case_2), none, none]) rfl rfl (t_seq (t_if (j_not (j_bf (j_ch (o_f (j_c (.int 0) eI 0 rfl)) (o_f (j_n 1 eI case_2 rfl)) (o_f (j_v (j_call (M := M_case_count) (f_1 (j_n 0 (eP (nc eI (nc (eT (eP (nc eS (nc (eT eI) (n1 eI))))) (nc (eT eI) (n1 (eT eI)))))) circuit_1 rfl)) sd_case_count (fun _ => rfl)))) (fun _ _ => q_le _ _) (fun _ _ => q_lt _ _)))) (t_raise _) (t_nx (t_seq (t_fz 2 (j_compE (ey := eI) (i_r1 (f_1 (j_v (j_call (M := M_bit_count) (f_1 (j_n 0 (eP (nc eI (nc (eT (eP (nc eS (nc (eT eI) (n1 eI))))) (nc (eT eI) (n1 (eT eI)))))) circuit_1 rfl)) sd_bit_count (fun _ => rfl))))) (fun k_8 => ⟨_, _, rfl, (j_v (j_o2 (o_f (j_v (j_o2 (o_f (j_n 1 eI case_2 rfl)) (o_f (j_n 3 eI k_8 rfl)) (fun _ _ _ _ => q_shr _ _)))) (o_f (j_c (.int 1) eI 1 rfl)) (fun _ _ _ _ => q_and _ _))), rfl, rfl⟩) rfl) (fun _ => rfl) (fun bits_5 => (t_ret (j_vf (j_tup 2 (f_c (j_v (j_cut (o_f (j_n 2 (eL eI) bits_5 rfl)) p_n (p_s (j_v (j_o2 (o_f (j_n 0 (eP (nc eI (nc (eT (eP (nc eS (nc (eT eI) (n1 eI))))) (nc (eT eI) (n1 (eT eI)))))) circuit_1 rfl)) (o_f (j_c (.int 0) eI 0 rfl)) (fun _ _ _ h => q_pj (e1 := eI) (fun (p : (Int × (List (Str × (List Int) × Int)) × (List Int) × (List Int))) => (p.1)) 0 (ixn_nat 0) (fun _ => rfl) _ h)))) (fun _ _ _ => q_cutL _ _ _))) (f_1 (j_v (j_cut (o_f (j_n 2 (eL eI) bits_5 rfl)) (p_s (j_v (j_o2 (o_f (j_n 0 (eP (nc eI (nc (eT (eP (nc eS (nc (eT eI) (n1 eI))))) (nc (eT eI) (n1 (eT eI)))))) circuit_1 rfl)) (o_f (j_c (.int 0) eI 0 rfl)) (fun _ _ _ h => q_pj (e1 := eI) (fun (p : (Int × (List (Str × (List Int) × Int)) × (List Int) × (List Int))) => (p.1)) 0 (ixn_nat 0) (fun _ => rfl) _ h)))) p_n (fun _ _ _ => q_cutL _ _ _))))) (by decide) (fun _ => rfl))))))))))) (by unfold M_case_bits; simp only [TM.bind_assoc, ok_bind, bind_ok_r, nex_ok])
def M_check_flaw (circuit_1 : (Int × (List (Str × (List Int) × Int)) × (List Int) × (List Int))) (flaw_2 : (Int × Int)) : E Unit :=
 (E.bind (E.bind (E.bind (if (decide (0 ≤ (flaw_2.1))) = true then E.ok (decide ((flaw_2.1) < ((circuit_1.1) + ((circuit_1.2.1).length : Int)))) else E.ok false) fun t_3 =>
 (E.ok (!t_3))) fun t_4 =>
 (E.ok (t_4 || (!decide ((flaw_2.2) ∈ [0, 1]))))) fun t_5 =>
 (if t_5 = true then
 (E.ex ⟨(S "NoSuchThing"), []⟩)
 else
 (E.ok ())))
theorem sd_check_flaw (circuit_1 : (Int × (List (Str × (List Int) × Int)) × (List Int) × (List Int))) (flaw_2 : (Int × Int)) : Sd (F_check_flaw [(eP (nc eI (nc (eT (eP (nc eS (nc (eT eI) (n1 eI))))) (nc (eT eI) (n1 (eT eI)))))) circuit_1, (eP (nc eI (n1 eI))) flaw_2]) (M_check_flaw circuit_1 flaw_2) (vs .z eN) :=
  sd_mk (d_ok (Γ0 := [some (.z, (eP (nc eI (nc (eT (eP (nc eS (nc (eT eI) (n1 eI))))) (nc (eT eI) (n1 (eT eI)))))) circuit_1), some (.z, (eP (nc eI (n1 eI))) flaw_2)]) rfl rfl (t_if (j_orP (j_not (j_bf (j_ch (o_f (j_c (.int 0) eI 0 rfl)) (o_f (j_v (j_o2 (o_f (j_n 1 (eP (nc eI (n1 eI))) flaw_2 rfl)) (o_f (j_c (.int 0) eI 0 rfl)) (fun _ _ _ h => q_pj (e1 := eI) (fun (p : (Int × Int)) => (p.1)) 0 (ixn_nat 0) (fun _ => rfl) _ h)))) (o_f (j_v (j_o2 (o_f (j_v (j_o2 (o_f (j_n 0 (eP (nc eI (nc (eT (eP (nc eS (nc (eT eI) (n1 eI))))) (nc (eT eI) (n1 (eT eI)))))) circuit_1 rfl)) (o_f (j_c (.int 0) eI 0 rfl)) (fun _ _ _ h => q_pj (e1 := eI) (fun (p : (Int × (List (Str × (List Int) × Int)) × (List Int) × (List Int))) => (p.1)) 0 (ixn_nat 0) (fun _ => rfl) _ h)))) (o_f (j_v (j_b1 (o_f (j_v (j_o2 (o_f (j_n 0 (eP (nc eI (nc (eT (eP (nc eS (nc (eT eI) (n1 eI))))) (nc (eT eI) (n1 (eT eI)))))) circuit_1 rfl)) (o_f (j_c (.int 1) eI 1 rfl)) (fun _ _ _ h => q_pj (e1 := (eT (eP (nc eS (nc (eT eI) (n1 eI)))))) (fun (p : (Int × (List (Str × (List Int) × Int)) × (List Int) × (List Int))) => (p.2.1)) 1 (ixn_nat 1) (fun _ => rfl) _ h)))) (fun _ _ => q_lenT _)))) (fun _ _ _ _ => q_add _ _)))) (fun _ _ => q_le _ _) (fun _ _ => q_lt _ _)))) (j_bv (j_o2 (o_f (j_v (j_o2 (o_f (j_n 1 (eP (nc eI (n1 eI))) flaw_2 rfl)) (o_f (j_c (.int 1) eI 1 rfl)) (fun _ _ _ h => q_pj (e1 := eI) (fun (p : (Int × Int)) => (p.2)) 1 (ixn_nat 1) (fun _ => rfl) _ h)))) (o_f (j_ttup 2 (f_lc (j_c (.int 0) eI 0 rfl) (f_lc (j_c (.int 1) eI 1 rfl) (f_l0 eI))) (by decide) (hl_c (hl_c hl_0)))) (fun _ _ _ _ => q_ninT fl_I ev_I _ _)))) (t_raise _) (t_nx (t_end (s := ()) (.inr ⟨⟨_, rfl⟩, rfl⟩))))) (by unfold M_check_flaw; simp only [TM.bind_assoc, ok_bind, bind_ok_r, nex_ok])
def M_answers (circuit_1 : (Int × (List (Str × (List Int) × Int)) × (List Int) × (List Int))) (case_2 : Int) (stuck_3 : (List (Int × Int))) : E (List Int) :=
 (E.bind (M_case_bits circuit_1 case_2) fun q_4 =>
 (E.bind (M_settled_values circuit_1 (q_4.1) (q_4.2) stuck_3) fun values_5 =>
 (E.bind (E.bind (E.bind (M_latch_cells circuit_1) fun t_8 =>
 (comE (β := Int) (fun cell_7 =>
 (ixE (cell_7.2.1) 0)) t_8)) fun t_9 =>
 (catE (circuit_1.2.2.1) t_9)) fun ends_6 =>
 (comE (β := Int) (fun net_10 =>
 (ixE values_5 net_10)) ends_6))))
theorem sd_answers (circuit_1 : (Int × (List (Str × (List Int) × Int)) × (List Int) × (List Int))) (case_2 : Int) (stuck_3 : (List (Int × Int))) : Sd (F_answers [(eP (nc eI (nc (eT (eP (nc eS (nc (eT eI) (n1 eI))))) (nc (eT eI) (n1 (eT eI)))))) circuit_1, eI case_2, (eD eI eI) stuck_3]) (M_answers circuit_1 case_2 stuck_3) (vs (.l .z) (eL eI)) :=
  sd_mk (d_ok (Γ0 := [some (.z, (eP (nc eI (nc (eT (eP (nc eS (nc (eT eI) (n1 eI))))) (nc (eT eI) (n1 (eT eI)))))) circuit_1), some (.z, eI case_2), some (.z, (eD eI eI) stuck_3), none, none, none, none, none, none]) rfl rfl (t_seq (t_tgt _ (j_v (j_call (M := (fun (p : ((Int × (List (Str × (List Int) × Int)) × (List Int) × (List Int)) × Int)) => M_case_bits (p.1) (p.2))) (f_c (j_n 0 (eP (nc eI (nc (eT (eP (nc eS (nc (eT eI) (n1 eI))))) (nc (eT eI) (n1 (eT eI)))))) circuit_1 rfl) (f_1 (j_n 1 eI case_2 rfl))) (fun (p : ((Int × (List (Str × (List Int) × Int)) × (List Int) × (List Int)) × Int)) => sd_case_bits (p.1) (p.2)) (fun _ => rfl))) (fun _ => rfl) (fun q_4 => (t_seq (t_asg 5 (j_vf (j_v (j_call (M := (fun (p : ((Int × (List (Str × (List Int) × Int)) × (List Int) × (List Int)) × (List Int) × (List Int) × (List (Int × Int)))) => M_settled_values (p.1) (p.2.1) (p.2.2.1) (p.2.2.2))) (f_c (j_n 0 (eP (nc eI (nc (eT (eP (nc eS (nc (eT eI) (n1 eI))))) (nc (eT eI) (n1 (eT eI)))))) circuit_1 rfl) (f_c (j_n 3 (eL eI) (q_4.1) rfl) (f_c (j_n 4 (eL eI) (q_4.2) rfl) (f_1 (j_n 2 (eD eI eI) stuck_3 rfl))))) (fun (p : ((Int × (List (Str × (List Int) × Int)) × (List Int) × (List Int)) × (List Int) × (List Int) × (List (Int × Int)))) => sd_settled_values (p.1) (p.2.1) (p.2.2.1) (p.2.2.2)) (fun _ => rfl)))) (fun values_5 => (t_seq (t_asg 6 (j_vf (j_v (j_o2 (o_f (j_v (j_b1 (o_f (j_v (j_o2 (o_f (j_n 0 (eP (nc eI (nc (eT (eP (nc eS (nc (eT eI) (n1 eI))))) (nc (eT eI) (n1 (eT eI)))))) circuit_1 rfl)) (o_f (j_c (.int 2) eI 2 rfl)) (fun _ _ _ h => q_pj (e1 := (eT eI)) (fun (p : (Int × (List (Str × (List Int) × Int)) × (List Int) × (List Int))) => (p.2.2.1)) 2 (ixn_nat 2) (fun _ => rfl) _ h)))) (fun _ _ => q_listT _)))) (o_f (j_v (j_compE (ey := eI) (i_l (j_v (j_call (M := M_latch_cells) (f_1 (j_n 0 (eP (nc eI (nc (eT (eP (nc eS (nc (eT eI) (n1 eI))))) (nc (eT eI) (n1 (eT eI)))))) circuit_1 rfl)) sd_latch_cells (fun _ => rfl)))) (fun cell_7 => ⟨_, _, rfl, (j_v (j_o2 (o_f (j_v (j_o2 (o_f (j_n 8 (eP (nc eS (nc (eT eI) (n1 eI)))) cell_7 rfl)) (o_f (j_c (.int 1) eI 1 rfl)) (fun _ _ _ h => q_pj (e1 := (eT eI)) (fun (p : (Str × (List Int) × Int)) => (p.2.1)) 1 (ixn_nat 1) (fun _ => rfl) _ h)))) (o_f (j_c (.int 0) eI 0 rfl)) (fun _ _ _ _ => q_ixT _ _))), rfl, rfl⟩) rfl))) (fun _ _ _ _ => q_addL _ _)))) (fun ends_6 => (t_ret (j_compE (ey := eI) (i_l (j_n 6 (eL eI) ends_6 rfl)) (fun net_10 => ⟨_, _, rfl, (j_v (j_o2 (o_f (j_n 5 (eL eI) values_5 rfl)) (o_f (j_n 7 eI net_10 rfl)) (fun _ _ _ _ => q_ixL _ _))), rfl, rfl⟩) rfl)))))))))))) (by unfold M_answers; simp only [TM.bind_assoc, ok_bind, bind_ok_r, nex_ok])
def M_shows (circuit_1 : (Int × (List (Str × (List Int) × Int)) × (List Int) × (List Int))) (flaw_2 : (Int × Int)) (case_3 : Int) : E Bool :=
 (E.bind (M_check_flaw circuit_1 flaw_2) fun u_4 =>
 (E.bind (M_answers circuit_1 case_3 [((flaw_2.1), (flaw_2.2))]) fun t_5 =>
 (E.bind (M_answers circuit_1 case_3 []) fun t_6 =>
 (E.ok (!decide (t_5 = t_6))))))
theorem sd_shows (circuit_1 : (Int × (List (Str × (List Int) × Int)) × (List Int) × (List Int))) (flaw_2 : (Int × Int)) (case_3 : Int) : Sd (F_shows [(eP (nc eI (nc (eT (eP (nc eS (nc (eT eI) (n1 eI))))) (nc (eT eI) (n1 (eT eI)))))) circuit_1, (eP (nc eI (n1 eI))) flaw_2, eI case_3]) (M_shows circuit_1 flaw_2 case_3) (vs .z eB) :=
  sd_mk (d_ok (Γ0 := [some (.z, (eP (nc eI (nc (eT (eP (nc eS (nc (eT eI) (n1 eI))))) (nc (eT eI) (n1 (eT eI)))))) circuit_1), some (.z, (eP (nc eI (n1 eI))) flaw_2), some (.z, eI case_3)]) rfl rfl (t_seq (t_exp (j_v (j_call (M := (fun (p : ((Int × (List (Str × (List Int) × Int)) × (List Int) × (List Int)) × (Int × Int))) => M_check_flaw (p.1) (p.2))) (f_c (j_n 0 (eP (nc eI (nc (eT (eP (nc eS (nc (eT eI) (n1 eI))))) (nc (eT eI) (n1 (eT eI)))))) circuit_1 rfl) (f_1 (j_n 1 (eP (nc eI (n1 eI))) flaw_2 rfl))) (fun (p : ((Int × (List (Str × (List Int) × Int)) × (List Int) × (List Int)) × (Int × Int))) => sd_check_flaw (p.1) (p.2)) (fun _ => rfl))) (fun u_4 => (t_ret (j_vf (j_v (j_o2 (o_f (j_v (j_call (M := (fun (p : ((Int × (List (Str × (List Int) × Int)) × (List Int) × (List Int)) × Int × (List (Int × Int)))) => M_answers (p.1) (p.2.1) (p.2.2))) (f_c (j_n 0 (eP (nc eI (nc (eT (eP (nc eS (nc (eT eI) (n1 eI))))) (nc (eT eI) (n1 (eT eI)))))) circuit_1 rfl) (f_c (j_n 2 eI case_3 rfl) (f_1 (j_v (j_dct1 ky_I (j_v (j_o2 (o_f (j_n 1 (eP (nc eI (n1 eI))) flaw_2 rfl)) (o_f (j_c (.int 0) eI 0 rfl)) (fun _ _ _ h => q_pj (e1 := eI) (fun (p : (Int × Int)) => (p.1)) 0 (ixn_nat 0) (fun _ => rfl) _ h))) (j_v (j_o2 (o_f (j_n 1 (eP (nc eI (n1 eI))) flaw_2 rfl)) (o_f (j_c (.int 1) eI 1 rfl)) (fun _ _ _ h => q_pj (e1 := eI) (fun (p : (Int × Int)) => (p.2)) 1 (ixn_nat 1) (fun _ => rfl) _ h)))))))) (fun (p : ((Int × (List (Str × (List Int) × Int)) × (List Int) × (List Int)) × Int × (List (Int × Int)))) => sd_answers (p.1) (p.2.1) (p.2.2)) (fun _ => rfl)))) (o_f (j_v (j_call (M := (fun (p : ((Int × (List (Str × (List Int) × Int)) × (List Int) × (List Int)) × Int × (List (Int × Int)))) => M_answers (p.1) (p.2.1) (p.2.2))) (f_c (j_n 0 (eP (nc eI (nc (eT (eP (nc eS (nc (eT eI) (n1 eI))))) (nc (eT eI) (n1 (eT eI)))))) circuit_1 rfl) (f_c (j_n 2 eI case_3 rfl) (f_1 (j_dct0 eI eI)))) (fun (p : ((Int × (List (Str × (List Int) × Int)) × (List Int) × (List Int)) × Int × (List (Int × Int)))) => sd_answers (p.1) (p.2.1) (p.2.2)) (fun _ => rfl)))) (fun _ _ _ _ => q_ne (eq_L eq_I) (by decide) _ _))))))))) (by unfold M_shows; simp only [TM.bind_assoc, ok_bind, bind_ok_r, nex_ok])
def M_check_size (circuit_1 : (Int × (List (Str × (List Int) × Int)) × (List Int) × (List Int))) : E Unit :=
 (E.bind (E.bind (M_case_count circuit_1) fun t_2 =>
 (E.ok (decide (t_2 > mk_MOST_CASES)))) fun t_3 =>
 (if t_3 = true then
 (E.ex ⟨(S "TooLarge"), []⟩)
 else
 (E.ok ())))
theorem sd_check_size (circuit_1 : (Int × (List (Str × (List Int) × Int)) × (List Int) × (List Int))) : Sd (F_check_size [(eP (nc eI (nc (eT (eP (nc eS (nc (eT eI) (n1 eI))))) (nc (eT eI) (n1 (eT eI)))))) circuit_1]) (M_check_size circuit_1) (vs .z eN) :=
  sd_mk (d_ok (Γ0 := [some (.z, (eP (nc eI (nc (eT (eP (nc eS (nc (eT eI) (n1 eI))))) (nc (eT eI) (n1 (eT eI)))))) circuit_1)]) rfl rfl (t_if (j_bv (j_o2 (o_f (j_v (j_call (M := M_case_count) (f_1 (j_n 0 (eP (nc eI (nc (eT (eP (nc eS (nc (eT eI) (n1 eI))))) (nc (eT eI) (n1 (eT eI)))))) circuit_1 rfl)) sd_case_count (fun _ => rfl)))) (o_f (j_c kd_MOST_CASES eI mk_MOST_CASES rfl)) (fun _ _ _ _ => q_gt _ _))) (t_raise _) (t_nx (t_end (s := ()) (.inr ⟨⟨_, rfl⟩, rfl⟩))))) (by unfold M_check_size; simp only [TM.bind_assoc, ok_bind, bind_ok_r, nex_ok])
def M_all_flaws (circuit_1 : (Int × (List (Str × (List Int) × Int)) × (List Int) × (List Int))) : E (List (Int × Int)) :=
 (E.bind (rg1 ((circuit_1.1) + ((circuit_1.2.1).length : Int))) fun t_4 =>
 (comp2E (fun net_2 => E.ok true) (fun net_2 => (E.ok [0, 1])) (fun net_2 value_3 => E.ok true) (fun net_2 value_3 =>
 (E.ok (net_2, value_3))) t_4))
theorem sd_all_flaws (circuit_1 : (Int × (List (Str × (List Int) × Int)) × (List Int) × (List Int))) : Sd (F_all_flaws [(eP (nc eI (nc (eT (eP (nc eS (nc (eT eI) (n1 eI))))) (nc (eT eI) (n1 (eT eI)))))) circuit_1]) (M_all_flaws circuit_1) (vs (.l .z) (eL (eP (nc eI (n1 eI))))) :=
  sd_mk (d_ok (Γ0 := [some (.z, (eP (nc eI (nc (eT (eP (nc eS (nc (eT eI) (n1 eI))))) (nc (eT eI) (n1 (eT eI)))))) circuit_1), none, none]) rfl rfl (t_ret (j_comp2 (ez := (eP (nc eI (n1 eI)))) (i_r1 (f_1 (j_v (j_o2 (o_f (j_v (j_o2 (o_f (j_n 0 (eP (nc eI (nc (eT (eP (nc eS (nc (eT eI) (n1 eI))))) (nc (eT eI) (n1 (eT eI)))))) circuit_1 rfl)) (o_f (j_c (.int 0) eI 0 rfl)) (fun _ _ _ h => q_pj (e1 := eI) (fun (p : (Int × (List (Str × (List Int) × Int)) × (List Int) × (List Int))) => (p.1)) 0 (ixn_nat 0) (fun _ => rfl) _ h)))) (o_f (j_v (j_b1 (o_f (j_v (j_o2 (o_f (j_n 0 (eP (nc eI (nc (eT (eP (nc eS (nc (eT eI) (n1 eI))))) (nc (eT eI) (n1 (eT eI)))))) circuit_1 rfl)) (o_f (j_c (.int 1) eI 1 rfl)) (fun _ _ _ h => q_pj (e1 := (eT (eP (nc eS (nc (eT eI) (n1 eI)))))) (fun (p : (Int × (List (Str × (List Int) × Int)) × (List Int) × (List Int))) => (p.2.1)) 1 (ixn_nat 1) (fun _ => rfl) _ h)))) (fun _ _ => q_lenT _)))) (fun _ _ _ _ => q_add _ _))))) (fun net_2 => ⟨_, _, _, rfl, j_yes, (i_t (j_ttup 2 (f_lc (j_c (.int 0) eI 0 rfl) (f_lc (j_c (.int 1) eI 1 rfl) (f_l0 eI))) (by decide) (hl_c (hl_c hl_0)))), (fun value_3 => ⟨_, _, _, rfl, j_yes, (j_tup 2 (f_c (j_n 1 eI net_2 rfl) (f_1 (j_n 2 eI value_3 rfl))) (by decide) (fun _ => rfl)), rfl, rfl⟩), rfl, rfl⟩) rfl))) (by unfold M_all_flaws; simp only [TM.bind_assoc, ok_bind, bind_ok_r, nex_ok])
def B_first_case_1 (circuit_1 : (Int × (List (Str × (List Int) × Int)) × (List Int) × (List Int))) (flaw_2 : (Int × Int)) : ((Unit)) → (Int) → E (Fl (Unit) (Option Int)) := fun s_7 case_8 =>
 (E.bind (E.bind (M_shows circuit_1 flaw_2 case_8) fun t_9 =>
 (E.ok t_9)) fun t_11 =>
 (if t_11 = true then
 (E.bind (E.ok (some case_8)) fun r_10 => E.ok (Fl.rt r_10))
 else
 (E.ok (Fl.nx ()))))
def M_first_case (circuit_1 : (Int × (List (Str × (List Int) × Int)) × (List Int) × (List Int))) (flaw_2 : (Int × Int)) : E (Option Int) :=
 (E.bind (M_check_size circuit_1) fun u_3 =>
 (E.bind (M_check_flaw circuit_1 flaw_2) fun u_4 =>
 (E.bind (E.bind (E.bind (M_case_count circuit_1) fun t_6 =>
 (rg1 t_6)) fun t_13 =>
 (forR (σ := Unit) (ρ := (Option Int)) (B_first_case_1 circuit_1 flaw_2) t_13 ())) (Sum.elim (fun s_12 =>
 (E.ok none)) (fun r_14 => E.ok r_14)))))
theorem sd_first_case (circuit_1 : (Int × (List (Str × (List Int) × Int)) × (List Int) × (List Int))) (flaw_2 : (Int × Int)) : Sd (F_first_case [(eP (nc eI (nc (eT (eP (nc eS (nc (eT eI) (n1 eI))))) (nc (eT eI) (n1 (eT eI)))))) circuit_1, (eP (nc eI (n1 eI))) flaw_2]) (M_first_case circuit_1 flaw_2) (vs .z (eO eI)) :=
  sd_mk (d_ok (Γ0 := [some (.z, (eP (nc eI (nc (eT (eP (nc eS (nc (eT eI) (n1 eI))))) (nc (eT eI) (n1 (eT eI)))))) circuit_1), some (.z, (eP (nc eI (n1 eI))) flaw_2), none]) rfl rfl (t_seq (t_exp (j_v (j_call (M := M_check_size) (f_1 (j_n 0 (eP (nc eI (nc (eT (eP (nc eS (nc (eT eI) (n1 eI))))) (nc (eT eI) (n1 (eT eI)))))) circuit_1 rfl)) sd_check_size (fun _ => rfl))) (fun u_3 => (t_seq (t_exp (j_v (j_call (M := (fun (p : ((Int × (List (Str × (List Int) × Int)) × (List Int) × (List Int)) × (Int × Int))) => M_check_flaw (p.1) (p.2))) (f_c (j_n 0 (eP (nc eI (nc (eT (eP (nc eS (nc (eT eI) (n1 eI))))) (nc (eT eI) (n1 (eT eI)))))) circuit_1 rfl) (f_1 (j_n 1 (eP (nc eI (n1 eI))) flaw_2 rfl))) (fun (p : ((Int × (List (Str × (List Int) × Int)) × (List Int) × (List Int)) × (Int × Int))) => sd_check_flaw (p.1) (p.2)) (fun _ => rfl))) (fun u_4 => (t_seq (t_pre (t_forR (σ := Unit) (ez := (vs .z (eO eI))) (fun s_7 => [some (.z, (eP (nc eI (nc (eT (eP (nc eS (nc (eT eI) (n1 eI))))) (nc (eT eI) (n1 (eT eI)))))) circuit_1), some (.z, (eP (nc eI (n1 eI))) flaw_2), none]) () (i_r1 (f_1 (j_v (j_call (M := M_case_count) (f_1 (j_n 0 (eP (nc eI (nc (eT (eP (nc eS (nc (eT eI) (n1 eI))))) (nc (eT eI) (n1 (eT eI)))))) circuit_1 rfl)) sd_case_count (fun _ => rfl))))) (fun s_7 case_8 => ⟨_, rfl, t_wpR (t_if (j_bo (o_f (j_v (j_call (M := (fun (p : ((Int × (List (Str × (List Int) × Int)) × (List Int) × (List Int)) × (Int × Int) × Int)) => M_shows (p.1) (p.2.1) (p.2.2))) (f_c (j_n 0 (eP (nc eI (nc (eT (eP (nc eS (nc (eT eI) (n1 eI))))) (nc (eT eI) (n1 (eT eI)))))) circuit_1 rfl) (f_c (j_n 1 (eP (nc eI (n1 eI))) flaw_2 rfl) (f_1 (j_n 2 eI case_8 rfl)))) (fun (p : ((Int × (List (Str × (List Int) × Int)) × (List Int) × (List Int)) × (Int × Int) × Int)) => sd_shows (p.1) (p.2.1) (p.2.2)) (fun _ => rfl)))) (fun _ => q_truB _)) (t_retL (w := Fl.rt) (j_vf (j_some (j_n 2 eI case_8 rfl))) (fun _ => ⟨_, rfl⟩)) (t_nx (t_end (s := Fl.nx ()) ⟨_, .inl rfl, rfl⟩)))⟩) (fun s_12 => (t_ret (j_vf (j_c .none (eO eI) none rfl)))) hr_f)))))))))) (by unfold M_first_case; delta B_first_case_1; simp only [TM.bind_assoc, ok_bind, bind_ok_r, nex_ok])
def M_hidden_flaws (circuit_1 : (Int × (List (Str × (List Int) × Int)) × (List Int) × (List Int))) : E (List (Int × Int)) :=
 (E.bind (M_check_size circuit_1) fun u_2 =>
 (E.bind (M_all_flaws circuit_1) fun t_5 =>
 (compE (β := (Int × Int)) (fun flaw_3 => (E.bind (M_first_case circuit_1 flaw_3) fun t_4 =>
 (E.ok (t_4.isNone)))) (fun flaw_3 =>
 (E.ok flaw_3)) t_5)))
theorem sd_hidden_flaws (circuit_1 : (Int × (List (Str × (List Int) × Int)) × (List Int) × (List Int))) : Sd (F_hidden_flaws [(eP (nc eI (nc (eT (eP (nc eS (nc (eT eI) (n1 eI))))) (nc (eT eI) (n1 (eT eI)))))) circuit_1]) (M_hidden_flaws circuit_1) (vs (.l .z) (eL (eP (nc eI (n1 eI))))) :=
  sd_mk (d_ok (Γ0 := [some (.z, (eP (nc eI (nc (eT (eP (nc eS (nc (eT eI) (n1 eI))))) (nc (eT eI) (n1 (eT eI)))))) circuit_1), none]) rfl rfl (t_seq (t_exp (j_v (j_call (M := M_check_size) (f_1 (j_n 0 (eP (nc eI (nc (eT (eP (nc eS (nc (eT eI) (n1 eI))))) (nc (eT eI) (n1 (eT eI)))))) circuit_1 rfl)) sd_check_size (fun _ => rfl))) (fun u_2 => (t_ret (j_comp (ey := (eP (nc eI (n1 eI)))) (i_l (j_v (j_call (M := M_all_flaws) (f_1 (j_n 0 (eP (nc eI (nc (eT (eP (nc eS (nc (eT eI) (n1 eI))))) (nc (eT eI) (n1 (eT eI)))))) circuit_1 rfl)) sd_all_flaws (fun _ => rfl)))) (fun flaw_3 => ⟨_, _, _, rfl, (j_bv (j_o2 (o_f (j_v (j_call (M := (fun (p : ((Int × (List (Str × (List Int) × Int)) × (List Int) × (List Int)) × (Int × Int))) => M_first_case (p.1) (p.2))) (f_c (j_n 0 (eP (nc eI (nc (eT (eP (nc eS (nc (eT eI) (n1 eI))))) (nc (eT eI) (n1 (eT eI)))))) circuit_1 rfl) (f_1 (j_n 1 (eP (nc eI (n1 eI))) flaw_3 rfl))) (fun (p : ((Int × (List (Str × (List Int) × Int)) × (List Int) × (List Int)) × (Int × Int))) => sd_first_case (p.1) (p.2)) (fun _ => rfl)))) (o_f (j_c .none eN () rfl)) (fun _ _ _ _ => q_isN _ _ (fun _ h => by cases h)))), (j_n 1 (eP (nc eI (n1 eI))) flaw_3 rfl), rfl, rfl⟩) rfl)))))) (by unfold M_hidden_flaws; simp only [TM.bind_assoc, ok_bind, bind_ok_r, nex_ok])
def B_make_tests_1  : (((List (List (Int × Int))) × (List Int) × (List Int))) → E ((List (List (Int × Int))) × (List Int) × (List Int)) := fun s_17 =>
 (E.bind (E.bind (maxE (s_17.2.2)) fun t_20 =>
 (idxE (s_17.2.2) t_20)) fun case_19 =>
 (E.bind (appE (s_17.2.1) case_19) fun tests_21 =>
 (E.bind (E.bind (ixE (s_17.1) case_19) fun t_24 =>
 (dcE (fun flaw_23 => E.ok true) (fun flaw_23 =>
 (E.ok (flaw_23, true))) t_24)) fun seen_22 =>
 (E.bind (comE (β := (List (Int × Int))) (fun flaws_26 =>
 (filE (β := (Int × Int)) (fun flaw_27 => (!(lookD seen_22 flaw_27).isSome)) (fun flaw_27 =>
 flaw_27) flaws_26)) (s_17.1)) fun shown_25 =>
 (E.bind (mapE (β := Int) (fun flaws_29 =>
 (flaws_29.length : Int)) shown_25) fun counts_28 =>
 (E.ok (shown_25, tests_21, counts_28)))))))
def C_make_tests_1  : (((List (List (Int × Int))) × (List Int) × (List Int))) → E Bool := fun s_17 =>
 (E.bind (maxE (s_17.2.2)) fun t_18 =>
 (E.ok (decide (t_18 > 0))))
def B_make_tests_2 (circuit_1 : (Int × (List (Str × (List Int) × Int)) × (List Int) × (List Int))) : (((List (List (Int × Int))))) → (Int) → E ((List (List (Int × Int)))) := fun s_6 case_7 =>
 (E.bind (E.bind (M_all_flaws circuit_1) fun t_10 =>
 (compE (β := (Int × Int)) (fun flaw_8 => (E.bind (M_shows circuit_1 flaw_8 case_7) fun t_9 =>
 (E.ok t_9))) (fun flaw_8 =>
 (E.ok flaw_8)) t_10)) fun t_12 =>
 (E.bind (appE s_6 t_12) fun shown_11 =>
 (E.ok shown_11)))
def M_make_tests (circuit_1 : (Int × (List (Str × (List Int) × Int)) × (List Int) × (List Int))) : E (List Int) :=
 (E.bind (M_check_size circuit_1) fun u_2 =>
 (E.bind (E.ok []) fun shown_3 =>
 (E.bind (E.bind (E.bind (M_case_count circuit_1) fun t_5 =>
 (rg1 t_5)) fun t_31 =>
 (forE (σ := (List (List (Int × Int)))) (B_make_tests_2 circuit_1) t_31 shown_3)) fun s_13 =>
 (E.bind (E.ok []) fun tests_14 =>
 (E.bind (mapE (β := Int) (fun flaws_16 =>
 (flaws_16.length : Int)) s_13) fun counts_15 =>
 (E.bind (whileE (σ := (List (List (Int × Int))) × (List Int) × (List Int)) C_make_tests_1 B_make_tests_1 fuel (s_13, tests_14, counts_15)) fun s_30 =>
 (E.ok (s_30.2.1))))))))
theorem sd_make_tests (circuit_1 : (Int × (List (Str × (List Int) × Int)) × (List Int) × (List Int))) : Sd (F_make_tests [(eP (nc eI (nc (eT (eP (nc eS (nc (eT eI) (n1 eI))))) (nc (eT eI) (n1 (eT eI)))))) circuit_1]) (M_make_tests circuit_1) (vs (.l .z) (eL eI)) :=
  sd_mk (d_ok (Γ0 := [some (.z, (eP (nc eI (nc (eT (eP (nc eS (nc (eT eI) (n1 eI))))) (nc (eT eI) (n1 (eT eI)))))) circuit_1), none, none, none, none, none, none, none]) rfl rfl (t_seq (t_exp (j_v (j_call (M := M_check_size) (f_1 (j_n 0 (eP (nc eI (nc (eT (eP (nc eS (nc (eT eI) (n1 eI))))) (nc (eT eI) (n1 (eT eI)))))) circuit_1 rfl)) sd_check_size (fun _ => rfl))) (fun u_2 => (t_seq (t_asg 1 (j_lst 0 (f_l0 (eL (eP (nc eI (n1 eI))))) (by decide) hl_0) (fun shown_3 => (t_seq (t_pre (t_for (σ := (List (List (Int × Int)))) (fun s_6 => [some (.z, (eP (nc eI (nc (eT (eP (nc eS (nc (eT eI) (n1 eI))))) (nc (eT eI) (n1 (eT eI)))))) circuit_1), some ((.l .z), (eL (eL (eP (nc eI (n1 eI))))) s_6), none, none, none, none, none, none]) shown_3 (i_r1 (f_1 (j_v (j_call (M := M_case_count) (f_1 (j_n 0 (eP (nc eI (nc (eT (eP (nc eS (nc (eT eI) (n1 eI))))) (nc (eT eI) (n1 (eT eI)))))) circuit_1 rfl)) sd_case_count (fun _ => rfl))))) (fun s_6 case_7 => ⟨_, rfl, t_wp (t_app 1 (eL (eP (nc eI (n1 eI)))) s_6 ⟨_, rfl⟩ (j_v (j_comp (ey := (eP (nc eI (n1 eI)))) (i_l (j_v (j_call (M := M_all_flaws) (f_1 (j_n 0 (eP (nc eI (nc (eT (eP (nc eS (nc (eT eI) (n1 eI))))) (nc (eT eI) (n1 (eT eI)))))) circuit_1 rfl)) sd_all_flaws (fun _ => rfl)))) (fun flaw_8 => ⟨_, _, _, rfl, (j_bo (o_f (j_v (j_call (M := (fun (p : ((Int × (List (Str × (List Int) × Int)) × (List Int) × (List Int)) × (Int × Int) × Int)) => M_shows (p.1) (p.2.1) (p.2.2))) (f_c (j_n 0 (eP (nc eI (nc (eT (eP (nc eS (nc (eT eI) (n1 eI))))) (nc (eT eI) (n1 (eT eI)))))) circuit_1 rfl) (f_c (j_n 7 (eP (nc eI (n1 eI))) flaw_8 rfl) (f_1 (j_n 2 eI case_7 rfl)))) (fun (p : ((Int × (List (Str × (List Int) × Int)) × (List Int) × (List Int)) × (Int × Int) × Int)) => sd_shows (p.1) (p.2.1) (p.2.2)) (fun _ => rfl)))) (fun _ => q_truB _)), (j_n 7 (eP (nc eI (n1 eI))) flaw_8 rfl), rfl, rfl⟩) rfl)) rfl (fun shown_11 => (t_end (s := shown_11) ⟨_, .inl rfl, rfl⟩)))⟩) (fun s_13 => (t_seq (t_asg 3 (j_lst 0 (f_l0 eI) (by decide) hl_0) (fun tests_14 => (t_seq (t_fz 4 (j_compM (ey := eI) (i_l (j_z 1 _ (eL (eL (eP (nc eI (n1 eI))))) s_13 rfl)) (fun flaws_16 => ⟨_, _, rfl, (j_v (j_b1 (o_f (j_n 6 (eL (eP (nc eI (n1 eI)))) flaws_16 rfl)) (fun _ _ => q_lenL _))), rfl, rfl⟩) rfl) (fun _ => rfl) (fun counts_15 => (t_seq (t_pre (t_while (σ := (List (List (Int × Int))) × (List Int) × (List Int)) (fun s_17 => [some (.z, (eP (nc eI (nc (eT (eP (nc eS (nc (eT eI) (n1 eI))))) (nc (eT eI) (n1 (eT eI)))))) circuit_1), some (.z, (eL (eL (eP (nc eI (n1 eI))))) (s_17.1)), none, some ((.l .z), (eL eI) (s_17.2.1)), some (.z, (eL eI) (s_17.2.2)), none, none, none]) (s_13, tests_14, counts_15) rfl (fun s_17 => (j_bv (j_o2 (o_f (j_v (j_b1 (o_f (j_n 4 (eL eI) (s_17.2.2) rfl)) (fun _ _ => q_max _)))) (o_f (j_c (.int 0) eI 0 rfl)) (fun _ _ _ _ => q_gt _ _)))) (fun s_17 => t_wp (t_seq (t_asg 2 (j_vf (j_v (j_bm1 (j_n 4 (eL eI) (s_17.2.2) rfl) (j_v (j_b1 (o_f (j_n 4 (eL eI) (s_17.2.2) rfl)) (fun _ _ => q_max _))) (fun _ => rfl) (fun _ _ => q_index eq_I (by decide) _ _)))) (fun case_19 => (t_seq (t_app 3 eI (s_17.2.1) ⟨_, rfl⟩ (j_n 2 eI case_19 rfl) rfl (fun tests_21 => (t_seq (t_fz 5 (j_dcT (kt_P (kr_c ky_I (kr_1 ky_I))) (i_l (j_v (j_o2 (o_b 1 _ (eL (eL (eP (nc eI (n1 eI))))) (s_17.1) rfl (by rfl)) (o_f (j_n 2 eI case_19 rfl)) (fun _ _ _ _ => q_ixL _ _)))) (fun flaw_23 => ⟨_, _, _, rfl, j_yes, (j_tup 2 (f_c (j_n 7 (eP (nc eI (n1 eI))) flaw_23 rfl) (f_1 (j_c (.bool true) eB true rfl))) (by decide) (fun _ => rfl)), rfl, rfl⟩) rfl) (fun _ => rfl) (fun seen_22 => (t_seq (t_asg 1 (j_compE (ey := (eL (eP (nc eI (n1 eI))))) (i_l (j_z 1 _ (eL (eL (eP (nc eI (n1 eI))))) (s_17.1) rfl)) (fun flaws_26 => ⟨_, _, rfl, (j_v (j_compF (ey := (eP (nc eI (n1 eI)))) (i_l (j_n 6 (eL (eP (nc eI (n1 eI)))) flaws_26 rfl)) (fun flaw_27 => ⟨_, _, _, rfl, (j_bf (j_tnin (kt_P (kr_c ky_I (kr_1 ky_I))) eB 5 seen_22 (j_n 7 (eP (nc eI (n1 eI))) flaw_27 rfl) rfl)), (j_n 7 (eP (nc eI (n1 eI))) flaw_27 rfl), rfl, rfl⟩) rfl)), rfl, rfl⟩) rfl) (fun shown_25 => (t_fz 4 (j_compM (ey := eI) (i_l (j_z 1 _ (eL (eL (eP (nc eI (n1 eI))))) shown_25 rfl)) (fun flaws_29 => ⟨_, _, rfl, (j_v (j_b1 (o_f (j_n 6 (eL (eP (nc eI (n1 eI)))) flaws_29 rfl)) (fun _ _ => q_lenL _))), rfl, rfl⟩) rfl) (fun _ => rfl) (fun counts_28 => (t_end (s := (shown_25, tests_21, counts_28)) ⟨_, .inl rfl, rfl⟩)))))))))))))))) (fun s_30 => (t_ret (j_mv 3 _ (eL eI) (s_30.2.1) rfl))))))))))))))))))))))) (by unfold M_make_tests; delta B_make_tests_2; delta C_make_tests_1; delta B_make_tests_1; simp only [TM.bind_assoc, ok_bind, bind_ok_r, nex_ok])
def M_law_cell (script_1 : (List Int)) (k_2 : Int) : E Int :=
 (if (decide (k_2 < (script_1.length : Int))) = true then
 (ixE script_1 k_2)
 else
 (E.ok 0))
theorem sd_law_cell (script_1 : (List Int)) (k_2 : Int) : Sd (F_law_cell [eScr script_1, eI k_2]) (M_law_cell script_1 k_2) (vs .z eI) :=
  sd_mk (d_ok (Γ0 := [some (.z, eScr script_1), some (.z, eI k_2)]) rfl rfl (t_seq (t_if (j_bv (j_o2 (o_f (j_n 1 eI k_2 rfl)) (o_f (j_v (j_b1 (o_f (j_n 0 eScr script_1 rfl)) (fun _ _ => q_lenScr _)))) (fun _ _ _ _ => q_lt _ _))) (t_ret (j_vf (j_v (j_o2 (o_f (j_n 0 eScr script_1 rfl)) (o_f (j_n 1 eI k_2 rfl)) (fun _ _ _ _ => q_ixScr _ _))))) (t_nx (t_ret (j_vf (j_c (.int 0) eI 0 rfl))))))) (by unfold M_law_cell; simp only [TM.bind_assoc, ok_bind, bind_ok_r, nex_ok])
def B_law_parts_1 (sizes_2 : (List Int)) (cell_1 : Int) : (((List Int) × Int)) → (Int) → E ((List Int) × Int) := fun s_5 k_6 =>
 (if (decide ((s_5.2) ≥ 0)) = true then
 (E.bind (E.bind (ixE sizes_2 k_6) fun t_7 =>
 (modE (s_5.2) t_7)) fun t_11 =>
 (E.bind (appE (s_5.1) t_11) fun parts_8 =>
 (E.bind (E.bind (ixE sizes_2 k_6) fun t_10 =>
 (divE (s_5.2) t_10)) fun rest_9 =>
 (E.ok (parts_8, rest_9)))))
 else
 (E.bind (E.ok ((((cell_1 * 48271) + (k_6 * 69621)) + 11) % 2147483647)) fun mixed_12 =>
 (E.bind (E.bind (E.bind (E.bind (E.bind (mulE mixed_12 mixed_12) fun t_14 =>
 (E.ok (t_14 + (16807 * k_6)))) fun t_15 =>
 (E.ok (t_15 + 5))) fun t_16 =>
 (E.ok t_16)) fun t_17 =>
 (E.ok (t_17 % 998244353))) fun mixed_13 =>
 (E.bind (E.bind (ixE sizes_2 k_6) fun t_18 =>
 (modE mixed_13 t_18)) fun t_20 =>
 (E.bind (appE (s_5.1) t_20) fun parts_19 =>
 (E.ok (parts_19, (s_5.2))))))))
def M_law_parts (cell_1 : Int) (sizes_2 : (List Int)) : E (List Int) :=
 (E.bind (E.ok []) fun parts_3 =>
 (E.bind (E.ok (cell_1 - (10 ^ Int.toNat 18))) fun rest_4 =>
 (E.bind (E.bind (rg1 (sizes_2.length : Int)) fun t_22 =>
 (forE (σ := (List Int) × Int) (B_law_parts_1 sizes_2 cell_1) t_22 (parts_3, rest_4))) fun s_21 =>
 (E.ok (s_21.1)))))
theorem sd_law_parts (cell_1 : Int) (sizes_2 : (List Int)) : Sd (F_law_parts [eI cell_1, (eL eI) sizes_2]) (M_law_parts cell_1 sizes_2) (vs (.l .z) (eL eI)) :=
  sd_mk (d_ok (Γ0 := [some (.z, eI cell_1), some (.z, (eL eI) sizes_2), none, none, none, none]) rfl rfl (t_seq (t_asg 2 (j_lst 0 (f_l0 eI) (by decide) hl_0) (fun parts_3 => (t_seq (t_asg 3 (j_vf (j_v (j_o2 (o_f (j_n 0 eI cell_1 rfl)) (o_f (j_v (j_o2 (o_f (j_c (.int 10) eI 10 rfl)) (o_f (j_c (.int 18) eI 18 rfl)) (fun _ _ h h2 => q_powL (by decide) h h2)))) (fun _ _ _ _ => q_sub _ _)))) (fun rest_4 => (t_seq (t_pre (t_for (σ := (List Int) × Int) (fun s_5 => [some (.z, eI cell_1), some (.z, (eL eI) sizes_2), some ((.l .z), (eL eI) (s_5.1)), some (.z, eI (s_5.2)), none, none]) (parts_3, rest_4) (i_r1 (f_1 (j_v (j_b1 (o_f (j_n 1 (eL eI) sizes_2 rfl)) (fun _ _ => q_lenL _))))) (fun s_5 k_6 => ⟨_, rfl, t_wp (t_if (j_bv (j_o2 (o_f (j_n 3 eI (s_5.2) rfl)) (o_f (j_c (.int 0) eI 0 rfl)) (fun _ _ _ _ => q_ge _ _))) (t_seq (t_app 2 eI (s_5.1) ⟨_, rfl⟩ (j_v (j_o2 (o_f (j_v (j_b1 (o_f (j_n 3 eI (s_5.2) rfl)) (fun _ _ => q_intI _)))) (o_f (j_v (j_o2 (o_f (j_n 1 (eL eI) sizes_2 rfl)) (o_f (j_n 4 eI k_6 rfl)) (fun _ _ _ _ => q_ixL _ _)))) (fun _ _ _ _ => q_mod _ _))) rfl (fun parts_8 => (t_asg 3 (j_vf (j_v (j_o2 (o_f (j_n 3 eI (s_5.2) rfl)) (o_f (j_v (j_o2 (o_f (j_n 1 (eL eI) sizes_2 rfl)) (o_f (j_n 4 eI k_6 rfl)) (fun _ _ _ _ => q_ixL _ _)))) (fun _ _ _ _ => q_div _ _)))) (fun rest_9 => (t_end (s := (parts_8, rest_9)) ⟨_, .inl rfl, rfl⟩)))))) (t_seq (t_asg 5 (j_vf (j_v (j_o2 (o_f (j_v (j_b1 (o_f (j_v (j_o2 (o_f (j_v (j_o2 (o_f (j_v (j_o2 (o_f (j_n 0 eI cell_1 rfl)) (o_f (j_c (.int 48271) eI 48271 rfl)) (fun _ _ _ h => q_mulrL (by decide) h)))) (o_f (j_v (j_o2 (o_f (j_n 4 eI k_6 rfl)) (o_f (j_c (.int 69621) eI 69621 rfl)) (fun _ _ _ h => q_mulrL (by decide) h)))) (fun _ _ _ _ => q_add _ _)))) (o_f (j_c (.int 11) eI 11 rfl)) (fun _ _ _ _ => q_add _ _)))) (fun _ _ => q_intI _)))) (o_f (j_c (.int 2147483647) eI 2147483647 rfl)) (fun _ _ _ h => q_modrL (by decide) h)))) (fun mixed_12 => (t_seq (t_asg 5 (j_vf (j_v (j_o2 (o_f (j_v (j_b1 (o_f (j_v (j_o2 (o_f (j_v (j_o2 (o_f (j_v (j_o2 (o_f (j_n 5 eI mixed_12 rfl)) (o_f (j_n 5 eI mixed_12 rfl)) (fun _ _ _ _ => q_mul _ _)))) (o_f (j_v (j_o2 (o_f (j_c (.int 16807) eI 16807 rfl)) (o_f (j_n 4 eI k_6 rfl)) (fun _ _ h _ => q_mullL (by decide) h)))) (fun _ _ _ _ => q_add _ _)))) (o_f (j_c (.int 5) eI 5 rfl)) (fun _ _ _ _ => q_add _ _)))) (fun _ _ => q_intI _)))) (o_f (j_c (.int 998244353) eI 998244353 rfl)) (fun _ _ _ h => q_modrL (by decide) h)))) (fun mixed_13 => (t_app 2 eI (s_5.1) ⟨_, rfl⟩ (j_v (j_o2 (o_f (j_v (j_b1 (o_f (j_n 5 eI mixed_13 rfl)) (fun _ _ => q_intI _)))) (o_f (j_v (j_o2 (o_f (j_n 1 (eL eI) sizes_2 rfl)) (o_f (j_n 4 eI k_6 rfl)) (fun _ _ _ _ => q_ixL _ _)))) (fun _ _ _ _ => q_mod _ _))) rfl (fun parts_19 => (t_end (s := (parts_19, (s_5.2))) ⟨_, .inl rfl, rfl⟩))))))))))⟩) (fun s_21 => (t_ret (j_mv 2 _ (eL eI) (s_21.1) rfl))))))))))))) (by unfold M_law_parts; delta B_law_parts_1; simp only [TM.bind_assoc, ok_bind, bind_ok_r, nex_ok])
def M_law_is_integer (actual_1 : Int) : E Bool :=
 (E.ok (true && (!false)))
theorem sd_law_is_integer (actual_1 : Int) : Sd (F_law_is_integer [eI actual_1]) (M_law_is_integer actual_1) (vs .z eB) :=
  sd_mk (d_ok (Γ0 := [some (.z, eI actual_1)]) rfl rfl (t_ret (j_vf (j_v (j_vandP (j_isi (c := true) (o_f (j_n 0 eI actual_1 rfl)) (fun _ _ h => by cases h) (fun _ => isb_int_int)) (j_vf (j_fnot (j_isi (c := false) (o_f (j_n 0 eI actual_1 rfl)) (fun _ _ h => by cases h) (fun _ => isb_int_bool))))))))) (by unfold M_law_is_integer; simp only [TM.bind_assoc, ok_bind, bind_ok_r, nex_ok])
def M_law_kind (parts_1 : (List Int)) (nets_2 : Int) (latches_3 : Int) : E Str :=
 (E.bind (E.ok [(S "not"), (S "not"), (S "nand2"), (S "nand2"), (S "nand2"), (S "nand3"), (S "nand3"), (S "nor2"), (S "nor2"), (S "nor2"), (S "nor3"), (S "nor3")]) fun kinds_4 =>
 (E.bind (E.bind (catE kinds_4 [(S "latch"), (S "latch"), (S "tie0"), (S "tie1")]) fun t_6 =>
 (E.bind (ixE parts_1 0) fun t_7 =>
 (ixE t_6 t_7))) fun kind_5 =>
 (E.bind (if ((decide (kind_5 = (S "latch"))) && (decide (latches_3 = 2))) = true then (E.bind (E.ok (S "not")) fun kind_8 =>
 (E.ok kind_8)) else (E.ok kind_5)) fun s_9 =>
 (if ((decide (nets_2 = 0)) && (!decide (s_9 = (S "latch")))) = true then
 (E.bind (E.bind (E.bind (ixE parts_1 1) fun t_10 =>
 (E.ok t_10)) fun t_11 =>
 (E.ok (t_11 % 2))) fun t_12 =>
 (ixE [(S "tie0"), (S "tie1")] t_12))
 else
 (E.bind (if (decide (s_9 ∈ [(S "nand2"), (S "nor2"), (S "nand3"), (S "nor3")])) = true then (E.bind (E.bind (ixSE s_9 (-1)) fun t_13 =>
 (intSE t_13)) fun t_14 =>
 (E.ok (decide (nets_2 < t_14)))) else E.ok false) fun t_15 =>
 (if t_15 = true then
 (ixE [(S "not"), (S "nand2")] (nets_2 - 1))
 else
 (E.ok s_9)))))))
theorem sd_law_kind (parts_1 : (List Int)) (nets_2 : Int) (latches_3 : Int) : Sd (F_law_kind [(eL eI) parts_1, eI nets_2, eI latches_3]) (M_law_kind parts_1 nets_2 latches_3) (vs .z eS) :=
  sd_mk (d_ok (Γ0 := [some (.z, (eL eI) parts_1), some (.z, eI nets_2), some (.z, eI latches_3), none, none]) rfl rfl (t_seq (t_asg 3 (j_vf (j_v (j_lst 12 (f_lc (j_c (.str (S "not")) eS (S "not") rfl) (f_lc (j_c (.str (S "not")) eS (S "not") rfl) (f_lc (j_c (.str (S "nand2")) eS (S "nand2") rfl) (f_lc (j_c (.str (S "nand2")) eS (S "nand2") rfl) (f_lc (j_c (.str (S "nand2")) eS (S "nand2") rfl) (f_lc (j_c (.str (S "nand3")) eS (S "nand3") rfl) (f_lc (j_c (.str (S "nand3")) eS (S "nand3") rfl) (f_lc (j_c (.str (S "nor2")) eS (S "nor2") rfl) (f_lc (j_c (.str (S "nor2")) eS (S "nor2") rfl) (f_lc (j_c (.str (S "nor2")) eS (S "nor2") rfl) (f_lc (j_c (.str (S "nor3")) eS (S "nor3") rfl) (f_lc (j_c (.str (S "nor3")) eS (S "nor3") rfl) (f_l0 eS))))))))))))) (by decide) (hl_c (hl_c (hl_c (hl_c (hl_c (hl_c (hl_c (hl_c (hl_c (hl_c (hl_c (hl_c hl_0))))))))))))))) (fun kinds_4 => (t_seq (t_asg 4 (j_vf (j_v (j_o2 (o_f (j_v (j_o2 (o_f (j_n 3 (eL eS) kinds_4 rfl)) (o_f (j_v (j_lst 4 (f_lc (j_c (.str (S "latch")) eS (S "latch") rfl) (f_lc (j_c (.str (S "latch")) eS (S "latch") rfl) (f_lc (j_c (.str (S "tie0")) eS (S "tie0") rfl) (f_lc (j_c (.str (S "tie1")) eS (S "tie1") rfl) (f_l0 eS))))) (by decide) (hl_c (hl_c (hl_c (hl_c hl_0))))))) (fun _ _ _ _ => q_addL _ _)))) (o_f (j_v (j_o2 (o_f (j_n 0 (eL eI) parts_1 rfl)) (o_f (j_c (.int 0) eI 0 rfl)) (fun _ _ _ _ => q_ixL _ _)))) (fun _ _ _ _ => q_ixL _ _)))) (fun kind_5 => (t_seq (t_ifj (σ := Str) [] (fun s_9 => [some (.z, (eL eI) parts_1), some (.z, eI nets_2), some (.z, eI latches_3), some (.z, (eL eS) kinds_4), some (.z, eS s_9)]) (j_andP (j_bv (j_o2 (o_f (j_n 4 eS kind_5 rfl)) (o_f (j_c (.str (S "latch")) eS (S "latch") rfl)) (fun _ _ _ _ => q_eqS _ _))) (j_bv (j_o2 (o_f (j_n 2 eI latches_3 rfl)) (o_f (j_c (.int 2) eI 2 rfl)) (fun _ _ _ _ => q_eqI _ _)))) (t_asg 4 (j_vf (j_c (.str (S "not")) eS (S "not") rfl)) (fun kind_8 => (t_end (s := kind_8) ⟨_, rfl, rfl⟩))) (t_nx (t_end (s := kind_5) ⟨_, rfl, rfl⟩)) (fun s_9 => (t_seq (t_if (j_andP (j_bv (j_o2 (o_f (j_n 1 eI nets_2 rfl)) (o_f (j_c (.int 0) eI 0 rfl)) (fun _ _ _ _ => q_eqI _ _))) (j_bv (j_o2 (o_f (j_n 4 eS s_9 rfl)) (o_f (j_c (.str (S "latch")) eS (S "latch") rfl)) (fun _ _ _ _ => q_neS _ _)))) (t_ret (j_vf (j_v (j_o2 (o_f (j_v (j_lst 2 (f_lc (j_c (.str (S "tie0")) eS (S "tie0") rfl) (f_lc (j_c (.str (S "tie1")) eS (S "tie1") rfl) (f_l0 eS))) (by decide) (hl_c (hl_c hl_0))))) (o_f (j_v (j_o2 (o_f (j_v (j_b1 (o_f (j_v (j_o2 (o_f (j_n 0 (eL eI) parts_1 rfl)) (o_f (j_c (.int 1) eI 1 rfl)) (fun _ _ _ _ => q_ixL _ _)))) (fun _ _ => q_intI _)))) (o_f (j_c (.int 2) eI 2 rfl)) (fun _ _ _ h => q_modrL (by decide) h)))) (fun _ _ _ _ => q_ixL _ _))))) (t_nx (t_seq (t_if (j_and (j_bv (j_o2 (o_f (j_n 4 eS s_9 rfl)) (o_f (j_v (j_lst 4 (f_lc (j_c (.str (S "nand2")) eS (S "nand2") rfl) (f_lc (j_c (.str (S "nor2")) eS (S "nor2") rfl) (f_lc (j_c (.str (S "nand3")) eS (S "nand3") rfl) (f_lc (j_c (.str (S "nor3")) eS (S "nor3") rfl) (f_l0 eS))))) (by decide) (hl_c (hl_c (hl_c (hl_c hl_0))))))) (fun _ _ _ _ => q_inL fl_S ev_S _ _))) (j_bv (j_o2 (o_f (j_n 1 eI nets_2 rfl)) (o_f (j_v (j_b1 (o_f (j_v (j_o2 (o_f (j_n 4 eS s_9 rfl)) (o_f (j_neg (j_c (.int 1) eI 1 rfl))) (fun _ _ _ _ => q_ixS _ _)))) (fun _ _ => q_intS _)))) (fun _ _ _ _ => q_lt _ _)))) (t_ret (j_vf (j_v (j_o2 (o_f (j_v (j_lst 2 (f_lc (j_c (.str (S "not")) eS (S "not") rfl) (f_lc (j_c (.str (S "nand2")) eS (S "nand2") rfl) (f_l0 eS))) (by decide) (hl_c (hl_c hl_0))))) (o_f (j_v (j_o2 (o_f (j_n 1 eI nets_2 rfl)) (o_f (j_c (.int 1) eI 1 rfl)) (fun _ _ _ _ => q_sub _ _)))) (fun _ _ _ _ => q_ixL _ _))))) (t_nx (t_ret (j_vf (j_n 4 eS s_9 rfl))))))))))))))))))) (by unfold M_law_kind; simp only [TM.bind_assoc, ok_bind, bind_ok_r, nex_ok])
def B_law_drawn_1 (parts_1 : (List Int)) : (((List Int) × (List Int))) → (Int) → E ((List Int) × (List Int)) := fun s_6 k_7 =>
 (E.bind (E.bind (E.bind (E.bind (ixE parts_1 (1 + k_7)) fun t_8 =>
 (E.ok t_8)) fun t_9 =>
 (modE t_9 ((s_6.1).length : Int))) fun t_10 =>
 (popE (s_6.1) t_10)) fun p_11 =>
 (E.bind (appE (s_6.2) p_11.1) fun drawn_12 =>
 (E.ok (p_11.2, drawn_12))))
def M_law_drawn (parts_1 : (List Int)) (count_2 : Int) (nets_3 : Int) : E (List Int) :=
 (E.bind (lrE nets_3) fun left_4 =>
 (E.bind (E.ok []) fun drawn_5 =>
 (E.bind (E.bind (rg1 count_2) fun t_14 =>
 (forE (σ := (List Int) × (List Int)) (B_law_drawn_1 parts_1) t_14 (left_4, drawn_5))) fun s_13 =>
 (E.ok (s_13.2)))))
theorem sd_law_drawn (parts_1 : (List Int)) (count_2 : Int) (nets_3 : Int) : Sd (F_law_drawn [(eL eI) parts_1, eI count_2, eI nets_3]) (M_law_drawn parts_1 count_2 nets_3) (vs .z (eT eI)) :=
  sd_mk (d_ok (Γ0 := [some (.z, (eL eI) parts_1), some (.z, eI count_2), some (.z, eI nets_3), none, none, none]) rfl rfl (t_seq (t_asg 3 (j_lr1 (j_n 2 eI nets_3 rfl)) (fun left_4 => (t_seq (t_asg 4 (j_lst 0 (f_l0 eI) (by decide) hl_0) (fun drawn_5 => (t_seq (t_pre (t_for (σ := (List Int) × (List Int)) (fun s_6 => [some (.z, (eL eI) parts_1), some (.z, eI count_2), some (.z, eI nets_3), some ((.l .z), (eL eI) (s_6.1)), some ((.l .z), (eL eI) (s_6.2)), none]) (left_4, drawn_5) (i_r1 (f_1 (j_n 1 eI count_2 rfl))) (fun s_6 k_7 => ⟨_, rfl, t_wp (t_appG (β := Int × List Int) (v := fun p => p.1) 4 eI (s_6.2) ⟨_, rfl⟩ (g_pop 3 eI (s_6.1) ⟨_, rfl⟩ (j_v (j_o2 (o_f (j_v (j_b1 (o_f (j_v (j_o2 (o_f (j_n 0 (eL eI) parts_1 rfl)) (o_f (j_v (j_o2 (o_f (j_c (.int 1) eI 1 rfl)) (o_f (j_n 5 eI k_7 rfl)) (fun _ _ _ _ => q_add _ _)))) (fun _ _ _ _ => q_ixL _ _)))) (fun _ _ => q_intI _)))) (o_f (j_v (j_b1 (o_b 3 _ (eL eI) (s_6.1) rfl (by rfl)) (fun _ _ => q_lenL _)))) (fun _ _ _ _ => q_mod _ _))) rfl) (fun _ => rfl) (fun p_11 drawn_12 => (t_end (s := (p_11.2, drawn_12)) ⟨_, .inl rfl, rfl⟩)))⟩) (fun s_13 => (t_ret (j_vf (j_v (j_b1 (o_b 4 _ (eL eI) (s_13.2) rfl (by rfl)) (fun _ _ => q_tupL _)))))))))))))))) (by unfold M_law_drawn; delta B_law_drawn_1; simp only [TM.bind_assoc, ok_bind, bind_ok_r, nex_ok])
def B_law_circuit_1 (head_3 : (List Int)) (script_1 : (List Int)) (total_8 : Int) : (((List (Str × (List Int) × Int)) × Int)) → (Int) → E ((List (Str × (List Int) × Int)) × Int) := fun s_12 net_13 =>
 (E.bind (E.bind (E.bind (E.bind (ixE head_3 0) fun t_15 =>
 (E.ok ((3 + net_13) - t_15))) fun t_17 =>
 (M_law_cell script_1 t_17)) fun t_19 =>
 (M_law_parts t_19 [16, 100, 100, 100])) fun parts_14 =>
 (E.bind (M_law_kind parts_14 net_13 (s_12.2)) fun kind_20 =>
 (if (decide (kind_20 = (S "latch"))) = true then
 (E.bind (E.ok ((s_12.2) + 1)) fun latches_21 =>
 (E.bind (E.bind (M_law_drawn parts_14 1 total_8) fun t_22 =>
 (E.ok (kind_20, t_22, net_13))) fun t_24 =>
 (E.bind (appE (s_12.1) t_24) fun cells_23 =>
 (E.ok (cells_23, latches_21)))))
 else
 (if (decide (kind_20 ∈ [(S "tie0"), (S "tie1")])) = true then
 (E.bind (appE (s_12.1) (kind_20, [], net_13)) fun cells_25 =>
 (E.ok (cells_25, (s_12.2))))
 else
 (if (decide (kind_20 = (S "not"))) = true then
 (E.bind (E.bind (M_law_drawn parts_14 1 net_13) fun t_26 =>
 (E.ok (kind_20, t_26, net_13))) fun t_28 =>
 (E.bind (appE (s_12.1) t_28) fun cells_27 =>
 (E.ok (cells_27, (s_12.2)))))
 else
 (E.bind (E.bind (E.bind (E.bind (ixSE kind_20 (-1)) fun t_29 =>
 (intSE t_29)) fun t_31 =>
 (M_law_drawn parts_14 t_31 net_13)) fun t_32 =>
 (E.ok (kind_20, t_32, net_13))) fun t_34 =>
 (E.bind (appE (s_12.1) t_34) fun cells_33 =>
 (E.ok (cells_33, (s_12.2))))))))))
def M_law_circuit (script_1 : (List Int)) (most_2 : Int) : E (Int × (List (Str × (List Int) × Int)) × (List Int) × (List Int)) :=
 (E.bind (E.bind (M_law_cell script_1 0) fun t_5 =>
 (M_law_parts t_5 [4, 6, 100, 100])) fun head_3 =>
 (E.bind (E.ok []) fun cells_6 =>
 (E.bind (E.ok 0) fun latches_7 =>
 (E.bind (E.bind (ixE head_3 0) fun t_9 =>
 (E.ok (t_9 + (imin most_2 (imax 1 ((script_1.length : Int) - 3)))))) fun total_8 =>
 (E.bind (E.bind (E.bind (ixE head_3 0) fun t_11 =>
 (rg2 t_11 total_8)) fun t_56 =>
 (forE (σ := (List (Str × (List Int) × Int)) × Int) (B_law_circuit_1 head_3 script_1 total_8) t_56 (cells_6, latches_7))) fun s_35 =>
 (E.bind (E.bind (E.bind (E.bind (E.bind (ixE head_3 1) fun t_37 =>
 (E.ok (1 + t_37))) fun t_39 =>
 (rg1 t_39)) fun t_46 =>
 (comE (β := Int) (fun k_40 =>
 (E.bind (E.bind (E.bind (ixE head_3 2) fun t_42 =>
 (E.bind (E.bind (ixE head_3 3) fun t_41 =>
 (mulE k_40 t_41)) fun t_43 =>
 (E.ok (t_42 + t_43)))) fun t_44 =>
 (E.ok t_44)) fun t_45 =>
 (modE t_45 total_8))) t_46)) fun t_47 =>
 (E.ok t_47)) fun outputs_36 =>
 (E.bind (ixE head_3 0) fun t_54 =>
 (E.bind (E.bind (E.bind (rg1 (s_35.2)) fun t_52 =>
 (comE (β := Int) (fun k_48 =>
 (E.bind (E.bind (E.bind (ixE head_3 2) fun t_49 =>
 (E.ok (t_49 + k_48))) fun t_50 =>
 (E.ok t_50)) fun t_51 =>
 (E.ok (t_51 % 4)))) t_52)) fun t_53 =>
 (E.ok t_53)) fun t_55 =>
 (E.ok (t_54, (s_35.1), outputs_36, t_55))))))))))
theorem sd_law_circuit (script_1 : (List Int)) (most_2 : Int) : Sd (F_law_circuit [eScr script_1, eI most_2]) (M_law_circuit script_1 most_2) (vs .z (eP (nc eI (nc (eT (eP (nc eS (nc (eT eI) (n1 eI))))) (nc (eT eI) (n1 (eT eI))))))) :=
  sd_mk (d_ok (Γ0 := [some (.z, eScr script_1), some (.z, eI most_2), none, none, none, none, none, none, none, none, none]) rfl rfl (t_seq (t_asg 2 (j_vf (j_v (j_call (M := (fun (p : (Int × (List Int))) => M_law_parts (p.1) (p.2))) (f_c (j_v (j_call (M := (fun (p : ((List Int) × Int)) => M_law_cell (p.1) (p.2))) (f_c (j_n 0 eScr script_1 rfl) (f_1 (j_c (.int 0) eI 0 rfl))) (fun (p : ((List Int) × Int)) => sd_law_cell (p.1) (p.2)) (fun _ => rfl))) (f_1 (j_v (j_lst 4 (f_lc (j_c (.int 4) eI 4 rfl) (f_lc (j_c (.int 6) eI 6 rfl) (f_lc (j_c (.int 100) eI 100 rfl) (f_lc (j_c (.int 100) eI 100 rfl) (f_l0 eI))))) (by decide) (hl_c (hl_c (hl_c (hl_c hl_0)))))))) (fun (p : (Int × (List Int))) => sd_law_parts (p.1) (p.2)) (fun _ => rfl)))) (fun head_3 => (t_seq (t_asg 3 (j_lst 0 (f_l0 (eP (nc eS (nc (eT eI) (n1 eI))))) (by decide) hl_0) (fun cells_6 => (t_seq (t_asg 4 (j_vf (j_c (.int 0) eI 0 rfl)) (fun latches_7 => (t_seq (t_asg 5 (j_vf (j_v (j_o2 (o_f (j_v (j_o2 (o_f (j_n 2 (eL eI) head_3 rfl)) (o_f (j_c (.int 0) eI 0 rfl)) (fun _ _ _ _ => q_ixL _ _)))) (o_f (j_v (j_b2 (o_f (j_n 1 eI most_2 rfl)) (o_f (j_v (j_b2 (o_f (j_c (.int 1) eI 1 rfl)) (o_f (j_v (j_o2 (o_f (j_v (j_b1 (o_f (j_n 0 eScr script_1 rfl)) (fun _ _ => q_lenScr _)))) (o_f (j_c (.int 3) eI 3 rfl)) (fun _ _ _ _ => q_sub _ _)))) (fun _ _ => q_max2 _ _)))) (fun _ _ => q_min2 _ _)))) (fun _ _ _ _ => q_add _ _)))) (fun total_8 => (t_seq (t_pre (t_for (σ := (List (Str × (List Int) × Int)) × Int) (fun s_12 => [some (.z, eScr script_1), some (.z, eI most_2), some (.z, (eL eI) head_3), some ((.l .z), (eL (eP (nc eS (nc (eT eI) (n1 eI))))) (s_12.1)), some (.z, eI (s_12.2)), some (.z, eI total_8), none, none, none, none, none]) (cells_6, latches_7) (i_r2 (f_c (j_v (j_o2 (o_f (j_n 2 (eL eI) head_3 rfl)) (o_f (j_c (.int 0) eI 0 rfl)) (fun _ _ _ _ => q_ixL _ _))) (f_1 (j_n 5 eI total_8 rfl)))) (fun s_12 net_13 => ⟨_, rfl, t_wp (t_seq (t_asg 7 (j_vf (j_v (j_call (M := (fun (p : (Int × (List Int))) => M_law_parts (p.1) (p.2))) (f_c (j_v (j_call (M := (fun (p : ((List Int) × Int)) => M_law_cell (p.1) (p.2))) (f_c (j_n 0 eScr script_1 rfl) (f_1 (j_v (j_o2 (o_f (j_v (j_o2 (o_f (j_c (.int 3) eI 3 rfl)) (o_f (j_n 6 eI net_13 rfl)) (fun _ _ _ _ => q_add _ _)))) (o_f (j_v (j_o2 (o_f (j_n 2 (eL eI) head_3 rfl)) (o_f (j_c (.int 0) eI 0 rfl)) (fun _ _ _ _ => q_ixL _ _)))) (fun _ _ _ _ => q_sub _ _))))) (fun (p : ((List Int) × Int)) => sd_law_cell (p.1) (p.2)) (fun _ => rfl))) (f_1 (j_v (j_lst 4 (f_lc (j_c (.int 16) eI 16 rfl) (f_lc (j_c (.int 100) eI 100 rfl) (f_lc (j_c (.int 100) eI 100 rfl) (f_lc (j_c (.int 100) eI 100 rfl) (f_l0 eI))))) (by decide) (hl_c (hl_c (hl_c (hl_c hl_0)))))))) (fun (p : (Int × (List Int))) => sd_law_parts (p.1) (p.2)) (fun _ => rfl)))) (fun parts_14 => (t_seq (t_asg 8 (j_vf (j_v (j_call (M := (fun (p : ((List Int) × Int × Int)) => M_law_kind (p.1) (p.2.1) (p.2.2))) (f_c (j_n 7 (eL eI) parts_14 rfl) (f_c (j_n 6 eI net_13 rfl) (f_1 (j_n 4 eI (s_12.2) rfl)))) (fun (p : ((List Int) × Int × Int)) => sd_law_kind (p.1) (p.2.1) (p.2.2)) (fun _ => rfl)))) (fun kind_20 => (t_if (j_bv (j_o2 (o_f (j_n 8 eS kind_20 rfl)) (o_f (j_c (.str (S "latch")) eS (S "latch") rfl)) (fun _ _ _ _ => q_eqS _ _))) (t_seq (t_asg 4 (j_vf (j_v (j_o2 (o_f (j_n 4 eI (s_12.2) rfl)) (o_f (j_c (.int 1) eI 1 rfl)) (fun _ _ _ _ => q_add _ _)))) (fun latches_21 => (t_app 3 (eP (nc eS (nc (eT eI) (n1 eI)))) (s_12.1) ⟨_, rfl⟩ (j_tup 3 (f_c (j_n 8 eS kind_20 rfl) (f_c (j_v (j_call (M := (fun (p : ((List Int) × Int × Int)) => M_law_drawn (p.1) (p.2.1) (p.2.2))) (f_c (j_n 7 (eL eI) parts_14 rfl) (f_c (j_c (.int 1) eI 1 rfl) (f_1 (j_n 5 eI total_8 rfl)))) (fun (p : ((List Int) × Int × Int)) => sd_law_drawn (p.1) (p.2.1) (p.2.2)) (fun _ => rfl))) (f_1 (j_n 6 eI net_13 rfl)))) (by decide) (fun _ => rfl)) rfl (fun cells_23 => (t_end (s := (cells_23, latches_21)) ⟨_, .inl rfl, rfl⟩)))))) (t_if (j_bv (j_o2 (o_f (j_n 8 eS kind_20 rfl)) (o_f (j_v (j_lst 2 (f_lc (j_c (.str (S "tie0")) eS (S "tie0") rfl) (f_lc (j_c (.str (S "tie1")) eS (S "tie1") rfl) (f_l0 eS))) (by decide) (hl_c (hl_c hl_0))))) (fun _ _ _ _ => q_inL fl_S ev_S _ _))) (t_app 3 (eP (nc eS (nc (eT eI) (n1 eI)))) (s_12.1) ⟨_, rfl⟩ (j_tup 3 (f_c (j_n 8 eS kind_20 rfl) (f_c (j_ttup 0 (f_l0 eI) (by decide) hl_0) (f_1 (j_n 6 eI net_13 rfl)))) (by decide) (fun _ => rfl)) rfl (fun cells_25 => (t_end (s := (cells_25, (s_12.2))) ⟨_, .inl rfl, rfl⟩))) (t_if (j_bv (j_o2 (o_f (j_n 8 eS kind_20 rfl)) (o_f (j_c (.str (S "not")) eS (S "not") rfl)) (fun _ _ _ _ => q_eqS _ _))) (t_app 3 (eP (nc eS (nc (eT eI) (n1 eI)))) (s_12.1) ⟨_, rfl⟩ (j_tup 3 (f_c (j_n 8 eS kind_20 rfl) (f_c (j_v (j_call (M := (fun (p : ((List Int) × Int × Int)) => M_law_drawn (p.1) (p.2.1) (p.2.2))) (f_c (j_n 7 (eL eI) parts_14 rfl) (f_c (j_c (.int 1) eI 1 rfl) (f_1 (j_n 6 eI net_13 rfl)))) (fun (p : ((List Int) × Int × Int)) => sd_law_drawn (p.1) (p.2.1) (p.2.2)) (fun _ => rfl))) (f_1 (j_n 6 eI net_13 rfl)))) (by decide) (fun _ => rfl)) rfl (fun cells_27 => (t_end (s := (cells_27, (s_12.2))) ⟨_, .inl rfl, rfl⟩))) (t_app 3 (eP (nc eS (nc (eT eI) (n1 eI)))) (s_12.1) ⟨_, rfl⟩ (j_tup 3 (f_c (j_n 8 eS kind_20 rfl) (f_c (j_v (j_call (M := (fun (p : ((List Int) × Int × Int)) => M_law_drawn (p.1) (p.2.1) (p.2.2))) (f_c (j_n 7 (eL eI) parts_14 rfl) (f_c (j_v (j_b1 (o_f (j_v (j_o2 (o_f (j_n 8 eS kind_20 rfl)) (o_f (j_neg (j_c (.int 1) eI 1 rfl))) (fun _ _ _ _ => q_ixS _ _)))) (fun _ _ => q_intS _))) (f_1 (j_n 6 eI net_13 rfl)))) (fun (p : ((List Int) × Int × Int)) => sd_law_drawn (p.1) (p.2.1) (p.2.2)) (fun _ => rfl))) (f_1 (j_n 6 eI net_13 rfl)))) (by decide) (fun _ => rfl)) rfl (fun cells_33 => (t_end (s := (cells_33, (s_12.2))) ⟨_, .inl rfl, rfl⟩))))))))))))⟩) (fun s_35 => (t_seq (t_asg 9 (j_vf (j_v (j_b1 (o_f (j_v (j_compE (ey := eI) (i_r1 (f_1 (j_v (j_o2 (o_f (j_c (.int 1) eI 1 rfl)) (o_f (j_v (j_o2 (o_f (j_n 2 (eL eI) head_3 rfl)) (o_f (j_c (.int 1) eI 1 rfl)) (fun _ _ _ _ => q_ixL _ _)))) (fun _ _ _ _ => q_add _ _))))) (fun k_40 => ⟨_, _, rfl, (j_v (j_o2 (o_f (j_v (j_b1 (o_f (j_v (j_o2 (o_f (j_v (j_o2 (o_f (j_n 2 (eL eI) head_3 rfl)) (o_f (j_c (.int 2) eI 2 rfl)) (fun _ _ _ _ => q_ixL _ _)))) (o_f (j_v (j_o2 (o_f (j_n 10 eI k_40 rfl)) (o_f (j_v (j_o2 (o_f (j_n 2 (eL eI) head_3 rfl)) (o_f (j_c (.int 3) eI 3 rfl)) (fun _ _ _ _ => q_ixL _ _)))) (fun _ _ _ _ => q_mul _ _)))) (fun _ _ _ _ => q_add _ _)))) (fun _ _ => q_intI _)))) (o_f (j_n 5 eI total_8 rfl)) (fun _ _ _ _ => q_mod _ _))), rfl, rfl⟩) rfl))) (fun _ _ => q_tupL _)))) (fun outputs_36 => (t_ret (j_vf (j_tup 4 (f_c (j_v (j_o2 (o_f (j_n 2 (eL eI) head_3 rfl)) (o_f (j_c (.int 0) eI 0 rfl)) (fun _ _ _ _ => q_ixL _ _))) (f_c (j_v (j_b1 (o_b 3 _ (eL (eP (nc eS (nc (eT eI) (n1 eI))))) (s_35.1) rfl (by rfl)) (fun _ _ => q_tupL _))) (f_c (j_n 9 (eT eI) outputs_36 rfl) (f_1 (j_v (j_b1 (o_f (j_v (j_compE (ey := eI) (i_r1 (f_1 (j_n 4 eI (s_35.2) rfl))) (fun k_48 => ⟨_, _, rfl, (j_v (j_o2 (o_f (j_v (j_b1 (o_f (j_v (j_o2 (o_f (j_v (j_o2 (o_f (j_n 2 (eL eI) head_3 rfl)) (o_f (j_c (.int 2) eI 2 rfl)) (fun _ _ _ _ => q_ixL _ _)))) (o_f (j_n 10 eI k_48 rfl)) (fun _ _ _ _ => q_add _ _)))) (fun _ _ => q_intI _)))) (o_f (j_c (.int 4) eI 4 rfl)) (fun _ _ _ h => q_modrL (by decide) h))), rfl, rfl⟩) rfl))) (fun _ _ => q_tupL _))))))) (by decide) (fun _ => rfl)))))))))))))))))))))))) (by unfold M_law_circuit; delta B_law_circuit_1; simp only [TM.bind_assoc, ok_bind, bind_ok_r, nex_ok])
def M_law_value (kind_1 : Str) (bits_2 : (List Int)) : E Int :=
 (E.bind (E.bind (cutSE kind_1 none (some 3)) fun t_3 =>
 (E.ok (decide (t_3 = (S "tie"))))) fun t_7 =>
 (if t_7 = true then
 (E.bind (ixSE kind_1 3) fun t_4 =>
 (intSE t_4))
 else
 (E.bind (E.bind (cutSE kind_1 none (some 3)) fun t_5 =>
 (E.ok (decide (t_5 = (S "nor"))))) fun t_6 =>
 (if t_6 = true then
 (E.ok (b2i (decide ((bits_2.sum) = 0))))
 else
 (E.ok (b2i (decide ((bits_2.sum) < (bits_2.length : Int)))))))))
theorem sd_law_value (kind_1 : Str) (bits_2 : (List Int)) : Sd (F_law_value [eS kind_1, (eL eI) bits_2]) (M_law_value kind_1 bits_2) (vs .z eI) :=
  sd_mk (d_ok (Γ0 := [some (.z, eS kind_1), some (.z, (eL eI) bits_2)]) rfl rfl (t_seq (t_if (j_bv (j_o2 (o_f (j_v (j_cut (o_f (j_n 0 eS kind_1 rfl)) p_n (p_s (j_c (.int 3) eI 3 rfl)) (fun _ _ _ => q_cutS _ _ _)))) (o_f (j_c (.str (S "tie")) eS (S "tie") rfl)) (fun _ _ _ _ => q_eqS _ _))) (t_ret (j_vf (j_v (j_b1 (o_f (j_v (j_o2 (o_f (j_n 0 eS kind_1 rfl)) (o_f (j_c (.int 3) eI 3 rfl)) (fun _ _ _ _ => q_ixS _ _)))) (fun _ _ => q_intS _))))) (t_nx (t_seq (t_if (j_bv (j_o2 (o_f (j_v (j_cut (o_f (j_n 0 eS kind_1 rfl)) p_n (p_s (j_c (.int 3) eI 3 rfl)) (fun _ _ _ => q_cutS _ _ _)))) (o_f (j_c (.str (S "nor")) eS (S "nor") rfl)) (fun _ _ _ _ => q_eqS _ _))) (t_ret (j_vf (j_v (j_b1 (o_f (j_v (j_o2 (o_f (j_v (j_b1 (o_f (j_n 1 (eL eI) bits_2 rfl)) (fun _ _ => q_sum _)))) (o_f (j_c (.int 0) eI 0 rfl)) (fun _ _ _ _ => q_eqI _ _)))) (fun _ _ => q_intB _))))) (t_nx (t_ret (j_vf (j_v (j_b1 (o_f (j_v (j_o2 (o_f (j_v (j_b1 (o_f (j_n 1 (eL eI) bits_2 rfl)) (fun _ _ => q_sum _)))) (o_f (j_v (j_b1 (o_f (j_n 1 (eL eI) bits_2 rfl)) (fun _ _ => q_lenL _)))) (fun _ _ _ _ => q_lt _ _)))) (fun _ _ => q_intB _)))))))))))) (by unfold M_law_value; simp only [TM.bind_assoc, ok_bind, bind_ok_r, nex_ok])
def B_law_answers_1 (case_2 : Int) (net_3 : Int) (value_4 : Int) : (((List Int) × Int)) → ((Str × (List Int) × Int)) → E ((List Int) × Int) := fun s_19 cell_20 =>
 (E.bind (if (decide ((cell_20.1) = (S "latch"))) = true then (E.bind (E.bind (E.bind (ixE [1, 2, 4, 8, 16, 32, 64] (s_19.2)) fun t_21 =>
 (divE case_2 t_21)) fun t_24 =>
 (E.bind (E.bind (E.bind (ixE [2, 4, 8, 16, 32, 64, 128] (s_19.2)) fun t_22 =>
 (divE case_2 t_22)) fun t_23 =>
 (E.ok (t_23 * 2))) fun t_25 =>
 (E.ok (t_24 - t_25)))) fun t_28 =>
 (E.bind (appE (s_19.1) t_28) fun nets_26 =>
 (E.bind (E.ok ((s_19.2) + 1)) fun count_27 =>
 (E.ok (nets_26, count_27))))) else (E.bind (E.bind (comE (β := Int) (fun source_29 =>
 (ixE (s_19.1) source_29)) (cell_20.2.1)) fun t_31 =>
 (M_law_value (cell_20.1) t_31)) fun t_33 =>
 (E.bind (appE (s_19.1) t_33) fun nets_32 =>
 (E.ok (nets_32, (s_19.2)))))) fun s_34 =>
 (if (decide ((cell_20.2.2) = net_3)) = true then
 (E.bind (setE (s_34.1) net_3 value_4) fun nets_35 =>
 (E.ok (nets_35, (s_34.2))))
 else
 (E.ok ((s_34.1), (s_34.2)))))
def B_law_answers_2 (case_2 : Int) : (((List Int))) → (Int) → E ((List Int)) := fun s_7 k_8 =>
 (E.bind (E.bind (E.bind (ixE [1, 2, 4, 8, 16, 32, 64] k_8) fun t_9 =>
 (divE case_2 t_9)) fun t_12 =>
 (E.bind (E.bind (E.bind (ixE [2, 4, 8, 16, 32, 64, 128] k_8) fun t_10 =>
 (divE case_2 t_10)) fun t_11 =>
 (E.ok (t_11 * 2))) fun t_13 =>
 (E.ok (t_12 - t_13)))) fun t_15 =>
 (E.bind (appE s_7 t_15) fun nets_14 =>
 (E.ok nets_14)))
def M_law_answers (circuit_1 : (Int × (List (Str × (List Int) × Int)) × (List Int) × (List Int))) (case_2 : Int) (net_3 : Int) (value_4 : Int) : E (List Int) :=
 (E.bind (E.ok []) fun nets_5 =>
 (E.bind (E.ok (circuit_1.1)) fun count_6 =>
 (E.bind (E.bind (rg1 count_6) fun t_41 =>
 (forE (σ := (List Int)) (B_law_answers_2 case_2) t_41 nets_5)) fun s_16 =>
 (E.bind (if ((decide (net_3 ≥ 0)) && (decide (net_3 < count_6))) = true then (E.bind (setE s_16 net_3 value_4) fun nets_17 =>
 (E.ok nets_17)) else (E.ok s_16)) fun s_18 =>
 (E.bind (forE (σ := (List Int) × Int) (B_law_answers_1 case_2 net_3 value_4) (circuit_1.2.1) (s_18, count_6)) fun s_36 =>
 (E.bind (E.bind (compE (β := Int) (fun cell_38 => (E.ok (decide ((cell_38.1) = (S "latch"))))) (fun cell_38 =>
 (ixE (cell_38.2.1) 0)) (circuit_1.2.1)) fun t_39 =>
 (catE (circuit_1.2.2.1) t_39)) fun ends_37 =>
 (comE (β := Int) (fun end_40 =>
 (ixE (s_36.1) end_40)) ends_37)))))))
theorem sd_law_answers (circuit_1 : (Int × (List (Str × (List Int) × Int)) × (List Int) × (List Int))) (case_2 : Int) (net_3 : Int) (value_4 : Int) : Sd (F_law_answers [(eP (nc eI (nc (eT (eP (nc eS (nc (eT eI) (n1 eI))))) (nc (eT eI) (n1 (eT eI)))))) circuit_1, eI case_2, eI net_3, eI value_4]) (M_law_answers circuit_1 case_2 net_3 value_4) (vs (.l .z) (eL eI)) :=
  sd_mk (d_ok (Γ0 := [some (.z, (eP (nc eI (nc (eT (eP (nc eS (nc (eT eI) (n1 eI))))) (nc (eT eI) (n1 (eT eI)))))) circuit_1), some (.z, eI case_2), some (.z, eI net_3), some (.z, eI value_4), none, none, none, none, none, none, none]) rfl rfl (t_seq (t_asg 4 (j_lst 0 (f_l0 eI) (by decide) hl_0) (fun nets_5 => (t_seq (t_asg 5 (j_vf (j_v (j_o2 (o_f (j_n 0 (eP (nc eI (nc (eT (eP (nc eS (nc (eT eI) (n1 eI))))) (nc (eT eI) (n1 (eT eI)))))) circuit_1 rfl)) (o_f (j_c (.int 0) eI 0 rfl)) (fun _ _ _ h => q_pj (e1 := eI) (fun (p : (Int × (List (Str × (List Int) × Int)) × (List Int) × (List Int))) => (p.1)) 0 (ixn_nat 0) (fun _ => rfl) _ h)))) (fun count_6 => (t_seq (t_pre (t_for (σ := (List Int)) (fun s_7 => [some (.z, (eP (nc eI (nc (eT (eP (nc eS (nc (eT eI) (n1 eI))))) (nc (eT eI) (n1 (eT eI)))))) circuit_1), some (.z, eI case_2), some (.z, eI net_3), some (.z, eI value_4), some ((.l .z), (eL eI) s_7), some (.z, eI count_6), none, none, none, none, none]) nets_5 (i_r1 (f_1 (j_n 5 eI count_6 rfl))) (fun s_7 k_8 => ⟨_, rfl, t_wp (t_app 4 eI s_7 ⟨_, rfl⟩ (j_v (j_o2 (o_f (j_v (j_o2 (o_f (j_n 1 eI case_2 rfl)) (o_f (j_v (j_o2 (o_f (j_v (j_lst 7 (f_lc (j_c (.int 1) eI 1 rfl) (f_lc (j_c (.int 2) eI 2 rfl) (f_lc (j_c (.int 4) eI 4 rfl) (f_lc (j_c (.int 8) eI 8 rfl) (f_lc (j_c (.int 16) eI 16 rfl) (f_lc (j_c (.int 32) eI 32 rfl) (f_lc (j_c (.int 64) eI 64 rfl) (f_l0 eI)))))))) (by decide) (hl_c (hl_c (hl_c (hl_c (hl_c (hl_c (hl_c hl_0)))))))))) (o_f (j_n 6 eI k_8 rfl)) (fun _ _ _ _ => q_ixL _ _)))) (fun _ _ _ _ => q_div _ _)))) (o_f (j_v (j_o2 (o_f (j_v (j_o2 (o_f (j_n 1 eI case_2 rfl)) (o_f (j_v (j_o2 (o_f (j_v (j_lst 7 (f_lc (j_c (.int 2) eI 2 rfl) (f_lc (j_c (.int 4) eI 4 rfl) (f_lc (j_c (.int 8) eI 8 rfl) (f_lc (j_c (.int 16) eI 16 rfl) (f_lc (j_c (.int 32) eI 32 rfl) (f_lc (j_c (.int 64) eI 64 rfl) (f_lc (j_c (.int 128) eI 128 rfl) (f_l0 eI)))))))) (by decide) (hl_c (hl_c (hl_c (hl_c (hl_c (hl_c (hl_c hl_0)))))))))) (o_f (j_n 6 eI k_8 rfl)) (fun _ _ _ _ => q_ixL _ _)))) (fun _ _ _ _ => q_div _ _)))) (o_f (j_c (.int 2) eI 2 rfl)) (fun _ _ _ h => q_mulrL (by decide) h)))) (fun _ _ _ _ => q_sub _ _))) rfl (fun nets_14 => (t_end (s := nets_14) ⟨_, .inl rfl, rfl⟩)))⟩) (fun s_16 => (t_seq (t_ifj (σ := (List Int)) [] (fun s_18 => [some (.z, (eP (nc eI (nc (eT (eP (nc eS (nc (eT eI) (n1 eI))))) (nc (eT eI) (n1 (eT eI)))))) circuit_1), some (.z, eI case_2), some (.z, eI net_3), some (.z, eI value_4), some ((.l .z), (eL eI) s_18), some (.z, eI count_6), none, none, none, none, none]) (j_andP (j_bv (j_o2 (o_f (j_n 2 eI net_3 rfl)) (o_f (j_c (.int 0) eI 0 rfl)) (fun _ _ _ _ => q_ge _ _))) (j_bv (j_o2 (o_f (j_n 2 eI net_3 rfl)) (o_f (j_n 5 eI count_6 rfl)) (fun _ _ _ _ => q_lt _ _)))) (t_set 4 eI s_16 (j_n 3 eI value_4 rfl) ⟨_, rfl⟩ (j_n 2 eI net_3 rfl) rfl (fun nets_17 => (t_end (s := nets_17) ⟨_, rfl, rfl⟩))) (t_nx (t_end (s := s_16) ⟨_, rfl, rfl⟩)) (fun s_18 => (t_seq (t_pre (t_for (σ := (List Int) × Int) (fun s_19 => [some (.z, (eP (nc eI (nc (eT (eP (nc eS (nc (eT eI) (n1 eI))))) (nc (eT eI) (n1 (eT eI)))))) circuit_1), some (.z, eI case_2), some (.z, eI net_3), some (.z, eI value_4), some ((.l .z), (eL eI) (s_19.1)), some (.z, eI (s_19.2)), none, none, none, none, none]) (s_18, count_6) (i_t (j_v (j_o2 (o_f (j_n 0 (eP (nc eI (nc (eT (eP (nc eS (nc (eT eI) (n1 eI))))) (nc (eT eI) (n1 (eT eI)))))) circuit_1 rfl)) (o_f (j_c (.int 1) eI 1 rfl)) (fun _ _ _ h => q_pj (e1 := (eT (eP (nc eS (nc (eT eI) (n1 eI)))))) (fun (p : (Int × (List (Str × (List Int) × Int)) × (List Int) × (List Int))) => (p.2.1)) 1 (ixn_nat 1) (fun _ => rfl) _ h)))) (fun s_19 cell_20 => ⟨_, rfl, t_wp (t_seq (t_ifj (σ := (List Int) × Int) [] (fun s_34 => [some (.z, (eP (nc eI (nc (eT (eP (nc eS (nc (eT eI) (n1 eI))))) (nc (eT eI) (n1 (eT eI)))))) circuit_1), some (.z, eI case_2), some (.z, eI net_3), some (.z, eI value_4), some ((.l .z), (eL eI) (s_34.1)), some (.z, eI (s_34.2)), none, some (.z, (eP (nc eS (nc (eT eI) (n1 eI)))) cell_20), none, none, none]) (j_bv (j_o2 (o_f (j_v (j_o2 (o_f (j_n 7 (eP (nc eS (nc (eT eI) (n1 eI)))) cell_20 rfl)) (o_f (j_c (.int 0) eI 0 rfl)) (fun _ _ _ h => q_pj (e1 := eS) (fun (p : (Str × (List Int) × Int)) => (p.1)) 0 (ixn_nat 0) (fun _ => rfl) _ h)))) (o_f (j_c (.str (S "latch")) eS (S "latch") rfl)) (fun _ _ _ _ => q_eqS _ _))) (t_seq (t_app 4 eI (s_19.1) ⟨_, rfl⟩ (j_v (j_o2 (o_f (j_v (j_o2 (o_f (j_n 1 eI case_2 rfl)) (o_f (j_v (j_o2 (o_f (j_v (j_lst 7 (f_lc (j_c (.int 1) eI 1 rfl) (f_lc (j_c (.int 2) eI 2 rfl) (f_lc (j_c (.int 4) eI 4 rfl) (f_lc (j_c (.int 8) eI 8 rfl) (f_lc (j_c (.int 16) eI 16 rfl) (f_lc (j_c (.int 32) eI 32 rfl) (f_lc (j_c (.int 64) eI 64 rfl) (f_l0 eI)))))))) (by decide) (hl_c (hl_c (hl_c (hl_c (hl_c (hl_c (hl_c hl_0)))))))))) (o_f (j_n 5 eI (s_19.2) rfl)) (fun _ _ _ _ => q_ixL _ _)))) (fun _ _ _ _ => q_div _ _)))) (o_f (j_v (j_o2 (o_f (j_v (j_o2 (o_f (j_n 1 eI case_2 rfl)) (o_f (j_v (j_o2 (o_f (j_v (j_lst 7 (f_lc (j_c (.int 2) eI 2 rfl) (f_lc (j_c (.int 4) eI 4 rfl) (f_lc (j_c (.int 8) eI 8 rfl) (f_lc (j_c (.int 16) eI 16 rfl) (f_lc (j_c (.int 32) eI 32 rfl) (f_lc (j_c (.int 64) eI 64 rfl) (f_lc (j_c (.int 128) eI 128 rfl) (f_l0 eI)))))))) (by decide) (hl_c (hl_c (hl_c (hl_c (hl_c (hl_c (hl_c hl_0)))))))))) (o_f (j_n 5 eI (s_19.2) rfl)) (fun _ _ _ _ => q_ixL _ _)))) (fun _ _ _ _ => q_div _ _)))) (o_f (j_c (.int 2) eI 2 rfl)) (fun _ _ _ h => q_mulrL (by decide) h)))) (fun _ _ _ _ => q_sub _ _))) rfl (fun nets_26 => (t_asg 5 (j_vf (j_v (j_o2 (o_f (j_n 5 eI (s_19.2) rfl)) (o_f (j_c (.int 1) eI 1 rfl)) (fun _ _ _ _ => q_add _ _)))) (fun count_27 => (t_end (s := (nets_26, count_27)) ⟨_, rfl, rfl⟩)))))) (t_app 4 eI (s_19.1) ⟨_, rfl⟩ (j_v (j_call (M := (fun (p : (Str × (List Int))) => M_law_value (p.1) (p.2))) (f_c (j_v (j_o2 (o_f (j_n 7 (eP (nc eS (nc (eT eI) (n1 eI)))) cell_20 rfl)) (o_f (j_c (.int 0) eI 0 rfl)) (fun _ _ _ h => q_pj (e1 := eS) (fun (p : (Str × (List Int) × Int)) => (p.1)) 0 (ixn_nat 0) (fun _ => rfl) _ h))) (f_1 (j_v (j_compE (ey := eI) (i_t (j_v (j_o2 (o_f (j_n 7 (eP (nc eS (nc (eT eI) (n1 eI)))) cell_20 rfl)) (o_f (j_c (.int 1) eI 1 rfl)) (fun _ _ _ h => q_pj (e1 := (eT eI)) (fun (p : (Str × (List Int) × Int)) => (p.2.1)) 1 (ixn_nat 1) (fun _ => rfl) _ h)))) (fun source_29 => ⟨_, _, rfl, (j_v (j_o2 (o_b 4 _ (eL eI) (s_19.1) rfl (by rfl)) (o_f (j_n 10 eI source_29 rfl)) (fun _ _ _ _ => q_ixL _ _))), rfl, rfl⟩) rfl)))) (fun (p : (Str × (List Int))) => sd_law_value (p.1) (p.2)) (fun _ => rfl))) rfl (fun nets_32 => (t_end (s := (nets_32, (s_19.2))) ⟨_, rfl, rfl⟩))) (fun s_34 => (t_if (j_bv (j_o2 (o_f (j_v (j_o2 (o_f (j_n 7 (eP (nc eS (nc (eT eI) (n1 eI)))) cell_20 rfl)) (o_f (j_c (.int 2) eI 2 rfl)) (fun _ _ _ h => q_pj (e1 := eI) (fun (p : (Str × (List Int) × Int)) => (p.2.2)) 2 (ixn_nat 2) (fun _ => rfl) _ h)))) (o_f (j_n 2 eI net_3 rfl)) (fun _ _ _ _ => q_eqI _ _))) (t_set 4 eI (s_34.1) (j_n 3 eI value_4 rfl) ⟨_, rfl⟩ (j_n 2 eI net_3 rfl) rfl (fun nets_35 => (t_end (s := (nets_35, (s_34.2))) ⟨_, .inl rfl, rfl⟩))) (t_nx (t_end (s := ((s_34.1), (s_34.2))) ⟨_, .inl rfl, rfl⟩))))))⟩) (fun s_36 => (t_seq (t_asg 8 (j_vf (j_v (j_o2 (o_f (j_v (j_b1 (o_f (j_v (j_o2 (o_f (j_n 0 (eP (nc eI (nc (eT (eP (nc eS (nc (eT eI) (n1 eI))))) (nc (eT eI) (n1 (eT eI)))))) circuit_1 rfl)) (o_f (j_c (.int 2) eI 2 rfl)) (fun _ _ _ h => q_pj (e1 := (eT eI)) (fun (p : (Int × (List (Str × (List Int) × Int)) × (List Int) × (List Int))) => (p.2.2.1)) 2 (ixn_nat 2) (fun _ => rfl) _ h)))) (fun _ _ => q_listT _)))) (o_f (j_v (j_comp (ey := eI) (i_t (j_v (j_o2 (o_f (j_n 0 (eP (nc eI (nc (eT (eP (nc eS (nc (eT eI) (n1 eI))))) (nc (eT eI) (n1 (eT eI)))))) circuit_1 rfl)) (o_f (j_c (.int 1) eI 1 rfl)) (fun _ _ _ h => q_pj (e1 := (eT (eP (nc eS (nc (eT eI) (n1 eI)))))) (fun (p : (Int × (List (Str × (List Int) × Int)) × (List Int) × (List Int))) => (p.2.1)) 1 (ixn_nat 1) (fun _ => rfl) _ h)))) (fun cell_38 => ⟨_, _, _, rfl, (j_bv (j_o2 (o_f (j_v (j_o2 (o_f (j_n 7 (eP (nc eS (nc (eT eI) (n1 eI)))) cell_38 rfl)) (o_f (j_c (.int 0) eI 0 rfl)) (fun _ _ _ h => q_pj (e1 := eS) (fun (p : (Str × (List Int) × Int)) => (p.1)) 0 (ixn_nat 0) (fun _ => rfl) _ h)))) (o_f (j_c (.str (S "latch")) eS (S "latch") rfl)) (fun _ _ _ _ => q_eqS _ _))), (j_v (j_o2 (o_f (j_v (j_o2 (o_f (j_n 7 (eP (nc eS (nc (eT eI) (n1 eI)))) cell_38 rfl)) (o_f (j_c (.int 1) eI 1 rfl)) (fun _ _ _ h => q_pj (e1 := (eT eI)) (fun (p : (Str × (List Int) × Int)) => (p.2.1)) 1 (ixn_nat 1) (fun _ => rfl) _ h)))) (o_f (j_c (.int 0) eI 0 rfl)) (fun _ _ _ _ => q_ixT _ _))), rfl, rfl⟩) rfl))) (fun _ _ _ _ => q_addL _ _)))) (fun ends_37 => (t_ret (j_compE (ey := eI) (i_l (j_n 8 (eL eI) ends_37 rfl)) (fun end_40 => ⟨_, _, rfl, (j_v (j_o2 (o_b 4 _ (eL eI) (s_36.1) rfl (by rfl)) (o_f (j_n 9 eI end_40 rfl)) (fun _ _ _ _ => q_ixL _ _))), rfl, rfl⟩) rfl))))))))))))))))))))))) (by unfold M_law_answers; delta B_law_answers_2; delta B_law_answers_1; simp only [TM.bind_assoc, ok_bind, bind_ok_r, nex_ok])
def B_law_cases_1  : ((Int)) → (Int) → E (Int) := fun s_8 k_9 =>
 (E.bind (E.ok (s_8 * 2)) fun count_10 =>
 (E.ok count_10))
def M_law_cases (circuit_1 : (Int × (List (Str × (List Int) × Int)) × (List Int) × (List Int))) : E Int :=
 (E.bind (E.ok 1) fun count_2 =>
 (E.bind (E.bind (E.bind (E.bind (E.bind (filE (β := Int) (fun cell_3 => (decide ((cell_3.1) = (S "latch")))) (fun cell_3 =>
 1) (circuit_1.2.1)) fun t_4 =>
 (E.ok (t_4.length : Int))) fun t_5 =>
 (E.ok ((circuit_1.1) + t_5))) fun t_7 =>
 (rg1 t_7)) fun t_12 =>
 (forE (σ := Int) B_law_cases_1 t_12 count_2)) fun s_11 =>
 (E.ok s_11)))
theorem sd_law_cases (circuit_1 : (Int × (List (Str × (List Int) × Int)) × (List Int) × (List Int))) : Sd (F_law_cases [(eP (nc eI (nc (eT (eP (nc eS (nc (eT eI) (n1 eI))))) (nc (eT eI) (n1 (eT eI)))))) circuit_1]) (M_law_cases circuit_1) (vs .z eI) :=
  sd_mk (d_ok (Γ0 := [some (.z, (eP (nc eI (nc (eT (eP (nc eS (nc (eT eI) (n1 eI))))) (nc (eT eI) (n1 (eT eI)))))) circuit_1), none, none, none]) rfl rfl (t_seq (t_asg 1 (j_vf (j_c (.int 1) eI 1 rfl)) (fun count_2 => (t_seq (t_pre (t_for (σ := Int) (fun s_8 => [some (.z, (eP (nc eI (nc (eT (eP (nc eS (nc (eT eI) (n1 eI))))) (nc (eT eI) (n1 (eT eI)))))) circuit_1), some (.z, eI s_8), none, none]) count_2 (i_r1 (f_1 (j_v (j_o2 (o_f (j_v (j_o2 (o_f (j_n 0 (eP (nc eI (nc (eT (eP (nc eS (nc (eT eI) (n1 eI))))) (nc (eT eI) (n1 (eT eI)))))) circuit_1 rfl)) (o_f (j_c (.int 0) eI 0 rfl)) (fun _ _ _ h => q_pj (e1 := eI) (fun (p : (Int × (List (Str × (List Int) × Int)) × (List Int) × (List Int))) => (p.1)) 0 (ixn_nat 0) (fun _ => rfl) _ h)))) (o_f (j_v (j_b1 (o_f (j_v (j_compF (ey := eI) (i_t (j_v (j_o2 (o_f (j_n 0 (eP (nc eI (nc (eT (eP (nc eS (nc (eT eI) (n1 eI))))) (nc (eT eI) (n1 (eT eI)))))) circuit_1 rfl)) (o_f (j_c (.int 1) eI 1 rfl)) (fun _ _ _ h => q_pj (e1 := (eT (eP (nc eS (nc (eT eI) (n1 eI)))))) (fun (p : (Int × (List (Str × (List Int) × Int)) × (List Int) × (List Int))) => (p.2.1)) 1 (ixn_nat 1) (fun _ => rfl) _ h)))) (fun cell_3 => ⟨_, _, _, rfl, (j_bv (j_o2 (o_f (j_v (j_o2 (o_f (j_n 3 (eP (nc eS (nc (eT eI) (n1 eI)))) cell_3 rfl)) (o_f (j_c (.int 0) eI 0 rfl)) (fun _ _ _ h => q_pj (e1 := eS) (fun (p : (Str × (List Int) × Int)) => (p.1)) 0 (ixn_nat 0) (fun _ => rfl) _ h)))) (o_f (j_c (.str (S "latch")) eS (S "latch") rfl)) (fun _ _ _ _ => q_eqS _ _))), (j_c (.int 1) eI 1 rfl), rfl, rfl⟩) rfl))) (fun _ _ => q_lenL _)))) (fun _ _ _ _ => q_add _ _))))) (fun s_8 k_9 => ⟨_, rfl, t_wp (t_asg 1 (j_vf (j_v (j_o2 (o_f (j_n 1 eI s_8 rfl)) (o_f (j_c (.int 2) eI 2 rfl)) (fun _ _ _ h => q_mulrL (by decide) h)))) (fun count_10 => (t_end (s := count_10) ⟨_, .inl rfl, rfl⟩)))⟩) (fun s_11 => (t_ret (j_vf (j_n 1 eI s_11 rfl))))))))))) (by unfold M_law_cases; delta B_law_cases_1; simp only [TM.bind_assoc, ok_bind, bind_ok_r, nex_ok])
def M_law_refuses (circuit_1 : (Int × (List (Str × (List Int) × Int)) × (List Int) × (List Int))) : E Bool :=
 (E.bind (E.ok 0) fun count_2 =>
 (E.bind (tryJ (σ := Int) m_GatesError (M_make_tests circuit_1) count_2 (fun ex_3 => (E.bind (E.bind (E.bind (E.ofO (is_TooLarge ex_3.c)) fun t_5 =>
 (E.ok (b2i t_5))) fun t_6 =>
 (E.ok (count_2 + t_6))) fun count_4 =>
 (E.ok count_4)))) fun s_7 =>
 (E.bind (tryJ (σ := Int) m_GatesError (M_hidden_flaws circuit_1) s_7 (fun ex_8 => (E.bind (E.bind (E.bind (E.ofO (is_TooLarge ex_8.c)) fun t_10 =>
 (E.ok (b2i t_10))) fun t_11 =>
 (E.ok (s_7 + t_11))) fun count_9 =>
 (E.ok count_9)))) fun s_12 =>
 (E.bind (tryJ (σ := Int) m_GatesError ((fun (p : ((Int × (List (Str × (List Int) × Int)) × (List Int) × (List Int)) × (Int × Int))) => M_first_case (p.1) (p.2)) (circuit_1, (90, 3))) s_12 (fun ex_13 => (E.bind (E.bind (E.bind (E.ofO (is_TooLarge ex_13.c)) fun t_15 =>
 (E.ok (b2i t_15))) fun t_16 =>
 (E.ok (s_12 + t_16))) fun count_14 =>
 (E.ok count_14)))) fun s_17 =>
 (E.ok (decide (s_17 = 3)))))))
theorem sd_law_refuses (circuit_1 : (Int × (List (Str × (List Int) × Int)) × (List Int) × (List Int))) : Sd (F_law_refuses [(eP (nc eI (nc (eT (eP (nc eS (nc (eT eI) (n1 eI))))) (nc (eT eI) (n1 (eT eI)))))) circuit_1]) (M_law_refuses circuit_1) (vs .z eB) :=
  sd_mk (d_ok (Γ0 := [some (.z, (eP (nc eI (nc (eT (eP (nc eS (nc (eT eI) (n1 eI))))) (nc (eT eI) (n1 (eT eI)))))) circuit_1), none, none]) rfl rfl (t_seq (t_asg 1 (j_vf (j_c (.int 0) eI 0 rfl)) (fun count_2 => (t_seq (t_tryJ (σ := Int) (M := M_make_tests) (fun s_7 => [some (.z, (eP (nc eI (nc (eT (eP (nc eS (nc (eT eI) (n1 eI))))) (nc (eT eI) (n1 (eT eI)))))) circuit_1), some (.z, eI s_7), none]) count_2 (f_1 (j_n 0 (eP (nc eI (nc (eT (eP (nc eS (nc (eT eI) (n1 eI))))) (nc (eT eI) (n1 (eT eI)))))) circuit_1 rfl)) sd_make_tests (fun _ => rfl) (fun ex_3 => (t_asg 1 (j_vf (j_v (j_o2 (o_f (j_n 1 eI count_2 rfl)) (o_f (j_v (j_b1 (o_f (j_isx rfl)) (fun _ _ => q_intB _)))) (fun _ _ _ _ => q_add _ _)))) (fun count_4 => (t_end (s := count_4) ⟨_, rfl, rfl⟩)))) (fun s_7 => (t_seq (t_tryJ (σ := Int) (M := M_hidden_flaws) (fun s_12 => [some (.z, (eP (nc eI (nc (eT (eP (nc eS (nc (eT eI) (n1 eI))))) (nc (eT eI) (n1 (eT eI)))))) circuit_1), some (.z, eI s_12), none]) s_7 (f_1 (j_n 0 (eP (nc eI (nc (eT (eP (nc eS (nc (eT eI) (n1 eI))))) (nc (eT eI) (n1 (eT eI)))))) circuit_1 rfl)) sd_hidden_flaws (fun _ => rfl) (fun ex_8 => (t_asg 1 (j_vf (j_v (j_o2 (o_f (j_n 1 eI s_7 rfl)) (o_f (j_v (j_b1 (o_f (j_isx rfl)) (fun _ _ => q_intB _)))) (fun _ _ _ _ => q_add _ _)))) (fun count_9 => (t_end (s := count_9) ⟨_, rfl, rfl⟩)))) (fun s_12 => (t_seq (t_tryJ (σ := Int) (M := (fun (p : ((Int × (List (Str × (List Int) × Int)) × (List Int) × (List Int)) × (Int × Int))) => M_first_case (p.1) (p.2))) (fun s_17 => [some (.z, (eP (nc eI (nc (eT (eP (nc eS (nc (eT eI) (n1 eI))))) (nc (eT eI) (n1 (eT eI)))))) circuit_1), some (.z, eI s_17), none]) s_12 (f_c (j_n 0 (eP (nc eI (nc (eT (eP (nc eS (nc (eT eI) (n1 eI))))) (nc (eT eI) (n1 (eT eI)))))) circuit_1 rfl) (f_1 (j_tup 2 (f_c (j_c (.int 90) eI 90 rfl) (f_1 (j_c (.int 3) eI 3 rfl))) (by decide) (fun _ => rfl)))) (fun (p : ((Int × (List (Str × (List Int) × Int)) × (List Int) × (List Int)) × (Int × Int))) => sd_first_case (p.1) (p.2)) (fun _ => rfl) (fun ex_13 => (t_asg 1 (j_vf (j_v (j_o2 (o_f (j_n 1 eI s_12 rfl)) (o_f (j_v (j_b1 (o_f (j_isx rfl)) (fun _ _ => q_intB _)))) (fun _ _ _ _ => q_add _ _)))) (fun count_14 => (t_end (s := count_14) ⟨_, rfl, rfl⟩)))) (fun s_17 => (t_ret (j_vf (j_v (j_o2 (o_f (j_n 1 eI s_17 rfl)) (o_f (j_c (.int 3) eI 3 rfl)) (fun _ _ _ _ => q_eqI _ _)))))))))))))))))) (by unfold M_law_refuses; simp only [TM.bind_assoc, ok_bind, bind_ok_r, nex_ok])
def B_law_shown_1 (circuit_1 : (Int × (List (Str × (List Int) × Int)) × (List Int) × (List Int))) (case_6 : Int) (net_10 : Int) (plain_7 : (List Int)) : (((List (Int × Int)))) → (Int) → E ((List (Int × Int))) := fun s_11 value_12 =>
 (E.bind (E.bind (M_law_answers circuit_1 case_6 net_10 value_12) fun t_13 =>
 (E.ok (!decide (t_13 = plain_7)))) fun t_15 =>
 (if t_15 = true then
 (E.bind (appE s_11 (net_10, value_12)) fun row_14 =>
 (E.ok row_14))
 else
 (E.ok s_11)))
def B_law_shown_2 (circuit_1 : (Int × (List (Str × (List Int) × Int)) × (List Int) × (List Int))) (case_6 : Int) (plain_7 : (List Int)) : (((List (Int × Int)))) → (Int) → E ((List (Int × Int))) := fun s_9 net_10 =>
 (E.bind (E.bind (rg1 2) fun t_17 =>
 (forE (σ := (List (Int × Int))) (B_law_shown_1 circuit_1 case_6 net_10 plain_7) t_17 s_9)) fun s_16 =>
 (E.ok s_16))
def B_law_shown_3 (circuit_1 : (Int × (List (Str × (List Int) × Int)) × (List Int) × (List Int))) : (((List (List (Int × Int))))) → (Int) → E ((List (List (Int × Int)))) := fun s_5 case_6 =>
 (E.bind (M_law_answers circuit_1 case_6 (-1) 0) fun plain_7 =>
 (E.bind (E.ok []) fun row_8 =>
 (E.bind (E.bind (rg1 ((circuit_1.1) + ((circuit_1.2.1).length : Int))) fun t_20 =>
 (forE (σ := (List (Int × Int))) (B_law_shown_2 circuit_1 case_6 plain_7) t_20 row_8)) fun s_18 =>
 (E.bind (appE s_5 s_18) fun shown_19 =>
 (E.ok shown_19)))))
def M_law_shown (circuit_1 : (Int × (List (Str × (List Int) × Int)) × (List Int) × (List Int))) : E (List (List (Int × Int))) :=
 (E.bind (E.ok []) fun shown_2 =>
 (E.bind (E.bind (E.bind (M_law_cases circuit_1) fun t_4 =>
 (rg1 t_4)) fun t_22 =>
 (forE (σ := (List (List (Int × Int)))) (B_law_shown_3 circuit_1) t_22 shown_2)) fun s_21 =>
 (E.ok s_21)))
theorem sd_law_shown (circuit_1 : (Int × (List (Str × (List Int) × Int)) × (List Int) × (List Int))) : Sd (F_law_shown [(eP (nc eI (nc (eT (eP (nc eS (nc (eT eI) (n1 eI))))) (nc (eT eI) (n1 (eT eI)))))) circuit_1]) (M_law_shown circuit_1) (vs (.l .z) (eL (eL (eP (nc eI (n1 eI)))))) :=
  sd_mk (d_ok (Γ0 := [some (.z, (eP (nc eI (nc (eT (eP (nc eS (nc (eT eI) (n1 eI))))) (nc (eT eI) (n1 (eT eI)))))) circuit_1), none, none, none, none, none, none]) rfl rfl (t_seq (t_asg 1 (j_lst 0 (f_l0 (eL (eP (nc eI (n1 eI))))) (by decide) hl_0) (fun shown_2 => (t_seq (t_pre (t_for (σ := (List (List (Int × Int)))) (fun s_5 => [some (.z, (eP (nc eI (nc (eT (eP (nc eS (nc (eT eI) (n1 eI))))) (nc (eT eI) (n1 (eT eI)))))) circuit_1), some ((.l .z), (eL (eL (eP (nc eI (n1 eI))))) s_5), none, none, none, none, none]) shown_2 (i_r1 (f_1 (j_v (j_call (M := M_law_cases) (f_1 (j_n 0 (eP (nc eI (nc (eT (eP (nc eS (nc (eT eI) (n1 eI))))) (nc (eT eI) (n1 (eT eI)))))) circuit_1 rfl)) sd_law_cases (fun _ => rfl))))) (fun s_5 case_6 => ⟨_, rfl, t_wp (t_seq (t_asg 3 (j_vf (j_v (j_call (M := (fun (p : ((Int × (List (Str × (List Int) × Int)) × (List Int) × (List Int)) × Int × Int × Int)) => M_law_answers (p.1) (p.2.1) (p.2.2.1) (p.2.2.2))) (f_c (j_n 0 (eP (nc eI (nc (eT (eP (nc eS (nc (eT eI) (n1 eI))))) (nc (eT eI) (n1 (eT eI)))))) circuit_1 rfl) (f_c (j_n 2 eI case_6 rfl) (f_c (j_neg (j_c (.int 1) eI 1 rfl)) (f_1 (j_c (.int 0) eI 0 rfl))))) (fun (p : ((Int × (List (Str × (List Int) × Int)) × (List Int) × (List Int)) × Int × Int × Int)) => sd_law_answers (p.1) (p.2.1) (p.2.2.1) (p.2.2.2)) (fun _ => rfl)))) (fun plain_7 => (t_seq (t_asg 4 (j_lst 0 (f_l0 (eP (nc eI (n1 eI)))) (by decide) hl_0) (fun row_8 => (t_seq (t_pre (t_for (σ := (List (Int × Int))) (fun s_9 => [some (.z, (eP (nc eI (nc (eT (eP (nc eS (nc (eT eI) (n1 eI))))) (nc (eT eI) (n1 (eT eI)))))) circuit_1), some ((.l .z), (eL (eL (eP (nc eI (n1 eI))))) s_5), some (.z, eI case_6), some (.z, (eL eI) plain_7), some ((.l .z), (eL (eP (nc eI (n1 eI)))) s_9), none, none]) row_8 (i_r1 (f_1 (j_v (j_o2 (o_f (j_v (j_o2 (o_f (j_n 0 (eP (nc eI (nc (eT (eP (nc eS (nc (eT eI) (n1 eI))))) (nc (eT eI) (n1 (eT eI)))))) circuit_1 rfl)) (o_f (j_c (.int 0) eI 0 rfl)) (fun _ _ _ h => q_pj (e1 := eI) (fun (p : (Int × (List (Str × (List Int) × Int)) × (List Int) × (List Int))) => (p.1)) 0 (ixn_nat 0) (fun _ => rfl) _ h)))) (o_f (j_v (j_b1 (o_f (j_v (j_o2 (o_f (j_n 0 (eP (nc eI (nc (eT (eP (nc eS (nc (eT eI) (n1 eI))))) (nc (eT eI) (n1 (eT eI)))))) circuit_1 rfl)) (o_f (j_c (.int 1) eI 1 rfl)) (fun _ _ _ h => q_pj (e1 := (eT (eP (nc eS (nc (eT eI) (n1 eI)))))) (fun (p : (Int × (List (Str × (List Int) × Int)) × (List Int) × (List Int))) => (p.2.1)) 1 (ixn_nat 1) (fun _ => rfl) _ h)))) (fun _ _ => q_lenT _)))) (fun _ _ _ _ => q_add _ _))))) (fun s_9 net_10 => ⟨_, rfl, t_wp (t_pre (t_for (σ := (List (Int × Int))) (fun s_11 => [some (.z, (eP (nc eI (nc (eT (eP (nc eS (nc (eT eI) (n1 eI))))) (nc (eT eI) (n1 (eT eI)))))) circuit_1), some ((.l .z), (eL (eL (eP (nc eI (n1 eI))))) s_5), some (.z, eI case_6), some (.z, (eL eI) plain_7), some ((.l .z), (eL (eP (nc eI (n1 eI)))) s_11), some (.z, eI net_10), none]) s_9 (i_r1 (f_1 (j_c (.int 2) eI 2 rfl))) (fun s_11 value_12 => ⟨_, rfl, t_wp (t_if (j_bv (j_o2 (o_f (j_v (j_call (M := (fun (p : ((Int × (List (Str × (List Int) × Int)) × (List Int) × (List Int)) × Int × Int × Int)) => M_law_answers (p.1) (p.2.1) (p.2.2.1) (p.2.2.2))) (f_c (j_n 0 (eP (nc eI (nc (eT (eP (nc eS (nc (eT eI) (n1 eI))))) (nc (eT eI) (n1 (eT eI)))))) circuit_1 rfl) (f_c (j_n 2 eI case_6 rfl) (f_c (j_n 5 eI net_10 rfl) (f_1 (j_n 6 eI value_12 rfl))))) (fun (p : ((Int × (List (Str × (List Int) × Int)) × (List Int) × (List Int)) × Int × Int × Int)) => sd_law_answers (p.1) (p.2.1) (p.2.2.1) (p.2.2.2)) (fun _ => rfl)))) (o_f (j_n 3 (eL eI) plain_7 rfl)) (fun _ _ _ _ => q_ne (eq_L eq_I) (by decide) _ _))) (t_app 4 (eP (nc eI (n1 eI))) s_11 ⟨_, rfl⟩ (j_tup 2 (f_c (j_n 5 eI net_10 rfl) (f_1 (j_n 6 eI value_12 rfl))) (by decide) (fun _ => rfl)) rfl (fun row_14 => (t_end (s := row_14) ⟨_, .inl rfl, rfl⟩))) (t_nx (t_end (s := s_11) ⟨_, .inl rfl, rfl⟩)))⟩) (fun s_16 => (t_end (s := s_16) ⟨_, .inl rfl, rfl⟩))))⟩) (fun s_18 => (t_app 1 (eL (eP (nc eI (n1 eI)))) s_5 ⟨_, rfl⟩ (j_z 4 _ (eL (eP (nc eI (n1 eI)))) s_18 rfl) rfl (fun shown_19 => (t_end (s := shown_19) ⟨_, .inl rfl, rfl⟩)))))))))))))⟩) (fun s_21 => (t_ret (j_mv 1 _ (eL (eL (eP (nc eI (n1 eI))))) s_21 rfl)))))))))) (by unfold M_law_shown; delta B_law_shown_3; delta B_law_shown_2; delta B_law_shown_1; simp only [TM.bind_assoc, ok_bind, bind_ok_r, nex_ok])
def M_law_bare (script_1 : (List Int)) (circuit_2 : (Int × (List (Str × (List Int) × Int)) × (List Int) × (List Int))) : E (Int × (List (Str × (List Int) × Int)) × (List Int) × (List Int)) :=
 (E.bind (if (decide ((circuit_2.1) = 0)) = true then E.ok true else (E.bind (E.bind (E.bind (M_law_cell script_1 2) fun t_3 =>
 (E.ok t_3)) fun t_4 =>
 (E.ok (t_4 % 8))) fun t_5 =>
 (E.ok (!decide (t_5 = 5))))) fun t_9 =>
 (if t_9 = true then
 (E.ok circuit_2)
 else
 (E.bind (E.bind (comE (β := Int) (fun net_6 =>
 (modE net_6 (circuit_2.1))) (circuit_2.2.2.1)) fun t_7 =>
 (E.ok t_7)) fun t_8 =>
 (E.ok ((circuit_2.1), [], t_8, [])))))
theorem sd_law_bare (script_1 : (List Int)) (circuit_2 : (Int × (List (Str × (List Int) × Int)) × (List Int) × (List Int))) : Sd (F_law_bare [eScr script_1, (eP (nc eI (nc (eT (eP (nc eS (nc (eT eI) (n1 eI))))) (nc (eT eI) (n1 (eT eI)))))) circuit_2]) (M_law_bare script_1 circuit_2) (vs .z (eP (nc eI (nc (eT (eP (nc eS (nc (eT eI) (n1 eI))))) (nc (eT eI) (n1 (eT eI))))))) :=
  sd_mk (d_ok (Γ0 := [some (.z, eScr script_1), some (.z, (eP (nc eI (nc (eT (eP (nc eS (nc (eT eI) (n1 eI))))) (nc (eT eI) (n1 (eT eI)))))) circuit_2), none]) rfl rfl (t_seq (t_if (j_or (j_bv (j_o2 (o_f (j_v (j_o2 (o_f (j_n 1 (eP (nc eI (nc (eT (eP (nc eS (nc (eT eI) (n1 eI))))) (nc (eT eI) (n1 (eT eI)))))) circuit_2 rfl)) (o_f (j_c (.int 0) eI 0 rfl)) (fun _ _ _ h => q_pj (e1 := eI) (fun (p : (Int × (List (Str × (List Int) × Int)) × (List Int) × (List Int))) => (p.1)) 0 (ixn_nat 0) (fun _ => rfl) _ h)))) (o_f (j_c (.int 0) eI 0 rfl)) (fun _ _ _ _ => q_eqI _ _))) (j_bv (j_o2 (o_f (j_v (j_o2 (o_f (j_v (j_b1 (o_f (j_v (j_call (M := (fun (p : ((List Int) × Int)) => M_law_cell (p.1) (p.2))) (f_c (j_n 0 eScr script_1 rfl) (f_1 (j_c (.int 2) eI 2 rfl))) (fun (p : ((List Int) × Int)) => sd_law_cell (p.1) (p.2)) (fun _ => rfl)))) (fun _ _ => q_intI _)))) (o_f (j_c (.int 8) eI 8 rfl)) (fun _ _ _ h => q_modrL (by decide) h)))) (o_f (j_c (.int 5) eI 5 rfl)) (fun _ _ _ _ => q_neI _ _)))) (t_ret (j_vf (j_n 1 (eP (nc eI (nc (eT (eP (nc eS (nc (eT eI) (n1 eI))))) (nc (eT eI) (n1 (eT eI)))))) circuit_2 rfl))) (t_nx (t_ret (j_vf (j_tup 4 (f_c (j_v (j_o2 (o_f (j_n 1 (eP (nc eI (nc (eT (eP (nc eS (nc (eT eI) (n1 eI))))) (nc (eT eI) (n1 (eT eI)))))) circuit_2 rfl)) (o_f (j_c (.int 0) eI 0 rfl)) (fun _ _ _ h => q_pj (e1 := eI) (fun (p : (Int × (List (Str × (List Int) × Int)) × (List Int) × (List Int))) => (p.1)) 0 (ixn_nat 0) (fun _ => rfl) _ h))) (f_c (j_ttup 0 (f_l0 (eP (nc eS (nc (eT eI) (n1 eI))))) (by decide) hl_0) (f_c (j_v (j_b1 (o_f (j_v (j_compE (ey := eI) (i_t (j_v (j_o2 (o_f (j_n 1 (eP (nc eI (nc (eT (eP (nc eS (nc (eT eI) (n1 eI))))) (nc (eT eI) (n1 (eT eI)))))) circuit_2 rfl)) (o_f (j_c (.int 2) eI 2 rfl)) (fun _ _ _ h => q_pj (e1 := (eT eI)) (fun (p : (Int × (List (Str × (List Int) × Int)) × (List Int) × (List Int))) => (p.2.2.1)) 2 (ixn_nat 2) (fun _ => rfl) _ h)))) (fun net_6 => ⟨_, _, rfl, (j_v (j_o2 (o_f (j_v (j_b1 (o_f (j_n 2 eI net_6 rfl)) (fun _ _ => q_intI _)))) (o_f (j_v (j_o2 (o_f (j_n 1 (eP (nc eI (nc (eT (eP (nc eS (nc (eT eI) (n1 eI))))) (nc (eT eI) (n1 (eT eI)))))) circuit_2 rfl)) (o_f (j_c (.int 0) eI 0 rfl)) (fun _ _ _ h => q_pj (e1 := eI) (fun (p : (Int × (List (Str × (List Int) × Int)) × (List Int) × (List Int))) => (p.1)) 0 (ixn_nat 0) (fun _ => rfl) _ h)))) (fun _ _ _ _ => q_mod _ _))), rfl, rfl⟩) rfl))) (fun _ _ => q_tupL _))) (f_1 (j_ttup 0 (f_l0 eI) (by decide) hl_0))))) (by decide) (fun _ => rfl)))))))) (by unfold M_law_bare; simp only [TM.bind_assoc, ok_bind, bind_ok_r, nex_ok])
def B_law_hidden_1 (net_5 : Int) (shown_2 : (List (List (Int × Int)))) : (((List (Int × Int)))) → (Int) → E ((List (Int × Int))) := fun s_6 value_7 =>
 (E.bind (E.bind (E.bind (filE (β := (List (Int × Int))) (fun row_8 => (memB (net_5, value_7) row_8)) (fun row_8 =>
 row_8) shown_2) fun t_9 =>
 (E.ok (t_9.length : Int))) fun t_10 =>
 (E.ok (decide (t_10 = 0)))) fun t_12 =>
 (if t_12 = true then
 (E.bind (appE s_6 (net_5, value_7)) fun hidden_11 =>
 (E.ok hidden_11))
 else
 (E.ok s_6)))
def B_law_hidden_2 (shown_2 : (List (List (Int × Int)))) : (((List (Int × Int)))) → (Int) → E ((List (Int × Int))) := fun s_4 net_5 =>
 (E.bind (E.bind (rg1 2) fun t_14 =>
 (forE (σ := (List (Int × Int))) (B_law_hidden_1 net_5 shown_2) t_14 s_4)) fun s_13 =>
 (E.ok s_13))
def M_law_hidden (circuit_1 : (Int × (List (Str × (List Int) × Int)) × (List Int) × (List Int))) (shown_2 : (List (List (Int × Int)))) : E (List (Int × Int)) :=
 (E.bind (E.ok []) fun hidden_3 =>
 (E.bind (E.bind (rg1 ((circuit_1.1) + ((circuit_1.2.1).length : Int))) fun t_16 =>
 (forE (σ := (List (Int × Int))) (B_law_hidden_2 shown_2) t_16 hidden_3)) fun s_15 =>
 (E.ok s_15)))
theorem sd_law_hidden (circuit_1 : (Int × (List (Str × (List Int) × Int)) × (List Int) × (List Int))) (shown_2 : (List (List (Int × Int)))) : Sd (F_law_hidden [(eP (nc eI (nc (eT (eP (nc eS (nc (eT eI) (n1 eI))))) (nc (eT eI) (n1 (eT eI)))))) circuit_1, (eL (eL (eP (nc eI (n1 eI))))) shown_2]) (M_law_hidden circuit_1 shown_2) (vs (.l .z) (eL (eP (nc eI (n1 eI))))) :=
  sd_mk (d_ok (Γ0 := [some (.z, (eP (nc eI (nc (eT (eP (nc eS (nc (eT eI) (n1 eI))))) (nc (eT eI) (n1 (eT eI)))))) circuit_1), some (.z, (eL (eL (eP (nc eI (n1 eI))))) shown_2), none, none, none, none]) rfl rfl (t_seq (t_asg 2 (j_lst 0 (f_l0 (eP (nc eI (n1 eI)))) (by decide) hl_0) (fun hidden_3 => (t_seq (t_pre (t_for (σ := (List (Int × Int))) (fun s_4 => [some (.z, (eP (nc eI (nc (eT (eP (nc eS (nc (eT eI) (n1 eI))))) (nc (eT eI) (n1 (eT eI)))))) circuit_1), some (.z, (eL (eL (eP (nc eI (n1 eI))))) shown_2), some ((.l .z), (eL (eP (nc eI (n1 eI)))) s_4), none, none, none]) hidden_3 (i_r1 (f_1 (j_v (j_o2 (o_f (j_v (j_o2 (o_f (j_n 0 (eP (nc eI (nc (eT (eP (nc eS (nc (eT eI) (n1 eI))))) (nc (eT eI) (n1 (eT eI)))))) circuit_1 rfl)) (o_f (j_c (.int 0) eI 0 rfl)) (fun _ _ _ h => q_pj (e1 := eI) (fun (p : (Int × (List (Str × (List Int) × Int)) × (List Int) × (List Int))) => (p.1)) 0 (ixn_nat 0) (fun _ => rfl) _ h)))) (o_f (j_v (j_b1 (o_f (j_v (j_o2 (o_f (j_n 0 (eP (nc eI (nc (eT (eP (nc eS (nc (eT eI) (n1 eI))))) (nc (eT eI) (n1 (eT eI)))))) circuit_1 rfl)) (o_f (j_c (.int 1) eI 1 rfl)) (fun _ _ _ h => q_pj (e1 := (eT (eP (nc eS (nc (eT eI) (n1 eI)))))) (fun (p : (Int × (List (Str × (List Int) × Int)) × (List Int) × (List Int))) => (p.2.1)) 1 (ixn_nat 1) (fun _ => rfl) _ h)))) (fun _ _ => q_lenT _)))) (fun _ _ _ _ => q_add _ _))))) (fun s_4 net_5 => ⟨_, rfl, t_wp (t_pre (t_for (σ := (List (Int × Int))) (fun s_6 => [some (.z, (eP (nc eI (nc (eT (eP (nc eS (nc (eT eI) (n1 eI))))) (nc (eT eI) (n1 (eT eI)))))) circuit_1), some (.z, (eL (eL (eP (nc eI (n1 eI))))) shown_2), some ((.l .z), (eL (eP (nc eI (n1 eI)))) s_6), some (.z, eI net_5), none, none]) s_4 (i_r1 (f_1 (j_c (.int 2) eI 2 rfl))) (fun s_6 value_7 => ⟨_, rfl, t_wp (t_if (j_bv (j_o2 (o_f (j_v (j_b1 (o_f (j_v (j_compF (ey := (eL (eP (nc eI (n1 eI))))) (i_l (j_n 1 (eL (eL (eP (nc eI (n1 eI))))) shown_2 rfl)) (fun row_8 => ⟨_, _, _, rfl, (j_bv (j_o2 (o_f (j_tup 2 (f_c (j_n 3 eI net_5 rfl) (f_1 (j_n 4 eI value_7 rfl))) (by decide) (fun _ => rfl))) (o_f (j_n 5 (eL (eP (nc eI (n1 eI)))) row_8 rfl)) (fun _ _ _ _ => q_inM (eq_P (rw_c eq_I (rw_1 eq_I))) (by decide) _ _))), (j_n 5 (eL (eP (nc eI (n1 eI)))) row_8 rfl), rfl, rfl⟩) rfl))) (fun _ _ => q_lenL _)))) (o_f (j_c (.int 0) eI 0 rfl)) (fun _ _ _ _ => q_eqI _ _))) (t_app 2 (eP (nc eI (n1 eI))) s_6 ⟨_, rfl⟩ (j_tup 2 (f_c (j_n 3 eI net_5 rfl) (f_1 (j_n 4 eI value_7 rfl))) (by decide) (fun _ => rfl)) rfl (fun hidden_11 => (t_end (s := hidden_11) ⟨_, .inl rfl, rfl⟩))) (t_nx (t_end (s := s_6) ⟨_, .inl rfl, rfl⟩)))⟩) (fun s_13 => (t_end (s := s_13) ⟨_, .inl rfl, rfl⟩))))⟩) (fun s_15 => (t_ret (j_mv 2 _ (eL (eP (nc eI (n1 eI)))) s_15 rfl)))))))))) (by unfold M_law_hidden; delta B_law_hidden_2; delta B_law_hidden_1; simp only [TM.bind_assoc, ok_bind, bind_ok_r, nex_ok])
def B_law_1  : (((List (List (Int × Int))))) → (Int) → E (Fl ((List (List (Int × Int)))) Bool) := fun s_71 test_72 =>
 (E.bind (E.bind (mapE (β := Int) (fun row_74 =>
 (row_74.length : Int)) s_71) fun t_75 =>
 (maxE t_75)) fun most_73 =>
 (E.bind (E.bind (E.bind (E.bind (M_law_is_integer test_72) fun t_76 =>
 (E.ok t_76)) fun t_77 =>
 (E.ok (!t_77))) fun t_78 =>
 (E.ok (t_78 || ((decide (most_73 = 0)) || ((decide (test_72 < 0)) || (decide (test_72 ≥ (s_71.length : Int)))))))) fun t_89 =>
 (if t_89 = true then
 (E.bind (E.ok false) fun r_79 => E.ok (Fl.rt r_79))
 else
 (E.bind (E.bind (E.bind (mapE (β := Int) (fun row_80 =>
 (row_80.length : Int)) s_71) fun t_81 =>
 (idxE t_81 most_73)) fun t_82 =>
 (E.ok (!decide (test_72 = t_82)))) fun t_88 =>
 (if t_88 = true then
 (E.bind (E.ok false) fun r_83 => E.ok (Fl.rt r_83))
 else
 (E.bind (ixE s_71 test_72) fun seen_84 =>
 (E.bind (comE (β := (List (Int × Int))) (fun row_86 =>
 (filE (β := (Int × Int)) (fun flaw_87 => (!memB flaw_87 seen_84)) (fun flaw_87 =>
 flaw_87) row_86)) s_71) fun shown_85 =>
 (E.ok (Fl.nx shown_85)))))))))
def M_law (script_1 : (List Int)) : E Bool :=
 (E.bind (E.bind (M_law_cell script_1 1) fun t_4 =>
 (M_law_parts t_4 [6, 3, 6, 4])) fun parts_2 =>
 (E.bind (E.bind (ixE parts_2 0) fun t_5 =>
 (E.ok (decide (t_5 = 0)))) fun t_98 =>
 (if t_98 = true then
 (E.bind (E.bind (ixE parts_2 2) fun t_6 =>
 (ixE [(6, 1), (5, 2), (4, 3), (3, 4), (6, 4), (6, 2)] t_6)) fun q_7 =>
 (E.bind (E.bind (rg1 (q_7.2)) fun t_15 =>
 (comE (β := (Str × (List Int) × Int)) (fun k_9 =>
 (E.bind (E.bind (E.bind (E.bind (E.bind (ixE parts_2 1) fun t_10 =>
 (E.ok (k_9 + t_10))) fun t_11 =>
 (E.ok t_11)) fun t_12 =>
 (modE t_12 (q_7.1))) fun t_13 =>
 (E.ok [t_13])) fun t_14 =>
 (E.ok ((S "latch"), t_14, ((q_7.1) + k_9))))) t_15)) fun cells_8 =>
 (E.bind (E.bind (lrE (q_7.2)) fun t_16 =>
 (E.ok ((q_7.1), cells_8, [(q_7.1), 0], t_16))) fun t_18 =>
 (M_law_refuses t_18))))
 else
 (E.bind (E.bind (M_law_circuit script_1 8) fun t_21 =>
 (M_law_bare script_1 t_21)) fun circuit_19 =>
 (E.bind (E.bind (E.bind (ixE parts_2 0) fun t_22 =>
 (E.ok (decide (t_22 = 1)))) fun t_97 =>
 (if t_97 = true then (E.bind (E.bind (ixE parts_2 3) fun t_24 =>
 (ixE [(S "nand2"), (S "nor2"), (S "nand2"), (S "nor2")] t_24)) fun kind_23 =>
 (E.bind (E.bind (E.bind (E.bind (E.bind (ixE parts_2 1) fun t_27 =>
 (E.bind (E.bind (ixE parts_2 1) fun t_26 =>
 (E.ok (5 - t_26))) fun t_28 =>
 (E.ok [t_27, t_28]))) fun t_29 =>
 (E.ok (kind_23, t_29, 6))) fun t_30 =>
 (E.ok [t_30])) fun t_32 =>
 (E.bind (E.bind (ixE parts_2 2) fun t_31 =>
 (E.ok [6, t_31])) fun t_33 =>
 (E.ok (6, t_32, t_33, [])))) fun circuit_25 =>
 (E.ok circuit_25))) else (E.ok circuit_19))) fun s_34 =>
 (E.bind (E.bind (E.bind (ixE parts_2 0) fun t_35 =>
 (E.ok (decide (t_35 = 2)))) fun t_96 =>
 (if t_96 = true then (E.bind (E.bind (ixE parts_2 3) fun t_37 =>
 (ixE [(S "nand2"), (S "nor2"), (S "nand2"), (S "nor2")] t_37)) fun kind_36 =>
 (E.bind (E.bind (E.bind (E.bind (ixE parts_2 2) fun t_39 =>
 (E.ok [t_39])) fun t_40 =>
 (E.ok ((S "latch"), t_40, 4))) fun t_46 =>
 (E.bind (E.bind (E.bind (E.bind (ixE parts_2 1) fun t_41 =>
 (E.ok (6 - t_41))) fun t_42 =>
 (E.ok [t_42])) fun t_43 =>
 (E.ok ((S "latch"), t_43, 5))) fun t_47 =>
 (E.bind (E.bind (E.bind (ixE parts_2 1) fun t_44 =>
 (E.ok [t_44, 5])) fun t_45 =>
 (E.ok (kind_36, t_45, 6))) fun t_48 =>
 (E.ok [t_46, t_47, t_48])))) fun rows_38 =>
 (E.bind (E.bind (E.bind (ixE parts_2 3) fun t_49 =>
 (E.ok (decide (t_49 > 1)))) fun t_65 =>
 (if t_65 = true then (E.bind (E.bind (E.bind (E.bind (ixE parts_2 2) fun t_51 =>
 (E.ok [t_51])) fun t_52 =>
 (E.ok ((S "latch"), t_52, 4))) fun t_58 =>
 (E.bind (E.bind (E.bind (ixE parts_2 1) fun t_53 =>
 (E.ok [t_53, 4])) fun t_54 =>
 (E.ok (kind_36, t_54, 5))) fun t_59 =>
 (E.bind (E.bind (E.bind (E.bind (ixE parts_2 1) fun t_55 =>
 (E.ok (6 - t_55))) fun t_56 =>
 (E.ok [t_56])) fun t_57 =>
 (E.ok ((S "latch"), t_57, 6))) fun t_60 =>
 (E.ok [t_58, t_59, t_60])))) fun rows_50 =>
 (E.ok rows_50)) else (E.ok rows_38))) fun s_61 =>
 (E.bind (E.bind (E.bind (ixE parts_2 2) fun t_63 =>
 (E.ok [6, t_63])) fun t_64 =>
 (E.ok (4, s_61, t_64, [0, 1]))) fun circuit_62 =>
 (E.ok circuit_62))))) else (E.ok s_34))) fun s_66 =>
 (E.bind (M_make_tests s_66) fun actual_67 =>
 (if (!true) = true then
 (E.ok false)
 else
 (E.bind (M_law_shown s_66) fun shown_68 =>
 (E.bind (E.bind (M_hidden_flaws s_66) fun t_69 =>
 (E.bind (M_law_hidden s_66 shown_68) fun t_70 =>
 (E.ok (!decide (t_69 = t_70))))) fun t_95 =>
 (if t_95 = true then
 (E.ok false)
 else
 (E.bind (forR (σ := (List (List (Int × Int)))) (ρ := Bool) B_law_1 actual_67 shown_68) (Sum.elim (fun s_90 =>
 (E.bind (E.bind (mapE (β := Int) (fun row_91 =>
 (row_91.length : Int)) s_90) fun t_92 =>
 (maxE t_92)) fun t_93 =>
 (E.ok (decide (t_93 = 0))))) (fun r_94 => E.ok r_94))))))))))))))
theorem sd_law (script_1 : (List Int)) : Sd (F_law [eScr script_1]) (M_law script_1) (vs .z eB) :=
  sd_mk (d_ok (Γ0 := [some (.z, eScr script_1), none, none, none, none, none, none, none, none, none, none, none, none, none, none, none]) rfl rfl (t_seq (t_asg 1 (j_vf (j_v (j_call (M := (fun (p : (Int × (List Int))) => M_law_parts (p.1) (p.2))) (f_c (j_v (j_call (M := (fun (p : ((List Int) × Int)) => M_law_cell (p.1) (p.2))) (f_c (j_n 0 eScr script_1 rfl) (f_1 (j_c (.int 1) eI 1 rfl))) (fun (p : ((List Int) × Int)) => sd_law_cell (p.1) (p.2)) (fun _ => rfl))) (f_1 (j_v (j_lst 4 (f_lc (j_c (.int 6) eI 6 rfl) (f_lc (j_c (.int 3) eI 3 rfl) (f_lc (j_c (.int 6) eI 6 rfl) (f_lc (j_c (.int 4) eI 4 rfl) (f_l0 eI))))) (by decide) (hl_c (hl_c (hl_c (hl_c hl_0)))))))) (fun (p : (Int × (List Int))) => sd_law_parts (p.1) (p.2)) (fun _ => rfl)))) (fun parts_2 => (t_seq (t_if (j_bv (j_o2 (o_f (j_v (j_o2 (o_f (j_n 1 (eL eI) parts_2 rfl)) (o_f (j_c (.int 0) eI 0 rfl)) (fun _ _ _ _ => q_ixL _ _)))) (o_f (j_c (.int 0) eI 0 rfl)) (fun _ _ _ _ => q_eqI _ _))) (t_seq (t_tgt _ (j_v (j_o2 (o_f (j_v (j_lst 6 (f_lc (j_tup 2 (f_c (j_c (.int 6) eI 6 rfl) (f_1 (j_c (.int 1) eI 1 rfl))) (by decide) (fun _ => rfl)) (f_lc (j_tup 2 (f_c (j_c (.int 5) eI 5 rfl) (f_1 (j_c (.int 2) eI 2 rfl))) (by decide) (fun _ => rfl)) (f_lc (j_tup 2 (f_c (j_c (.int 4) eI 4 rfl) (f_1 (j_c (.int 3) eI 3 rfl))) (by decide) (fun _ => rfl)) (f_lc (j_tup 2 (f_c (j_c (.int 3) eI 3 rfl) (f_1 (j_c (.int 4) eI 4 rfl))) (by decide) (fun _ => rfl)) (f_lc (j_tup 2 (f_c (j_c (.int 6) eI 6 rfl) (f_1 (j_c (.int 4) eI 4 rfl))) (by decide) (fun _ => rfl)) (f_lc (j_tup 2 (f_c (j_c (.int 6) eI 6 rfl) (f_1 (j_c (.int 2) eI 2 rfl))) (by decide) (fun _ => rfl)) (f_l0 (eP (nc eI (n1 eI)))))))))) (by decide) (hl_c (hl_c (hl_c (hl_c (hl_c (hl_c hl_0))))))))) (o_f (j_v (j_o2 (o_f (j_n 1 (eL eI) parts_2 rfl)) (o_f (j_c (.int 2) eI 2 rfl)) (fun _ _ _ _ => q_ixL _ _)))) (fun _ _ _ _ => q_ixL _ _))) (fun _ => rfl) (fun q_7 => (t_seq (t_fz 4 (j_compE (ey := (eP (nc eS (nc (eT eI) (n1 eI))))) (i_r1 (f_1 (j_n 3 eI (q_7.2) rfl))) (fun k_9 => ⟨_, _, rfl, (j_tup 3 (f_c (j_c (.str (S "latch")) eS (S "latch") rfl) (f_c (j_ttup 1 (f_lc (j_v (j_o2 (o_f (j_v (j_b1 (o_f (j_v (j_o2 (o_f (j_n 13 eI k_9 rfl)) (o_f (j_v (j_o2 (o_f (j_n 1 (eL eI) parts_2 rfl)) (o_f (j_c (.int 1) eI 1 rfl)) (fun _ _ _ _ => q_ixL _ _)))) (fun _ _ _ _ => q_add _ _)))) (fun _ _ => q_intI _)))) (o_f (j_n 2 eI (q_7.1) rfl)) (fun _ _ _ _ => q_mod _ _))) (f_l0 eI)) (by decide) (hl_c hl_0)) (f_1 (j_v (j_o2 (o_f (j_n 2 eI (q_7.1) rfl)) (o_f (j_n 13 eI k_9 rfl)) (fun _ _ _ _ => q_add _ _)))))) (by decide) (fun _ => rfl)), rfl, rfl⟩) rfl) (fun _ => rfl) (fun cells_8 => (t_ret (j_vf (j_v (j_call (M := M_law_refuses) (f_1 (j_tup 4 (f_c (j_n 2 eI (q_7.1) rfl) (f_c (j_v (j_b1 (o_f (j_n 4 (eL (eP (nc eS (nc (eT eI) (n1 eI))))) cells_8 rfl)) (fun _ _ => q_tupL _))) (f_c (j_ttup 2 (f_lc (j_n 2 eI (q_7.1) rfl) (f_lc (j_c (.int 0) eI 0 rfl) (f_l0 eI))) (by decide) (hl_c (hl_c hl_0))) (f_1 (j_tr1 (j_n 3 eI (q_7.2) rfl)))))) (by decide) (fun _ => rfl))) sd_law_refuses (fun _ => rfl))))))))))) (t_nx (t_seq (t_asg 5 (j_vf (j_v (j_call (M := (fun (p : ((List Int) × (Int × (List (Str × (List Int) × Int)) × (List Int) × (List Int)))) => M_law_bare (p.1) (p.2))) (f_c (j_n 0 eScr script_1 rfl) (f_1 (j_v (j_call (M := (fun (p : ((List Int) × Int)) => M_law_circuit (p.1) (p.2))) (f_c (j_n 0 eScr script_1 rfl) (f_1 (j_c (.int 8) eI 8 rfl))) (fun (p : ((List Int) × Int)) => sd_law_circuit (p.1) (p.2)) (fun _ => rfl))))) (fun (p : ((List Int) × (Int × (List (Str × (List Int) × Int)) × (List Int) × (List Int)))) => sd_law_bare (p.1) (p.2)) (fun _ => rfl)))) (fun circuit_19 => (t_seq (t_ifj (σ := (Int × (List (Str × (List Int) × Int)) × (List Int) × (List Int))) [6] (fun s_34 => [some (.z, eScr script_1), some (.z, (eL eI) parts_2), none, none, none, some (.z, (eP (nc eI (nc (eT (eP (nc eS (nc (eT eI) (n1 eI))))) (nc (eT eI) (n1 (eT eI)))))) s_34), none, none, none, none, none, none, none, none, none, none]) (j_bv (j_o2 (o_f (j_v (j_o2 (o_f (j_n 1 (eL eI) parts_2 rfl)) (o_f (j_c (.int 0) eI 0 rfl)) (fun _ _ _ _ => q_ixL _ _)))) (o_f (j_c (.int 1) eI 1 rfl)) (fun _ _ _ _ => q_eqI _ _))) (t_seq (t_asg 6 (j_vf (j_v (j_o2 (o_f (j_v (j_lst 4 (f_lc (j_c (.str (S "nand2")) eS (S "nand2") rfl) (f_lc (j_c (.str (S "nor2")) eS (S "nor2") rfl) (f_lc (j_c (.str (S "nand2")) eS (S "nand2") rfl) (f_lc (j_c (.str (S "nor2")) eS (S "nor2") rfl) (f_l0 eS))))) (by decide) (hl_c (hl_c (hl_c (hl_c hl_0))))))) (o_f (j_v (j_o2 (o_f (j_n 1 (eL eI) parts_2 rfl)) (o_f (j_c (.int 3) eI 3 rfl)) (fun _ _ _ _ => q_ixL _ _)))) (fun _ _ _ _ => q_ixL _ _)))) (fun kind_23 => (t_asg 5 (j_vf (j_tup 4 (f_c (j_c (.int 6) eI 6 rfl) (f_c (j_ttup 1 (f_lc (j_tup 3 (f_c (j_n 6 eS kind_23 rfl) (f_c (j_ttup 2 (f_lc (j_v (j_o2 (o_f (j_n 1 (eL eI) parts_2 rfl)) (o_f (j_c (.int 1) eI 1 rfl)) (fun _ _ _ _ => q_ixL _ _))) (f_lc (j_v (j_o2 (o_f (j_c (.int 5) eI 5 rfl)) (o_f (j_v (j_o2 (o_f (j_n 1 (eL eI) parts_2 rfl)) (o_f (j_c (.int 1) eI 1 rfl)) (fun _ _ _ _ => q_ixL _ _)))) (fun _ _ _ _ => q_sub _ _))) (f_l0 eI))) (by decide) (hl_c (hl_c hl_0))) (f_1 (j_c (.int 6) eI 6 rfl)))) (by decide) (fun _ => rfl)) (f_l0 (eP (nc eS (nc (eT eI) (n1 eI)))))) (by decide) (hl_c hl_0)) (f_c (j_ttup 2 (f_lc (j_c (.int 6) eI 6 rfl) (f_lc (j_v (j_o2 (o_f (j_n 1 (eL eI) parts_2 rfl)) (o_f (j_c (.int 2) eI 2 rfl)) (fun _ _ _ _ => q_ixL _ _))) (f_l0 eI))) (by decide) (hl_c (hl_c hl_0))) (f_1 (j_ttup 0 (f_l0 eI) (by decide) hl_0))))) (by decide) (fun _ => rfl))) (fun circuit_25 => (t_end (s := circuit_25) ⟨_, rfl, rfl⟩)))))) (t_nx (t_end (s := circuit_19) ⟨_, rfl, rfl⟩)) (fun s_34 => (t_seq (t_ifj (σ := (Int × (List (Str × (List Int) × Int)) × (List Int) × (List Int))) [6, 7] (fun s_66 => [some (.z, eScr script_1), some (.z, (eL eI) parts_2), none, none, none, some (.z, (eP (nc eI (nc (eT (eP (nc eS (nc (eT eI) (n1 eI))))) (nc (eT eI) (n1 (eT eI)))))) s_66), none, none, none, none, none, none, none, none, none, none]) (j_bv (j_o2 (o_f (j_v (j_o2 (o_f (j_n 1 (eL eI) parts_2 rfl)) (o_f (j_c (.int 0) eI 0 rfl)) (fun _ _ _ _ => q_ixL _ _)))) (o_f (j_c (.int 2) eI 2 rfl)) (fun _ _ _ _ => q_eqI _ _))) (t_seq (t_asg 6 (j_vf (j_v (j_o2 (o_f (j_v (j_lst 4 (f_lc (j_c (.str (S "nand2")) eS (S "nand2") rfl) (f_lc (j_c (.str (S "nor2")) eS (S "nor2") rfl) (f_lc (j_c (.str (S "nand2")) eS (S "nand2") rfl) (f_lc (j_c (.str (S "nor2")) eS (S "nor2") rfl) (f_l0 eS))))) (by decide) (hl_c (hl_c (hl_c (hl_c hl_0))))))) (o_f (j_v (j_o2 (o_f (j_n 1 (eL eI) parts_2 rfl)) (o_f (j_c (.int 3) eI 3 rfl)) (fun _ _ _ _ => q_ixL _ _)))) (fun _ _ _ _ => q_ixL _ _)))) (fun kind_36 => (t_seq (t_asg 7 (j_vf (j_v (j_lst 3 (f_lc (j_tup 3 (f_c (j_c (.str (S "latch")) eS (S "latch") rfl) (f_c (j_ttup 1 (f_lc (j_v (j_o2 (o_f (j_n 1 (eL eI) parts_2 rfl)) (o_f (j_c (.int 2) eI 2 rfl)) (fun _ _ _ _ => q_ixL _ _))) (f_l0 eI)) (by decide) (hl_c hl_0)) (f_1 (j_c (.int 4) eI 4 rfl)))) (by decide) (fun _ => rfl)) (f_lc (j_tup 3 (f_c (j_c (.str (S "latch")) eS (S "latch") rfl) (f_c (j_ttup 1 (f_lc (j_v (j_o2 (o_f (j_c (.int 6) eI 6 rfl)) (o_f (j_v (j_o2 (o_f (j_n 1 (eL eI) parts_2 rfl)) (o_f (j_c (.int 1) eI 1 rfl)) (fun _ _ _ _ => q_ixL _ _)))) (fun _ _ _ _ => q_sub _ _))) (f_l0 eI)) (by decide) (hl_c hl_0)) (f_1 (j_c (.int 5) eI 5 rfl)))) (by decide) (fun _ => rfl)) (f_lc (j_tup 3 (f_c (j_n 6 eS kind_36 rfl) (f_c (j_ttup 2 (f_lc (j_v (j_o2 (o_f (j_n 1 (eL eI) parts_2 rfl)) (o_f (j_c (.int 1) eI 1 rfl)) (fun _ _ _ _ => q_ixL _ _))) (f_lc (j_c (.int 5) eI 5 rfl) (f_l0 eI))) (by decide) (hl_c (hl_c hl_0))) (f_1 (j_c (.int 6) eI 6 rfl)))) (by decide) (fun _ => rfl)) (f_l0 (eP (nc eS (nc (eT eI) (n1 eI)))))))) (by decide) (hl_c (hl_c (hl_c hl_0)))))) (fun rows_38 => (t_seq (t_ifj (σ := (List (Str × (List Int) × Int))) [] (fun s_61 => [some (.z, eScr script_1), some (.z, (eL eI) parts_2), none, none, none, some (.z, (eP (nc eI (nc (eT (eP (nc eS (nc (eT eI) (n1 eI))))) (nc (eT eI) (n1 (eT eI)))))) s_34), some (.z, eS kind_36), some (.z, (eL (eP (nc eS (nc (eT eI) (n1 eI))))) s_61), none, none, none, none, none, none, none, none]) (j_bv (j_o2 (o_f (j_v (j_o2 (o_f (j_n 1 (eL eI) parts_2 rfl)) (o_f (j_c (.int 3) eI 3 rfl)) (fun _ _ _ _ => q_ixL _ _)))) (o_f (j_c (.int 1) eI 1 rfl)) (fun _ _ _ _ => q_gt _ _))) (t_asg 7 (j_vf (j_v (j_lst 3 (f_lc (j_tup 3 (f_c (j_c (.str (S "latch")) eS (S "latch") rfl) (f_c (j_ttup 1 (f_lc (j_v (j_o2 (o_f (j_n 1 (eL eI) parts_2 rfl)) (o_f (j_c (.int 2) eI 2 rfl)) (fun _ _ _ _ => q_ixL _ _))) (f_l0 eI)) (by decide) (hl_c hl_0)) (f_1 (j_c (.int 4) eI 4 rfl)))) (by decide) (fun _ => rfl)) (f_lc (j_tup 3 (f_c (j_n 6 eS kind_36 rfl) (f_c (j_ttup 2 (f_lc (j_v (j_o2 (o_f (j_n 1 (eL eI) parts_2 rfl)) (o_f (j_c (.int 1) eI 1 rfl)) (fun _ _ _ _ => q_ixL _ _))) (f_lc (j_c (.int 4) eI 4 rfl) (f_l0 eI))) (by decide) (hl_c (hl_c hl_0))) (f_1 (j_c (.int 5) eI 5 rfl)))) (by decide) (fun _ => rfl)) (f_lc (j_tup 3 (f_c (j_c (.str (S "latch")) eS (S "latch") rfl) (f_c (j_ttup 1 (f_lc (j_v (j_o2 (o_f (j_c (.int 6) eI 6 rfl)) (o_f (j_v (j_o2 (o_f (j_n 1 (eL eI) parts_2 rfl)) (o_f (j_c (.int 1) eI 1 rfl)) (fun _ _ _ _ => q_ixL _ _)))) (fun _ _ _ _ => q_sub _ _))) (f_l0 eI)) (by decide) (hl_c hl_0)) (f_1 (j_c (.int 6) eI 6 rfl)))) (by decide) (fun _ => rfl)) (f_l0 (eP (nc eS (nc (eT eI) (n1 eI)))))))) (by decide) (hl_c (hl_c (hl_c hl_0)))))) (fun rows_50 => (t_end (s := rows_50) ⟨_, rfl, rfl⟩))) (t_nx (t_end (s := rows_38) ⟨_, rfl, rfl⟩)) (fun s_61 => (t_asg 5 (j_vf (j_tup 4 (f_c (j_c (.int 4) eI 4 rfl) (f_c (j_v (j_b1 (o_f (j_n 7 (eL (eP (nc eS (nc (eT eI) (n1 eI))))) s_61 rfl)) (fun _ _ => q_tupL _))) (f_c (j_ttup 2 (f_lc (j_c (.int 6) eI 6 rfl) (f_lc (j_v (j_o2 (o_f (j_n 1 (eL eI) parts_2 rfl)) (o_f (j_c (.int 2) eI 2 rfl)) (fun _ _ _ _ => q_ixL _ _))) (f_l0 eI))) (by decide) (hl_c (hl_c hl_0))) (f_1 (j_ttup 2 (f_lc (j_c (.int 0) eI 0 rfl) (f_lc (j_c (.int 1) eI 1 rfl) (f_l0 eI))) (by decide) (hl_c (hl_c hl_0))))))) (by decide) (fun _ => rfl))) (fun circuit_62 => (t_end (s := circuit_62) ⟨_, rfl, rfl⟩)))))))))))) (t_nx (t_end (s := s_34) ⟨_, rfl, rfl⟩)) (fun s_66 => (t_seq (t_asg 8 (j_vf (j_v (j_call (M := M_make_tests) (f_1 (j_n 5 (eP (nc eI (nc (eT (eP (nc eS (nc (eT eI) (n1 eI))))) (nc (eT eI) (n1 (eT eI)))))) s_66 rfl)) sd_make_tests (fun _ => rfl)))) (fun actual_67 => (t_seq (t_if (j_not (j_bo (o_f (j_isi (c := true) (o_f (j_n 8 (eL eI) actual_67 rfl)) (fun _ _ h => by cases h) (fun _ => isb_list_list))) (fun _ => q_truB _))) (t_ret (j_vf (j_c (.bool false) eB false rfl))) (t_nx (t_seq (t_asg 9 (j_vf (j_v (j_call (M := M_law_shown) (f_1 (j_n 5 (eP (nc eI (nc (eT (eP (nc eS (nc (eT eI) (n1 eI))))) (nc (eT eI) (n1 (eT eI)))))) s_66 rfl)) sd_law_shown (fun _ => rfl)))) (fun shown_68 => (t_seq (t_if (j_bv (j_o2 (o_f (j_v (j_call (M := M_hidden_flaws) (f_1 (j_n 5 (eP (nc eI (nc (eT (eP (nc eS (nc (eT eI) (n1 eI))))) (nc (eT eI) (n1 (eT eI)))))) s_66 rfl)) sd_hidden_flaws (fun _ => rfl)))) (o_f (j_v (j_call (M := (fun (p : ((Int × (List (Str × (List Int) × Int)) × (List Int) × (List Int)) × (List (List (Int × Int))))) => M_law_hidden (p.1) (p.2))) (f_c (j_n 5 (eP (nc eI (nc (eT (eP (nc eS (nc (eT eI) (n1 eI))))) (nc (eT eI) (n1 (eT eI)))))) s_66 rfl) (f_1 (j_n 9 (eL (eL (eP (nc eI (n1 eI))))) shown_68 rfl))) (fun (p : ((Int × (List (Str × (List Int) × Int)) × (List Int) × (List Int)) × (List (List (Int × Int))))) => sd_law_hidden (p.1) (p.2)) (fun _ => rfl)))) (fun _ _ _ _ => q_ne (eq_L (eq_P (rw_c eq_I (rw_1 eq_I)))) (by decide) _ _))) (t_ret (j_vf (j_c (.bool false) eB false rfl))) (t_nx (t_seq (t_pre (t_forR (σ := (List (List (Int × Int)))) (ez := (vs .z eB)) (fun s_71 => [some (.z, eScr script_1), some (.z, (eL eI) parts_2), none, none, none, some (.z, (eP (nc eI (nc (eT (eP (nc eS (nc (eT eI) (n1 eI))))) (nc (eT eI) (n1 (eT eI)))))) s_66), none, none, some (.z, (eL eI) actual_67), some (.z, (eL (eL (eP (nc eI (n1 eI))))) s_71), none, none, none, none, none, none]) shown_68 (i_l (j_n 8 (eL eI) actual_67 rfl)) (fun s_71 test_72 => ⟨_, rfl, t_wpR (t_seq (t_asg 11 (j_vf (j_v (j_b1 (o_f (j_v (j_compM (ey := eI) (i_l (j_n 9 (eL (eL (eP (nc eI (n1 eI))))) s_71 rfl)) (fun row_74 => ⟨_, _, rfl, (j_v (j_b1 (o_f (j_n 14 (eL (eP (nc eI (n1 eI)))) row_74 rfl)) (fun _ _ => q_lenL _))), rfl, rfl⟩) rfl))) (fun _ _ => q_max _)))) (fun most_73 => (t_seq (t_if (j_orP (j_not (j_bo (o_f (j_v (j_call (M := M_law_is_integer) (f_1 (j_n 10 eI test_72 rfl)) sd_law_is_integer (fun _ => rfl)))) (fun _ => q_truB _))) (j_orP (j_bv (j_o2 (o_f (j_n 11 eI most_73 rfl)) (o_f (j_c (.int 0) eI 0 rfl)) (fun _ _ _ _ => q_eqI _ _))) (j_orP (j_bv (j_o2 (o_f (j_n 10 eI test_72 rfl)) (o_f (j_c (.int 0) eI 0 rfl)) (fun _ _ _ _ => q_lt _ _))) (j_bv (j_o2 (o_f (j_n 10 eI test_72 rfl)) (o_f (j_v (j_b1 (o_f (j_n 9 (eL (eL (eP (nc eI (n1 eI))))) s_71 rfl)) (fun _ _ => q_lenL _)))) (fun _ _ _ _ => q_ge _ _)))))) (t_retL (w := Fl.rt) (j_vf (j_c (.bool false) eB false rfl)) (fun _ => ⟨_, rfl⟩)) (t_nx (t_seq (t_if (j_bv (j_o2 (o_f (j_n 10 eI test_72 rfl)) (o_f (j_v (j_bm1 (j_v (j_compM (ey := eI) (i_l (j_n 9 (eL (eL (eP (nc eI (n1 eI))))) s_71 rfl)) (fun row_80 => ⟨_, _, rfl, (j_v (j_b1 (o_f (j_n 14 (eL (eP (nc eI (n1 eI)))) row_80 rfl)) (fun _ _ => q_lenL _))), rfl, rfl⟩) rfl)) (j_n 11 eI most_73 rfl) (fun _ => rfl) (fun _ _ => q_index eq_I (by decide) _ _)))) (fun _ _ _ _ => q_neI _ _))) (t_retL (w := Fl.rt) (j_vf (j_c (.bool false) eB false rfl)) (fun _ => ⟨_, rfl⟩)) (t_nx (t_seq (t_asg 12 (j_vf (j_v (j_o2 (o_f (j_n 9 (eL (eL (eP (nc eI (n1 eI))))) s_71 rfl)) (o_f (j_n 10 eI test_72 rfl)) (fun _ _ _ _ => q_ixL _ _)))) (fun seen_84 => (t_fz 9 (j_compE (ey := (eL (eP (nc eI (n1 eI))))) (i_l (j_n 9 (eL (eL (eP (nc eI (n1 eI))))) s_71 rfl)) (fun row_86 => ⟨_, _, rfl, (j_v (j_compF (ey := (eP (nc eI (n1 eI)))) (i_l (j_n 14 (eL (eP (nc eI (n1 eI)))) row_86 rfl)) (fun flaw_87 => ⟨_, _, _, rfl, (j_bv (j_o2 (o_f (j_n 15 (eP (nc eI (n1 eI))) flaw_87 rfl)) (o_f (j_n 12 (eL (eP (nc eI (n1 eI)))) seen_84 rfl)) (fun _ _ _ _ => q_ninM (eq_P (rw_c eq_I (rw_1 eq_I))) (by decide) _ _))), (j_n 15 (eP (nc eI (n1 eI))) flaw_87 rfl), rfl, rfl⟩) rfl)), rfl, rfl⟩) rfl) (fun _ => rfl) (fun shown_85 => (t_end (s := Fl.nx shown_85) ⟨_, .inl rfl, rfl⟩)))))))))))))))⟩) (fun s_90 => (t_ret (j_vf (j_v (j_o2 (o_f (j_v (j_b1 (o_f (j_v (j_compM (ey := eI) (i_l (j_n 9 (eL (eL (eP (nc eI (n1 eI))))) s_90 rfl)) (fun row_91 => ⟨_, _, rfl, (j_v (j_b1 (o_f (j_n 14 (eL (eP (nc eI (n1 eI)))) row_91 rfl)) (fun _ _ => q_lenL _))), rfl, rfl⟩) rfl))) (fun _ _ => q_max _)))) (o_f (j_c (.int 0) eI 0 rfl)) (fun _ _ _ _ => q_eqI _ _)))))) hr_f))))))))))))))))))))))))))))))) (by unfold M_law; delta B_law_1; simp only [TM.bind_assoc, ok_bind, bind_ok_r, nex_ok])
end K10
namespace K10
open PySem PV TM
theorem cell_ok (ns : List Int) (k : Int) (h : 0 ≤ k) : ∃ x, M_law_cell ns k = .ok x := by
  unfold M_law_cell
  by_cases c : k < ns.length
  · exact ⟨_, by simp only [c, decide_true, if_true]; exact ixE_lt h c⟩
  · exact ⟨0, by simp only [c, decide_false, Bool.false_eq_true, if_false]⟩
theorem parts_ok (cell : Int) (sizes : List Int) (hl : sizes.length ≤ 100000) (hs : ∀ s ∈ sizes, 0 < s ∧ s < 2 ^ 62) : ∃ ps, M_law_parts cell sizes = .ok ps ∧ All2 (fun p s => 0 ≤ p ∧ p < s) ps sizes := by
  obtain ⟨⟨ps, r⟩, e, q⟩ := forE_inv0 (fun j (s : List Int × Int) => All2 (fun p s => 0 ≤ p ∧ p < s) s.1 (sizes.take j)) (f := B_law_parts_1 sizes cell) (xs := nats sizes.length) (s := ([], cell - 10 ^ Int.toNat 18)) .nil (by
      rintro i x ⟨ps, rest⟩ hx hI
      obtain ⟨hi, rfl⟩ := nats_at hx
      have hg : sizes[i]? = some sizes[i] := List.getElem?_eq_getElem hi
      have hs' := hs _ (List.getElem_mem hi)
      have hpl := hI.length
      rw [List.length_take] at hpl
      have hpl : ps.length < 16777216 := by dsimp only at hpl; omega
      have ht : sizes.take (i + 1) = sizes.take i ++ [sizes[i]] := by rw [List.take_succ, hg]; rfl
      have fin : ∀ y : Int, All2 (fun p s => 0 ≤ p ∧ p < s) (ps ++ [y % sizes[i]]) (sizes.take (i + 1)) := fun y => by
        rw [ht]
        exact hI.append (.cons ⟨Int.emod_nonneg _ (by omega), Int.emod_lt_of_pos _ (by omega)⟩ .nil)
      unfold B_law_parts_1
      by_cases c : rest ≥ 0
      · refine ⟨(ps ++ [rest % sizes[i]], rest / sizes[i]), ?_, fin _⟩
        simp (disch := omega) only [c, decide_true, if_true, ixE_nat hg, ok_bind, modE_ok, divE_ok, appE_ok]
      · have m1 : ∀ x : Int, mulE (x % 2147483647) (x % 2147483647) = .ok (x % 2147483647 * (x % 2147483647)) := fun x => mulE_l (by omega) (by omega)
        refine ⟨(ps ++ [?_ % sizes[i]], rest), ?_, fin _⟩
        rotate_left
        · simp (disch := omega) only [c, decide_false, Bool.false_eq_true, if_false, ixE_nat hg, ok_bind, modE_ok, m1, appE_ok]
          rfl)
  rw [nats_len, List.take_length] at q
  refine ⟨ps, ?_, q⟩
  unfold M_law_parts
  simp only [ok_bind, rg1_nat (show (sizes.length : Int) < 2 ^ 62 by omega), e]
end K10
namespace K10
open PySem PV TM
theorem q_latch_latch : ((S "latch") = (S "latch")) = True := by simp
theorem q_latch_tie0 : ((S "latch") = (S "tie0")) = False := eq_false (by decide +kernel)
theorem q_latch_tie1 : ((S "latch") = (S "tie1")) = False := eq_false (by decide +kernel)
theorem q_latch_not : ((S "latch") = (S "not")) = False := eq_false (by decide +kernel)
theorem q_latch_nand2 : ((S "latch") = (S "nand2")) = False := eq_false (by decide +kernel)
theorem q_latch_nand3 : ((S "latch") = (S "nand3")) = False := eq_false (by decide +kernel)
theorem q_latch_nor2 : ((S "latch") = (S "nor2")) = False := eq_false (by decide +kernel)
theorem q_latch_nor3 : ((S "latch") = (S "nor3")) = False := eq_false (by decide +kernel)
theorem q_tie0_latch : ((S "tie0") = (S "latch")) = False := eq_false (by decide +kernel)
theorem q_tie0_tie0 : ((S "tie0") = (S "tie0")) = True := by simp
theorem q_tie0_tie1 : ((S "tie0") = (S "tie1")) = False := eq_false (by decide +kernel)
theorem q_tie0_not : ((S "tie0") = (S "not")) = False := eq_false (by decide +kernel)
theorem q_tie0_nand2 : ((S "tie0") = (S "nand2")) = False := eq_false (by decide +kernel)
theorem q_tie0_nand3 : ((S "tie0") = (S "nand3")) = False := eq_false (by decide +kernel)
theorem q_tie0_nor2 : ((S "tie0") = (S "nor2")) = False := eq_false (by decide +kernel)
theorem q_tie0_nor3 : ((S "tie0") = (S "nor3")) = False := eq_false (by decide +kernel)
theorem q_tie1_latch : ((S "tie1") = (S "latch")) = False := eq_false (by decide +kernel)
theorem q_tie1_tie0 : ((S "tie1") = (S "tie0")) = False := eq_false (by decide +kernel)
theorem q_tie1_tie1 : ((S "tie1") = (S "tie1")) = True := by simp
theorem q_tie1_not : ((S "tie1") = (S "not")) = False := eq_false (by decide +kernel)
theorem q_tie1_nand2 : ((S "tie1") = (S "nand2")) = False := eq_false (by decide +kernel)
theorem q_tie1_nand3 : ((S "tie1") = (S "nand3")) = False := eq_false (by decide +kernel)
theorem q_tie1_nor2 : ((S "tie1") = (S "nor2")) = False := eq_false (by decide +kernel)
theorem q_tie1_nor3 : ((S "tie1") = (S "nor3")) = False := eq_false (by decide +kernel)
theorem q_not_latch : ((S "not") = (S "latch")) = False := eq_false (by decide +kernel)
theorem q_not_tie0 : ((S "not") = (S "tie0")) = False := eq_false (by decide +kernel)
theorem q_not_tie1 : ((S "not") = (S "tie1")) = False := eq_false (by decide +kernel)
theorem q_not_not : ((S "not") = (S "not")) = True := by simp
theorem q_not_nand2 : ((S "not") = (S "nand2")) = False := eq_false (by decide +kernel)
theorem q_not_nand3 : ((S "not") = (S "nand3")) = False := eq_false (by decide +kernel)
theorem q_not_nor2 : ((S "not") = (S "nor2")) = False := eq_false (by decide +kernel)
theorem q_not_nor3 : ((S "not") = (S "nor3")) = False := eq_false (by decide +kernel)
theorem q_nand2_latch : ((S "nand2") = (S "latch")) = False := eq_false (by decide +kernel)
theorem q_nand2_tie0 : ((S "nand2") = (S "tie0")) = False := eq_false (by decide +kernel)
theorem q_nand2_tie1 : ((S "nand2") = (S "tie1")) = False := eq_false (by decide +kernel)
theorem q_nand2_not : ((S "nand2") = (S "not")) = False := eq_false (by decide +kernel)
theorem q_nand2_nand2 : ((S "nand2") = (S "nand2")) = True := by simp
theorem q_nand2_nand3 : ((S "nand2") = (S "nand3")) = False := eq_false (by decide +kernel)
theorem q_nand2_nor2 : ((S "nand2") = (S "nor2")) = False := eq_false (by decide +kernel)
theorem q_nand2_nor3 : ((S "nand2") = (S "nor3")) = False := eq_false (by decide +kernel)
theorem q_nand3_latch : ((S "nand3") = (S "latch")) = False := eq_false (by decide +kernel)
theorem q_nand3_tie0 : ((S "nand3") = (S "tie0")) = False := eq_false (by decide +kernel)
theorem q_nand3_tie1 : ((S "nand3") = (S "tie1")) = False := eq_false (by decide +kernel)
theorem q_nand3_not : ((S "nand3") = (S "not")) = False := eq_false (by decide +kernel)
theorem q_nand3_nand2 : ((S "nand3") = (S "nand2")) = False := eq_false (by decide +kernel)
theorem q_nand3_nand3 : ((S "nand3") = (S "nand3")) = True := by simp
theorem q_nand3_nor2 : ((S "nand3") = (S "nor2")) = False := eq_false (by decide +kernel)
theorem q_nand3_nor3 : ((S "nand3") = (S "nor3")) = False := eq_false (by decide +kernel)
theorem q_nor2_latch : ((S "nor2") = (S "latch")) = False := eq_false (by decide +kernel)
theorem q_nor2_tie0 : ((S "nor2") = (S "tie0")) = False := eq_false (by decide +kernel)
theorem q_nor2_tie1 : ((S "nor2") = (S "tie1")) = False := eq_false (by decide +kernel)
theorem q_nor2_not : ((S "nor2") = (S "not")) = False := eq_false (by decide +kernel)
theorem q_nor2_nand2 : ((S "nor2") = (S "nand2")) = False := eq_false (by decide +kernel)
theorem q_nor2_nand3 : ((S "nor2") = (S "nand3")) = False := eq_false (by decide +kernel)
theorem q_nor2_nor2 : ((S "nor2") = (S "nor2")) = True := by simp
theorem q_nor2_nor3 : ((S "nor2") = (S "nor3")) = False := eq_false (by decide +kernel)
theorem q_nor3_latch : ((S "nor3") = (S "latch")) = False := eq_false (by decide +kernel)
theorem q_nor3_tie0 : ((S "nor3") = (S "tie0")) = False := eq_false (by decide +kernel)
theorem q_nor3_tie1 : ((S "nor3") = (S "tie1")) = False := eq_false (by decide +kernel)
theorem q_nor3_not : ((S "nor3") = (S "not")) = False := eq_false (by decide +kernel)
theorem q_nor3_nand2 : ((S "nor3") = (S "nand2")) = False := eq_false (by decide +kernel)
theorem q_nor3_nand3 : ((S "nor3") = (S "nand3")) = False := eq_false (by decide +kernel)
theorem q_nor3_nor2 : ((S "nor3") = (S "nor2")) = False := eq_false (by decide +kernel)
theorem q_nor3_nor3 : ((S "nor3") = (S "nor3")) = True := by simp
theorem ct_latch : cutSE (S "latch") none (some 3) = .ok (S "lat") := chk_ok (by decide +kernel) |>.trans (congrArg E.ok (by decide +kernel))
theorem p_latch_tie : ((S "lat") = (S "tie")) = False := eq_false (by decide +kernel)
theorem p_latch_nor : ((S "lat") = (S "nor")) = False := eq_false (by decide +kernel)
theorem ct_tie0 : cutSE (S "tie0") none (some 3) = .ok (S "tie") := chk_ok (by decide +kernel) |>.trans (congrArg E.ok (by decide +kernel))
theorem p_tie0_tie : ((S "tie") = (S "tie")) = True := by simp
theorem p_tie0_nor : ((S "tie") = (S "nor")) = False := eq_false (by decide +kernel)
theorem la_tie0 : ixSE (S "tie0") (-1) = .ok (S "0") := by unfold ixSE; rw [if_pos (by decide +kernel)]; rfl
theorem l3_tie0 : ixSE (S "tie0") 3 = .ok (S "0") := by unfold ixSE; rw [if_pos (by decide +kernel)]; rfl
theorem ct_tie1 : cutSE (S "tie1") none (some 3) = .ok (S "tie") := chk_ok (by decide +kernel) |>.trans (congrArg E.ok (by decide +kernel))
theorem p_tie1_tie : ((S "tie") = (S "tie")) = True := by simp
theorem p_tie1_nor : ((S "tie") = (S "nor")) = False := eq_false (by decide +kernel)
theorem la_tie1 : ixSE (S "tie1") (-1) = .ok (S "1") := by unfold ixSE; rw [if_pos (by decide +kernel)]; rfl
theorem l3_tie1 : ixSE (S "tie1") 3 = .ok (S "1") := by unfold ixSE; rw [if_pos (by decide +kernel)]; rfl
theorem ct_not : cutSE (S "not") none (some 3) = .ok (S "not") := chk_ok (by decide +kernel) |>.trans (congrArg E.ok (by decide +kernel))
theorem p_not_tie : ((S "not") = (S "tie")) = False := eq_false (by decide +kernel)
theorem p_not_nor : ((S "not") = (S "nor")) = False := eq_false (by decide +kernel)
theorem ct_nand2 : cutSE (S "nand2") none (some 3) = .ok (S "nan") := chk_ok (by decide +kernel) |>.trans (congrArg E.ok (by decide +kernel))
theorem p_nand2_tie : ((S "nan") = (S "tie")) = False := eq_false (by decide +kernel)
theorem p_nand2_nor : ((S "nan") = (S "nor")) = False := eq_false (by decide +kernel)
theorem la_nand2 : ixSE (S "nand2") (-1) = .ok (S "2") := by unfold ixSE; rw [if_pos (by decide +kernel)]; rfl
theorem ct_nand3 : cutSE (S "nand3") none (some 3) = .ok (S "nan") := chk_ok (by decide +kernel) |>.trans (congrArg E.ok (by decide +kernel))
theorem p_nand3_tie : ((S "nan") = (S "tie")) = False := eq_false (by decide +kernel)
theorem p_nand3_nor : ((S "nan") = (S "nor")) = False := eq_false (by decide +kernel)
theorem la_nand3 : ixSE (S "nand3") (-1) = .ok (S "3") := by unfold ixSE; rw [if_pos (by decide +kernel)]; rfl
theorem ct_nor2 : cutSE (S "nor2") none (some 3) = .ok (S "nor") := chk_ok (by decide +kernel) |>.trans (congrArg E.ok (by decide +kernel))
theorem p_nor2_tie : ((S "nor") = (S "tie")) = False := eq_false (by decide +kernel)
theorem p_nor2_nor : ((S "nor") = (S "nor")) = True := by simp
theorem la_nor2 : ixSE (S "nor2") (-1) = .ok (S "2") := by unfold ixSE; rw [if_pos (by decide +kernel)]; rfl
theorem ct_nor3 : cutSE (S "nor3") none (some 3) = .ok (S "nor") := chk_ok (by decide +kernel) |>.trans (congrArg E.ok (by decide +kernel))
theorem p_nor3_tie : ((S "nor") = (S "tie")) = False := eq_false (by decide +kernel)
theorem p_nor3_nor : ((S "nor") = (S "nor")) = True := by simp
theorem la_nor3 : ixSE (S "nor3") (-1) = .ok (S "3") := by unfold ixSE; rw [if_pos (by decide +kernel)]; rfl
theorem n_0 : intSE (S "0") = .ok 0 := by unfold intSE; rw [if_pos (by decide +kernel), show PySem.intText? (S "0") = some 0 by decide +kernel]; rfl
theorem n_1 : intSE (S "1") = .ok 1 := by unfold intSE; rw [if_pos (by decide +kernel), show PySem.intText? (S "1") = some 1 by decide +kernel]; rfl
theorem n_2 : intSE (S "2") = .ok 2 := by unfold intSE; rw [if_pos (by decide +kernel), show PySem.intText? (S "2") = some 2 by decide +kernel]; rfl
theorem n_3 : intSE (S "3") = .ok 3 := by unfold intSE; rw [if_pos (by decide +kernel), show PySem.intText? (S "3") = some 3 by decide +kernel]; rfl
end K10
namespace K10
open PySem PV TM
abbrev Cel := Str × List Int × Int
abbrev Circ := Int × List Cel × List Int × List Int
def KA (k : Str) (n : Nat) : Prop := ((k = S "tie0" ∨ k = S "tie1") ∧ n = 0) ∨ (k = S "not" ∧ n = 1) ∨ ((k = S "nand2" ∨ k = S "nor2") ∧ n = 2) ∨ ((k = S "nand3" ∨ k = S "nor3") ∧ n = 3)
def KindOk (nets latches most : Int) (k : Str) : Prop := (k = S "latch" ∧ latches ≠ most) ∨ ∃ n : Nat, KA k n ∧ n ≤ nets
/-- the kinds drawn -/
theorem kind_ok (p0 p1 : Int) (ps : List Int) (nets latches : Int) (h0 : 0 ≤ p0) (h1 : p0 < 16) (hn : 0 ≤ nets) : ∃ k, M_law_kind (p0 :: p1 :: ps) nets latches = .ok k ∧ KindOk nets latches 2 k := by
  have hk : ∃ K, ixE [S "not", S "not", S "nand2", S "nand2", S "nand2", S "nand3", S "nand3", S "nor2", S "nor2", S "nor2", S "nor3", S "nor3", S "latch", S "latch", S "tie0", S "tie1"] p0 = .ok K ∧ (K = S "latch" ∨ K = S "tie0" ∨ K = S "tie1" ∨ K = S "not" ∨ K = S "nand2" ∨ K = S "nand3" ∨ K = S "nor2" ∨ K = S "nor3") := by
    refine ⟨_, ixE_lt h0 (by simp; omega), ?_⟩
    have := List.getElem_mem (l := [S "not", S "not", S "nand2", S "nand2", S "nand2", S "nand3", S "nand3", S "nor2", S "nor2", S "nor2", S "nor3", S "nor3", S "latch", S "latch", S "tie0", S "tie1"]) (n := p0.toNat) (by simp; omega)
    simp only [List.mem_cons, List.not_mem_nil, or_false] at this
    rcases this with h | h | h | h | h | h | h | h | h | h | h | h | h | h | h | h <;> rw [h] <;> simp
  obtain ⟨K, e, hK⟩ := hk
  have ct : catE [S "not", S "not", S "nand2", S "nand2", S "nand2", S "nand3", S "nand3", S "nor2", S "nor2", S "nor2", S "nor3", S "nor3"] [S "latch", S "latch", S "tie0", S "tie1"] = .ok [S "not", S "not", S "nand2", S "nand2", S "nand2", S "nand3", S "nand3", S "nor2", S "nor2", S "nor2", S "nor3", S "nor3", S "latch", S "latch", S "tie0", S "tie1"] := catE_ok (by simp)
  have ti : ∃ t, ixE [S "tie0", S "tie1"] (p1 % 2) = .ok t ∧ KA t 0 := by
    rcases Int.emod_two_eq p1 with h | h <;> rw [h]
    · exact ⟨_, ixE_0, .inl ⟨.inl rfl, rfl⟩⟩
    · exact ⟨_, ixE_1, .inl ⟨.inr rfl, rfl⟩⟩
  obtain ⟨t, et, ht⟩ := ti
  unfold M_law_kind
  simp only [ok_bind, ct, ixE_0, e, ixE_1]
  have small : ∀ k d, (k = S "nand2" ∧ d = 2) ∨ (k = S "nor2" ∧ d = 2) ∨ (k = S "nand3" ∧ d = 3) ∨ (k = S "nor3" ∧ d = 3) → ¬ nets = 0 → nets < d → ∃ k, ixE [S "not", S "nand2"] (nets - 1) = .ok k ∧ KindOk nets latches 2 k := by
    intro k d hk hz hd
    have : nets = 1 ∨ nets = 2 := by omega
    rcases this with rfl | rfl
    · exact ⟨_, ixE_0, .inr ⟨1, .inr (.inl ⟨rfl, rfl⟩), by omega⟩⟩
    · exact ⟨_, ixE_1, .inr ⟨2, .inr (.inr (.inl ⟨.inl rfl, rfl⟩)), by omega⟩⟩
  by_cases z : nets = 0
  · have dz := eq_true z
    by_cases l : latches = 2
    · have dl := eq_true l
      rcases hK with rfl | rfl | rfl | rfl | rfl | rfl | rfl | rfl <;> (
        simp only [dz, dl, ok_bind, decide_true, decide_false, if_true, if_false, ↓reduceIte, Bool.false_eq_true, Bool.not_true, Bool.not_false, Bool.and_true, Bool.true_and, Bool.and_false, Bool.false_and, Bool.or_true, Bool.true_or, Bool.or_false, Bool.false_or, decide_eq_true_eq, nex_ok, ofO_some, Sum.elim_inl, Sum.elim_inr, q_latch_latch, q_latch_tie0, q_latch_tie1, q_latch_not, q_latch_nand2, q_latch_nand3, q_latch_nor2, q_latch_nor3, q_tie0_latch, q_tie0_tie0, q_tie0_tie1, q_tie0_not, q_tie0_nand2, q_tie0_nand3, q_tie0_nor2, q_tie0_nor3, q_tie1_latch, q_tie1_tie0, q_tie1_tie1, q_tie1_not, q_tie1_nand2, q_tie1_nand3, q_tie1_nor2, q_tie1_nor3, q_not_latch, q_not_tie0, q_not_tie1, q_not_not, q_not_nand2, q_not_nand3, q_not_nor2, q_not_nor3, q_nand2_latch, q_nand2_tie0, q_nand2_tie1, q_nand2_not, q_nand2_nand2, q_nand2_nand3, q_nand2_nor2, q_nand2_nor3, q_nand3_latch, q_nand3_tie0, q_nand3_tie1, q_nand3_not, q_nand3_nand2, q_nand3_nand3, q_nand3_nor2, q_nand3_nor3, q_nor2_latch, q_nor2_tie0, q_nor2_tie1, q_nor2_not, q_nor2_nand2, q_nor2_nand3, q_nor2_nor2, q_nor2_nor3, q_nor3_latch, q_nor3_tie0, q_nor3_tie1, q_nor3_not, q_nor3_nand2, q_nor3_nand3, q_nor3_nor2, q_nor3_nor3, ct_latch, p_latch_tie, p_latch_nor, ct_tie0, p_tie0_tie, p_tie0_nor, la_tie0, l3_tie0, ct_tie1, p_tie1_tie, p_tie1_nor, la_tie1, l3_tie1, ct_not, p_not_tie, p_not_nor, ct_nand2, p_nand2_tie, p_nand2_nor, la_nand2, ct_nand3, p_nand3_tie, p_nand3_nor, la_nand3, ct_nor2, p_nor2_tie, p_nor2_nor, la_nor2, ct_nor3, p_nor3_tie, p_nor3_nor, la_nor3, n_0, n_1, n_2, n_3, et]
        exact ⟨t, rfl, .inr ⟨0, ht, by omega⟩⟩)
    · have dl := eq_false l
      rcases hK with rfl | rfl | rfl | rfl | rfl | rfl | rfl | rfl
      · simp only [dz, dl, ok_bind, decide_true, decide_false, if_true, if_false, ↓reduceIte, Bool.false_eq_true, Bool.not_true, Bool.not_false, Bool.and_true, Bool.true_and, Bool.and_false, Bool.false_and, Bool.or_true, Bool.true_or, Bool.or_false, Bool.false_or, decide_eq_true_eq, nex_ok, ofO_some, Sum.elim_inl, Sum.elim_inr, q_latch_latch, q_latch_tie0, q_latch_tie1, q_latch_not, q_latch_nand2, q_latch_nand3, q_latch_nor2, q_latch_nor3, q_tie0_latch, q_tie0_tie0, q_tie0_tie1, q_tie0_not, q_tie0_nand2, q_tie0_nand3, q_tie0_nor2, q_tie0_nor3, q_tie1_latch, q_tie1_tie0, q_tie1_tie1, q_tie1_not, q_tie1_nand2, q_tie1_nand3, q_tie1_nor2, q_tie1_nor3, q_not_latch, q_not_tie0, q_not_tie1, q_not_not, q_not_nand2, q_not_nand3, q_not_nor2, q_not_nor3, q_nand2_latch, q_nand2_tie0, q_nand2_tie1, q_nand2_not, q_nand2_nand2, q_nand2_nand3, q_nand2_nor2, q_nand2_nor3, q_nand3_latch, q_nand3_tie0, q_nand3_tie1, q_nand3_not, q_nand3_nand2, q_nand3_nand3, q_nand3_nor2, q_nand3_nor3, q_nor2_latch, q_nor2_tie0, q_nor2_tie1, q_nor2_not, q_nor2_nand2, q_nor2_nand3, q_nor2_nor2, q_nor2_nor3, q_nor3_latch, q_nor3_tie0, q_nor3_tie1, q_nor3_not, q_nor3_nand2, q_nor3_nand3, q_nor3_nor2, q_nor3_nor3, ct_latch, p_latch_tie, p_latch_nor, ct_tie0, p_tie0_tie, p_tie0_nor, la_tie0, l3_tie0, ct_tie1, p_tie1_tie, p_tie1_nor, la_tie1, l3_tie1, ct_not, p_not_tie, p_not_nor, ct_nand2, p_nand2_tie, p_nand2_nor, la_nand2, ct_nand3, p_nand3_tie, p_nand3_nor, la_nand3, ct_nor2, p_nor2_tie, p_nor2_nor, la_nor2, ct_nor3, p_nor3_tie, p_nor3_nor, la_nor3, n_0, n_1, n_2, n_3, et, List.mem_cons, List.not_mem_nil, or_self]
        exact ⟨_, rfl, (.inl ⟨rfl, l⟩)⟩
      all_goals (
        simp only [dz, dl, ok_bind, decide_true, decide_false, if_true, if_false, ↓reduceIte, Bool.false_eq_true, Bool.not_true, Bool.not_false, Bool.and_true, Bool.true_and, Bool.and_false, Bool.false_and, Bool.or_true, Bool.true_or, Bool.or_false, Bool.false_or, decide_eq_true_eq, nex_ok, ofO_some, Sum.elim_inl, Sum.elim_inr, q_latch_latch, q_latch_tie0, q_latch_tie1, q_latch_not, q_latch_nand2, q_latch_nand3, q_latch_nor2, q_latch_nor3, q_tie0_latch, q_tie0_tie0, q_tie0_tie1, q_tie0_not, q_tie0_nand2, q_tie0_nand3, q_tie0_nor2, q_tie0_nor3, q_tie1_latch, q_tie1_tie0, q_tie1_tie1, q_tie1_not, q_tie1_nand2, q_tie1_nand3, q_tie1_nor2, q_tie1_nor3, q_not_latch, q_not_tie0, q_not_tie1, q_not_not, q_not_nand2, q_not_nand3, q_not_nor2, q_not_nor3, q_nand2_latch, q_nand2_tie0, q_nand2_tie1, q_nand2_not, q_nand2_nand2, q_nand2_nand3, q_nand2_nor2, q_nand2_nor3, q_nand3_latch, q_nand3_tie0, q_nand3_tie1, q_nand3_not, q_nand3_nand2, q_nand3_nand3, q_nand3_nor2, q_nand3_nor3, q_nor2_latch, q_nor2_tie0, q_nor2_tie1, q_nor2_not, q_nor2_nand2, q_nor2_nand3, q_nor2_nor2, q_nor2_nor3, q_nor3_latch, q_nor3_tie0, q_nor3_tie1, q_nor3_not, q_nor3_nand2, q_nor3_nand3, q_nor3_nor2, q_nor3_nor3, ct_latch, p_latch_tie, p_latch_nor, ct_tie0, p_tie0_tie, p_tie0_nor, la_tie0, l3_tie0, ct_tie1, p_tie1_tie, p_tie1_nor, la_tie1, l3_tie1, ct_not, p_not_tie, p_not_nor, ct_nand2, p_nand2_tie, p_nand2_nor, la_nand2, ct_nand3, p_nand3_tie, p_nand3_nor, la_nand3, ct_nor2, p_nor2_tie, p_nor2_nor, la_nor2, ct_nor3, p_nor3_tie, p_nor3_nor, la_nor3, n_0, n_1, n_2, n_3, et]
        exact ⟨t, rfl, .inr ⟨0, ht, by omega⟩⟩)
  · have dz := eq_false z
    by_cases l : latches = 2
    all_goals (
      first | have dl := eq_false l | have dl := eq_true l
      rcases hK with rfl | rfl | rfl | rfl | rfl | rfl | rfl | rfl
      · simp only [dz, dl, ok_bind, decide_true, decide_false, if_true, if_false, ↓reduceIte, Bool.false_eq_true, Bool.not_true, Bool.not_false, Bool.and_true, Bool.true_and, Bool.and_false, Bool.false_and, Bool.or_true, Bool.true_or, Bool.or_false, Bool.false_or, decide_eq_true_eq, nex_ok, ofO_some, Sum.elim_inl, Sum.elim_inr, q_latch_latch, q_latch_tie0, q_latch_tie1, q_latch_not, q_latch_nand2, q_latch_nand3, q_latch_nor2, q_latch_nor3, q_tie0_latch, q_tie0_tie0, q_tie0_tie1, q_tie0_not, q_tie0_nand2, q_tie0_nand3, q_tie0_nor2, q_tie0_nor3, q_tie1_latch, q_tie1_tie0, q_tie1_tie1, q_tie1_not, q_tie1_nand2, q_tie1_nand3, q_tie1_nor2, q_tie1_nor3, q_not_latch, q_not_tie0, q_not_tie1, q_not_not, q_not_nand2, q_not_nand3, q_not_nor2, q_not_nor3, q_nand2_latch, q_nand2_tie0, q_nand2_tie1, q_nand2_not, q_nand2_nand2, q_nand2_nand3, q_nand2_nor2, q_nand2_nor3, q_nand3_latch, q_nand3_tie0, q_nand3_tie1, q_nand3_not, q_nand3_nand2, q_nand3_nand3, q_nand3_nor2, q_nand3_nor3, q_nor2_latch, q_nor2_tie0, q_nor2_tie1, q_nor2_not, q_nor2_nand2, q_nor2_nand3, q_nor2_nor2, q_nor2_nor3, q_nor3_latch, q_nor3_tie0, q_nor3_tie1, q_nor3_not, q_nor3_nand2, q_nor3_nand3, q_nor3_nor2, q_nor3_nor3, ct_latch, p_latch_tie, p_latch_nor, ct_tie0, p_tie0_tie, p_tie0_nor, la_tie0, l3_tie0, ct_tie1, p_tie1_tie, p_tie1_nor, la_tie1, l3_tie1, ct_not, p_not_tie, p_not_nor, ct_nand2, p_nand2_tie, p_nand2_nor, la_nand2, ct_nand3, p_nand3_tie, p_nand3_nor, la_nand3, ct_nor2, p_nor2_tie, p_nor2_nor, la_nor2, ct_nor3, p_nor3_tie, p_nor3_nor, la_nor3, n_0, n_1, n_2, n_3, List.mem_cons, List.not_mem_nil, or_self, or_false, or_true]
        first
          | exact ⟨_, rfl, (.inl ⟨rfl, l⟩)⟩
          | exact ⟨_, rfl, .inr ⟨1, .inr (.inl ⟨rfl, rfl⟩), by omega⟩⟩
      · simp only [dz, dl, ok_bind, decide_true, decide_false, if_true, if_false, ↓reduceIte, Bool.false_eq_true, Bool.not_true, Bool.not_false, Bool.and_true, Bool.true_and, Bool.and_false, Bool.false_and, Bool.or_true, Bool.true_or, Bool.or_false, Bool.false_or, decide_eq_true_eq, nex_ok, ofO_some, Sum.elim_inl, Sum.elim_inr, q_latch_latch, q_latch_tie0, q_latch_tie1, q_latch_not, q_latch_nand2, q_latch_nand3, q_latch_nor2, q_latch_nor3, q_tie0_latch, q_tie0_tie0, q_tie0_tie1, q_tie0_not, q_tie0_nand2, q_tie0_nand3, q_tie0_nor2, q_tie0_nor3, q_tie1_latch, q_tie1_tie0, q_tie1_tie1, q_tie1_not, q_tie1_nand2, q_tie1_nand3, q_tie1_nor2, q_tie1_nor3, q_not_latch, q_not_tie0, q_not_tie1, q_not_not, q_not_nand2, q_not_nand3, q_not_nor2, q_not_nor3, q_nand2_latch, q_nand2_tie0, q_nand2_tie1, q_nand2_not, q_nand2_nand2, q_nand2_nand3, q_nand2_nor2, q_nand2_nor3, q_nand3_latch, q_nand3_tie0, q_nand3_tie1, q_nand3_not, q_nand3_nand2, q_nand3_nand3, q_nand3_nor2, q_nand3_nor3, q_nor2_latch, q_nor2_tie0, q_nor2_tie1, q_nor2_not, q_nor2_nand2, q_nor2_nand3, q_nor2_nor2, q_nor2_nor3, q_nor3_latch, q_nor3_tie0, q_nor3_tie1, q_nor3_not, q_nor3_nand2, q_nor3_nand3, q_nor3_nor2, q_nor3_nor3, ct_latch, p_latch_tie, p_latch_nor, ct_tie0, p_tie0_tie, p_tie0_nor, la_tie0, l3_tie0, ct_tie1, p_tie1_tie, p_tie1_nor, la_tie1, l3_tie1, ct_not, p_not_tie, p_not_nor, ct_nand2, p_nand2_tie, p_nand2_nor, la_nand2, ct_nand3, p_nand3_tie, p_nand3_nor, la_nand3, ct_nor2, p_nor2_tie, p_nor2_nor, la_nor2, ct_nor3, p_nor3_tie, p_nor3_nor, la_nor3, n_0, n_1, n_2, n_3, List.mem_cons, List.not_mem_nil, or_self, or_false, or_true]
        exact ⟨_, rfl, .inr ⟨0, .inl ⟨.inl rfl, rfl⟩, by omega⟩⟩
      · simp only [dz, dl, ok_bind, decide_true, decide_false, if_true, if_false, ↓reduceIte, Bool.false_eq_true, Bool.not_true, Bool.not_false, Bool.and_true, Bool.true_and, Bool.and_false, Bool.false_and, Bool.or_true, Bool.true_or, Bool.or_false, Bool.false_or, decide_eq_true_eq, nex_ok, ofO_some, Sum.elim_inl, Sum.elim_inr, q_latch_latch, q_latch_tie0, q_latch_tie1, q_latch_not, q_latch_nand2, q_latch_nand3, q_latch_nor2, q_latch_nor3, q_tie0_latch, q_tie0_tie0, q_tie0_tie1, q_tie0_not, q_tie0_nand2, q_tie0_nand3, q_tie0_nor2, q_tie0_nor3, q_tie1_latch, q_tie1_tie0, q_tie1_tie1, q_tie1_not, q_tie1_nand2, q_tie1_nand3, q_tie1_nor2, q_tie1_nor3, q_not_latch, q_not_tie0, q_not_tie1, q_not_not, q_not_nand2, q_not_nand3, q_not_nor2, q_not_nor3, q_nand2_latch, q_nand2_tie0, q_nand2_tie1, q_nand2_not, q_nand2_nand2, q_nand2_nand3, q_nand2_nor2, q_nand2_nor3, q_nand3_latch, q_nand3_tie0, q_nand3_tie1, q_nand3_not, q_nand3_nand2, q_nand3_nand3, q_nand3_nor2, q_nand3_nor3, q_nor2_latch, q_nor2_tie0, q_nor2_tie1, q_nor2_not, q_nor2_nand2, q_nor2_nand3, q_nor2_nor2, q_nor2_nor3, q_nor3_latch, q_nor3_tie0, q_nor3_tie1, q_nor3_not, q_nor3_nand2, q_nor3_nand3, q_nor3_nor2, q_nor3_nor3, ct_latch, p_latch_tie, p_latch_nor, ct_tie0, p_tie0_tie, p_tie0_nor, la_tie0, l3_tie0, ct_tie1, p_tie1_tie, p_tie1_nor, la_tie1, l3_tie1, ct_not, p_not_tie, p_not_nor, ct_nand2, p_nand2_tie, p_nand2_nor, la_nand2, ct_nand3, p_nand3_tie, p_nand3_nor, la_nand3, ct_nor2, p_nor2_tie, p_nor2_nor, la_nor2, ct_nor3, p_nor3_tie, p_nor3_nor, la_nor3, n_0, n_1, n_2, n_3, List.mem_cons, List.not_mem_nil, or_self, or_false, or_true]
        exact ⟨_, rfl, .inr ⟨0, .inl ⟨.inr rfl, rfl⟩, by omega⟩⟩
      · simp only [dz, dl, ok_bind, decide_true, decide_false, if_true, if_false, ↓reduceIte, Bool.false_eq_true, Bool.not_true, Bool.not_false, Bool.and_true, Bool.true_and, Bool.and_false, Bool.false_and, Bool.or_true, Bool.true_or, Bool.or_false, Bool.false_or, decide_eq_true_eq, nex_ok, ofO_some, Sum.elim_inl, Sum.elim_inr, q_latch_latch, q_latch_tie0, q_latch_tie1, q_latch_not, q_latch_nand2, q_latch_nand3, q_latch_nor2, q_latch_nor3, q_tie0_latch, q_tie0_tie0, q_tie0_tie1, q_tie0_not, q_tie0_nand2, q_tie0_nand3, q_tie0_nor2, q_tie0_nor3, q_tie1_latch, q_tie1_tie0, q_tie1_tie1, q_tie1_not, q_tie1_nand2, q_tie1_nand3, q_tie1_nor2, q_tie1_nor3, q_not_latch, q_not_tie0, q_not_tie1, q_not_not, q_not_nand2, q_not_nand3, q_not_nor2, q_not_nor3, q_nand2_latch, q_nand2_tie0, q_nand2_tie1, q_nand2_not, q_nand2_nand2, q_nand2_nand3, q_nand2_nor2, q_nand2_nor3, q_nand3_latch, q_nand3_tie0, q_nand3_tie1, q_nand3_not, q_nand3_nand2, q_nand3_nand3, q_nand3_nor2, q_nand3_nor3, q_nor2_latch, q_nor2_tie0, q_nor2_tie1, q_nor2_not, q_nor2_nand2, q_nor2_nand3, q_nor2_nor2, q_nor2_nor3, q_nor3_latch, q_nor3_tie0, q_nor3_tie1, q_nor3_not, q_nor3_nand2, q_nor3_nand3, q_nor3_nor2, q_nor3_nor3, ct_latch, p_latch_tie, p_latch_nor, ct_tie0, p_tie0_tie, p_tie0_nor, la_tie0, l3_tie0, ct_tie1, p_tie1_tie, p_tie1_nor, la_tie1, l3_tie1, ct_not, p_not_tie, p_not_nor, ct_nand2, p_nand2_tie, p_nand2_nor, la_nand2, ct_nand3, p_nand3_tie, p_nand3_nor, la_nand3, ct_nor2, p_nor2_tie, p_nor2_nor, la_nor2, ct_nor3, p_nor3_tie, p_nor3_nor, la_nor3, n_0, n_1, n_2, n_3, List.mem_cons, List.not_mem_nil, or_self, or_false, or_true]
        exact ⟨_, rfl, .inr ⟨1, .inr (.inl ⟨rfl, rfl⟩), by omega⟩⟩
      · by_cases c : nets < 2
        · simp only [dz, dl, c, ok_bind, decide_true, decide_false, if_true, if_false, ↓reduceIte, Bool.false_eq_true, Bool.not_true, Bool.not_false, Bool.and_true, Bool.true_and, Bool.and_false, Bool.false_and, Bool.or_true, Bool.true_or, Bool.or_false, Bool.false_or, decide_eq_true_eq, nex_ok, ofO_some, Sum.elim_inl, Sum.elim_inr, q_latch_latch, q_latch_tie0, q_latch_tie1, q_latch_not, q_latch_nand2, q_latch_nand3, q_latch_nor2, q_latch_nor3, q_tie0_latch, q_tie0_tie0, q_tie0_tie1, q_tie0_not, q_tie0_nand2, q_tie0_nand3, q_tie0_nor2, q_tie0_nor3, q_tie1_latch, q_tie1_tie0, q_tie1_tie1, q_tie1_not, q_tie1_nand2, q_tie1_nand3, q_tie1_nor2, q_tie1_nor3, q_not_latch, q_not_tie0, q_not_tie1, q_not_not, q_not_nand2, q_not_nand3, q_not_nor2, q_not_nor3, q_nand2_latch, q_nand2_tie0, q_nand2_tie1, q_nand2_not, q_nand2_nand2, q_nand2_nand3, q_nand2_nor2, q_nand2_nor3, q_nand3_latch, q_nand3_tie0, q_nand3_tie1, q_nand3_not, q_nand3_nand2, q_nand3_nand3, q_nand3_nor2, q_nand3_nor3, q_nor2_latch, q_nor2_tie0, q_nor2_tie1, q_nor2_not, q_nor2_nand2, q_nor2_nand3, q_nor2_nor2, q_nor2_nor3, q_nor3_latch, q_nor3_tie0, q_nor3_tie1, q_nor3_not, q_nor3_nand2, q_nor3_nand3, q_nor3_nor2, q_nor3_nor3, ct_latch, p_latch_tie, p_latch_nor, ct_tie0, p_tie0_tie, p_tie0_nor, la_tie0, l3_tie0, ct_tie1, p_tie1_tie, p_tie1_nor, la_tie1, l3_tie1, ct_not, p_not_tie, p_not_nor, ct_nand2, p_nand2_tie, p_nand2_nor, la_nand2, ct_nand3, p_nand3_tie, p_nand3_nor, la_nand3, ct_nor2, p_nor2_tie, p_nor2_nor, la_nor2, ct_nor3, p_nor3_tie, p_nor3_nor, la_nor3, n_0, n_1, n_2, n_3, List.mem_cons, List.not_mem_nil, or_self, or_false, or_true]
          exact small (S "nand2") 2 (.inl ⟨rfl, rfl⟩) z c
        · simp only [dz, dl, c, ok_bind, decide_true, decide_false, if_true, if_false, ↓reduceIte, Bool.false_eq_true, Bool.not_true, Bool.not_false, Bool.and_true, Bool.true_and, Bool.and_false, Bool.false_and, Bool.or_true, Bool.true_or, Bool.or_false, Bool.false_or, decide_eq_true_eq, nex_ok, ofO_some, Sum.elim_inl, Sum.elim_inr, q_latch_latch, q_latch_tie0, q_latch_tie1, q_latch_not, q_latch_nand2, q_latch_nand3, q_latch_nor2, q_latch_nor3, q_tie0_latch, q_tie0_tie0, q_tie0_tie1, q_tie0_not, q_tie0_nand2, q_tie0_nand3, q_tie0_nor2, q_tie0_nor3, q_tie1_latch, q_tie1_tie0, q_tie1_tie1, q_tie1_not, q_tie1_nand2, q_tie1_nand3, q_tie1_nor2, q_tie1_nor3, q_not_latch, q_not_tie0, q_not_tie1, q_not_not, q_not_nand2, q_not_nand3, q_not_nor2, q_not_nor3, q_nand2_latch, q_nand2_tie0, q_nand2_tie1, q_nand2_not, q_nand2_nand2, q_nand2_nand3, q_nand2_nor2, q_nand2_nor3, q_nand3_latch, q_nand3_tie0, q_nand3_tie1, q_nand3_not, q_nand3_nand2, q_nand3_nand3, q_nand3_nor2, q_nand3_nor3, q_nor2_latch, q_nor2_tie0, q_nor2_tie1, q_nor2_not, q_nor2_nand2, q_nor2_nand3, q_nor2_nor2, q_nor2_nor3, q_nor3_latch, q_nor3_tie0, q_nor3_tie1, q_nor3_not, q_nor3_nand2, q_nor3_nand3, q_nor3_nor2, q_nor3_nor3, ct_latch, p_latch_tie, p_latch_nor, ct_tie0, p_tie0_tie, p_tie0_nor, la_tie0, l3_tie0, ct_tie1, p_tie1_tie, p_tie1_nor, la_tie1, l3_tie1, ct_not, p_not_tie, p_not_nor, ct_nand2, p_nand2_tie, p_nand2_nor, la_nand2, ct_nand3, p_nand3_tie, p_nand3_nor, la_nand3, ct_nor2, p_nor2_tie, p_nor2_nor, la_nor2, ct_nor3, p_nor3_tie, p_nor3_nor, la_nor3, n_0, n_1, n_2, n_3, List.mem_cons, List.not_mem_nil, or_self, or_false, or_true]
          exact ⟨_, rfl, .inr ⟨2, .inr (.inr (.inl ⟨.inl rfl, rfl⟩)), by omega⟩⟩
      · by_cases c : nets < 3
        · simp only [dz, dl, c, ok_bind, decide_true, decide_false, if_true, if_false, ↓reduceIte, Bool.false_eq_true, Bool.not_true, Bool.not_false, Bool.and_true, Bool.true_and, Bool.and_false, Bool.false_and, Bool.or_true, Bool.true_or, Bool.or_false, Bool.false_or, decide_eq_true_eq, nex_ok, ofO_some, Sum.elim_inl, Sum.elim_inr, q_latch_latch, q_latch_tie0, q_latch_tie1, q_latch_not, q_latch_nand2, q_latch_nand3, q_latch_nor2, q_latch_nor3, q_tie0_latch, q_tie0_tie0, q_tie0_tie1, q_tie0_not, q_tie0_nand2, q_tie0_nand3, q_tie0_nor2, q_tie0_nor3, q_tie1_latch, q_tie1_tie0, q_tie1_tie1, q_tie1_not, q_tie1_nand2, q_tie1_nand3, q_tie1_nor2, q_tie1_nor3, q_not_latch, q_not_tie0, q_not_tie1, q_not_not, q_not_nand2, q_not_nand3, q_not_nor2, q_not_nor3, q_nand2_latch, q_nand2_tie0, q_nand2_tie1, q_nand2_not, q_nand2_nand2, q_nand2_nand3, q_nand2_nor2, q_nand2_nor3, q_nand3_latch, q_nand3_tie0, q_nand3_tie1, q_nand3_not, q_nand3_nand2, q_nand3_nand3, q_nand3_nor2, q_nand3_nor3, q_nor2_latch, q_nor2_tie0, q_nor2_tie1, q_nor2_not, q_nor2_nand2, q_nor2_nand3, q_nor2_nor2, q_nor2_nor3, q_nor3_latch, q_nor3_tie0, q_nor3_tie1, q_nor3_not, q_nor3_nand2, q_nor3_nand3, q_nor3_nor2, q_nor3_nor3, ct_latch, p_latch_tie, p_latch_nor, ct_tie0, p_tie0_tie, p_tie0_nor, la_tie0, l3_tie0, ct_tie1, p_tie1_tie, p_tie1_nor, la_tie1, l3_tie1, ct_not, p_not_tie, p_not_nor, ct_nand2, p_nand2_tie, p_nand2_nor, la_nand2, ct_nand3, p_nand3_tie, p_nand3_nor, la_nand3, ct_nor2, p_nor2_tie, p_nor2_nor, la_nor2, ct_nor3, p_nor3_tie, p_nor3_nor, la_nor3, n_0, n_1, n_2, n_3, List.mem_cons, List.not_mem_nil, or_self, or_false, or_true]
          exact small (S "nand3") 3 (.inr (.inr (.inl ⟨rfl, rfl⟩))) z c
        · simp only [dz, dl, c, ok_bind, decide_true, decide_false, if_true, if_false, ↓reduceIte, Bool.false_eq_true, Bool.not_true, Bool.not_false, Bool.and_true, Bool.true_and, Bool.and_false, Bool.false_and, Bool.or_true, Bool.true_or, Bool.or_false, Bool.false_or, decide_eq_true_eq, nex_ok, ofO_some, Sum.elim_inl, Sum.elim_inr, q_latch_latch, q_latch_tie0, q_latch_tie1, q_latch_not, q_latch_nand2, q_latch_nand3, q_latch_nor2, q_latch_nor3, q_tie0_latch, q_tie0_tie0, q_tie0_tie1, q_tie0_not, q_tie0_nand2, q_tie0_nand3, q_tie0_nor2, q_tie0_nor3, q_tie1_latch, q_tie1_tie0, q_tie1_tie1, q_tie1_not, q_tie1_nand2, q_tie1_nand3, q_tie1_nor2, q_tie1_nor3, q_not_latch, q_not_tie0, q_not_tie1, q_not_not, q_not_nand2, q_not_nand3, q_not_nor2, q_not_nor3, q_nand2_latch, q_nand2_tie0, q_nand2_tie1, q_nand2_not, q_nand2_nand2, q_nand2_nand3, q_nand2_nor2, q_nand2_nor3, q_nand3_latch, q_nand3_tie0, q_nand3_tie1, q_nand3_not, q_nand3_nand2, q_nand3_nand3, q_nand3_nor2, q_nand3_nor3, q_nor2_latch, q_nor2_tie0, q_nor2_tie1, q_nor2_not, q_nor2_nand2, q_nor2_nand3, q_nor2_nor2, q_nor2_nor3, q_nor3_latch, q_nor3_tie0, q_nor3_tie1, q_nor3_not, q_nor3_nand2, q_nor3_nand3, q_nor3_nor2, q_nor3_nor3, ct_latch, p_latch_tie, p_latch_nor, ct_tie0, p_tie0_tie, p_tie0_nor, la_tie0, l3_tie0, ct_tie1, p_tie1_tie, p_tie1_nor, la_tie1, l3_tie1, ct_not, p_not_tie, p_not_nor, ct_nand2, p_nand2_tie, p_nand2_nor, la_nand2, ct_nand3, p_nand3_tie, p_nand3_nor, la_nand3, ct_nor2, p_nor2_tie, p_nor2_nor, la_nor2, ct_nor3, p_nor3_tie, p_nor3_nor, la_nor3, n_0, n_1, n_2, n_3, List.mem_cons, List.not_mem_nil, or_self, or_false, or_true]
          exact ⟨_, rfl, .inr ⟨3, .inr (.inr (.inr ⟨.inl rfl, rfl⟩)), by omega⟩⟩
      · by_cases c : nets < 2
        · simp only [dz, dl, c, ok_bind, decide_true, decide_false, if_true, if_false, ↓reduceIte, Bool.false_eq_true, Bool.not_true, Bool.not_false, Bool.and_true, Bool.true_and, Bool.and_false, Bool.false_and, Bool.or_true, Bool.true_or, Bool.or_false, Bool.false_or, decide_eq_true_eq, nex_ok, ofO_some, Sum.elim_inl, Sum.elim_inr, q_latch_latch, q_latch_tie0, q_latch_tie1, q_latch_not, q_latch_nand2, q_latch_nand3, q_latch_nor2, q_latch_nor3, q_tie0_latch, q_tie0_tie0, q_tie0_tie1, q_tie0_not, q_tie0_nand2, q_tie0_nand3, q_tie0_nor2, q_tie0_nor3, q_tie1_latch, q_tie1_tie0, q_tie1_tie1, q_tie1_not, q_tie1_nand2, q_tie1_nand3, q_tie1_nor2, q_tie1_nor3, q_not_latch, q_not_tie0, q_not_tie1, q_not_not, q_not_nand2, q_not_nand3, q_not_nor2, q_not_nor3, q_nand2_latch, q_nand2_tie0, q_nand2_tie1, q_nand2_not, q_nand2_nand2, q_nand2_nand3, q_nand2_nor2, q_nand2_nor3, q_nand3_latch, q_nand3_tie0, q_nand3_tie1, q_nand3_not, q_nand3_nand2, q_nand3_nand3, q_nand3_nor2, q_nand3_nor3, q_nor2_latch, q_nor2_tie0, q_nor2_tie1, q_nor2_not, q_nor2_nand2, q_nor2_nand3, q_nor2_nor2, q_nor2_nor3, q_nor3_latch, q_nor3_tie0, q_nor3_tie1, q_nor3_not, q_nor3_nand2, q_nor3_nand3, q_nor3_nor2, q_nor3_nor3, ct_latch, p_latch_tie, p_latch_nor, ct_tie0, p_tie0_tie, p_tie0_nor, la_tie0, l3_tie0, ct_tie1, p_tie1_tie, p_tie1_nor, la_tie1, l3_tie1, ct_not, p_not_tie, p_not_nor, ct_nand2, p_nand2_tie, p_nand2_nor, la_nand2, ct_nand3, p_nand3_tie, p_nand3_nor, la_nand3, ct_nor2, p_nor2_tie, p_nor2_nor, la_nor2, ct_nor3, p_nor3_tie, p_nor3_nor, la_nor3, n_0, n_1, n_2, n_3, List.mem_cons, List.not_mem_nil, or_self, or_false, or_true]
          exact small (S "nor2") 2 (.inr (.inl ⟨rfl, rfl⟩)) z c
        · simp only [dz, dl, c, ok_bind, decide_true, decide_false, if_true, if_false, ↓reduceIte, Bool.false_eq_true, Bool.not_true, Bool.not_false, Bool.and_true, Bool.true_and, Bool.and_false, Bool.false_and, Bool.or_true, Bool.true_or, Bool.or_false, Bool.false_or, decide_eq_true_eq, nex_ok, ofO_some, Sum.elim_inl, Sum.elim_inr, q_latch_latch, q_latch_tie0, q_latch_tie1, q_latch_not, q_latch_nand2, q_latch_nand3, q_latch_nor2, q_latch_nor3, q_tie0_latch, q_tie0_tie0, q_tie0_tie1, q_tie0_not, q_tie0_nand2, q_tie0_nand3, q_tie0_nor2, q_tie0_nor3, q_tie1_latch, q_tie1_tie0, q_tie1_tie1, q_tie1_not, q_tie1_nand2, q_tie1_nand3, q_tie1_nor2, q_tie1_nor3, q_not_latch, q_not_tie0, q_not_tie1, q_not_not, q_not_nand2, q_not_nand3, q_not_nor2, q_not_nor3, q_nand2_latch, q_nand2_tie0, q_nand2_tie1, q_nand2_not, q_nand2_nand2, q_nand2_nand3, q_nand2_nor2, q_nand2_nor3, q_nand3_latch, q_nand3_tie0, q_nand3_tie1, q_nand3_not, q_nand3_nand2, q_nand3_nand3, q_nand3_nor2, q_nand3_nor3, q_nor2_latch, q_nor2_tie0, q_nor2_tie1, q_nor2_not, q_nor2_nand2, q_nor2_nand3, q_nor2_nor2, q_nor2_nor3, q_nor3_latch, q_nor3_tie0, q_nor3_tie1, q_nor3_not, q_nor3_nand2, q_nor3_nand3, q_nor3_nor2, q_nor3_nor3, ct_latch, p_latch_tie, p_latch_nor, ct_tie0, p_tie0_tie, p_tie0_nor, la_tie0, l3_tie0, ct_tie1, p_tie1_tie, p_tie1_nor, la_tie1, l3_tie1, ct_not, p_not_tie, p_not_nor, ct_nand2, p_nand2_tie, p_nand2_nor, la_nand2, ct_nand3, p_nand3_tie, p_nand3_nor, la_nand3, ct_nor2, p_nor2_tie, p_nor2_nor, la_nor2, ct_nor3, p_nor3_tie, p_nor3_nor, la_nor3, n_0, n_1, n_2, n_3, List.mem_cons, List.not_mem_nil, or_self, or_false, or_true]
          exact ⟨_, rfl, .inr ⟨2, .inr (.inr (.inl ⟨.inr rfl, rfl⟩)), by omega⟩⟩
      · by_cases c : nets < 3
        · simp only [dz, dl, c, ok_bind, decide_true, decide_false, if_true, if_false, ↓reduceIte, Bool.false_eq_true, Bool.not_true, Bool.not_false, Bool.and_true, Bool.true_and, Bool.and_false, Bool.false_and, Bool.or_true, Bool.true_or, Bool.or_false, Bool.false_or, decide_eq_true_eq, nex_ok, ofO_some, Sum.elim_inl, Sum.elim_inr, q_latch_latch, q_latch_tie0, q_latch_tie1, q_latch_not, q_latch_nand2, q_latch_nand3, q_latch_nor2, q_latch_nor3, q_tie0_latch, q_tie0_tie0, q_tie0_tie1, q_tie0_not, q_tie0_nand2, q_tie0_nand3, q_tie0_nor2, q_tie0_nor3, q_tie1_latch, q_tie1_tie0, q_tie1_tie1, q_tie1_not, q_tie1_nand2, q_tie1_nand3, q_tie1_nor2, q_tie1_nor3, q_not_latch, q_not_tie0, q_not_tie1, q_not_not, q_not_nand2, q_not_nand3, q_not_nor2, q_not_nor3, q_nand2_latch, q_nand2_tie0, q_nand2_tie1, q_nand2_not, q_nand2_nand2, q_nand2_nand3, q_nand2_nor2, q_nand2_nor3, q_nand3_latch, q_nand3_tie0, q_nand3_tie1, q_nand3_not, q_nand3_nand2, q_nand3_nand3, q_nand3_nor2, q_nand3_nor3, q_nor2_latch, q_nor2_tie0, q_nor2_tie1, q_nor2_not, q_nor2_nand2, q_nor2_nand3, q_nor2_nor2, q_nor2_nor3, q_nor3_latch, q_nor3_tie0, q_nor3_tie1, q_nor3_not, q_nor3_nand2, q_nor3_nand3, q_nor3_nor2, q_nor3_nor3, ct_latch, p_latch_tie, p_latch_nor, ct_tie0, p_tie0_tie, p_tie0_nor, la_tie0, l3_tie0, ct_tie1, p_tie1_tie, p_tie1_nor, la_tie1, l3_tie1, ct_not, p_not_tie, p_not_nor, ct_nand2, p_nand2_tie, p_nand2_nor, la_nand2, ct_nand3, p_nand3_tie, p_nand3_nor, la_nand3, ct_nor2, p_nor2_tie, p_nor2_nor, la_nor2, ct_nor3, p_nor3_tie, p_nor3_nor, la_nor3, n_0, n_1, n_2, n_3, List.mem_cons, List.not_mem_nil, or_self, or_false, or_true]
          exact small (S "nor3") 3 (.inr (.inr (.inr ⟨rfl, rfl⟩))) z c
        · simp only [dz, dl, c, ok_bind, decide_true, decide_false, if_true, if_false, ↓reduceIte, Bool.false_eq_true, Bool.not_true, Bool.not_false, Bool.and_true, Bool.true_and, Bool.and_false, Bool.false_and, Bool.or_true, Bool.true_or, Bool.or_false, Bool.false_or, decide_eq_true_eq, nex_ok, ofO_some, Sum.elim_inl, Sum.elim_inr, q_latch_latch, q_latch_tie0, q_latch_tie1, q_latch_not, q_latch_nand2, q_latch_nand3, q_latch_nor2, q_latch_nor3, q_tie0_latch, q_tie0_tie0, q_tie0_tie1, q_tie0_not, q_tie0_nand2, q_tie0_nand3, q_tie0_nor2, q_tie0_nor3, q_tie1_latch, q_tie1_tie0, q_tie1_tie1, q_tie1_not, q_tie1_nand2, q_tie1_nand3, q_tie1_nor2, q_tie1_nor3, q_not_latch, q_not_tie0, q_not_tie1, q_not_not, q_not_nand2, q_not_nand3, q_not_nor2, q_not_nor3, q_nand2_latch, q_nand2_tie0, q_nand2_tie1, q_nand2_not, q_nand2_nand2, q_nand2_nand3, q_nand2_nor2, q_nand2_nor3, q_nand3_latch, q_nand3_tie0, q_nand3_tie1, q_nand3_not, q_nand3_nand2, q_nand3_nand3, q_nand3_nor2, q_nand3_nor3, q_nor2_latch, q_nor2_tie0, q_nor2_tie1, q_nor2_not, q_nor2_nand2, q_nor2_nand3, q_nor2_nor2, q_nor2_nor3, q_nor3_latch, q_nor3_tie0, q_nor3_tie1, q_nor3_not, q_nor3_nand2, q_nor3_nand3, q_nor3_nor2, q_nor3_nor3, ct_latch, p_latch_tie, p_latch_nor, ct_tie0, p_tie0_tie, p_tie0_nor, la_tie0, l3_tie0, ct_tie1, p_tie1_tie, p_tie1_nor, la_tie1, l3_tie1, ct_not, p_not_tie, p_not_nor, ct_nand2, p_nand2_tie, p_nand2_nor, la_nand2, ct_nand3, p_nand3_tie, p_nand3_nor, la_nand3, ct_nor2, p_nor2_tie, p_nor2_nor, la_nor2, ct_nor3, p_nor3_tie, p_nor3_nor, la_nor3, n_0, n_1, n_2, n_3, List.mem_cons, List.not_mem_nil, or_self, or_false, or_true]
          exact ⟨_, rfl, .inr ⟨3, .inr (.inr (.inr ⟨.inr rfl, rfl⟩)), by omega⟩⟩)
/-- inputs drawn -/
theorem drawn_ok (p0 : Int) (ps : List Int) (count nets : Nat) (k : Int) (hk : k = count) (hc : count ≤ ps.length) (hp : ∀ p ∈ ps, 0 ≤ p) (hn : count ≤ nets) (hb : nets ≤ 100000) : ∃ ds, M_law_drawn (p0 :: ps) k nets = .ok ds ∧ ds.length = count ∧ ∀ d ∈ ds, 0 ≤ d ∧ d < nets := by
  subst hk
  obtain ⟨⟨l, ds⟩, e, h1, h2, h3, h4⟩ := forE_inv0 (fun j (s : List Int × List Int) => s.1.length = nets - j ∧ s.2.length = j ∧ (∀ d ∈ s.1, 0 ≤ d ∧ d < nets) ∧ ∀ d ∈ s.2, 0 ≤ d ∧ d < nets) (f := B_law_drawn_1 (p0 :: ps)) (xs := nats count) (s := (nats nets, [])) ⟨by rw [nats_len]; rfl, rfl, fun d hd => nats_mem.mp hd, fun d hd => nomatch hd⟩ (by
    rintro i x ⟨l, ds⟩ hx ⟨h1, h2, h3, h4⟩
    obtain ⟨hi, rfl⟩ := nats_at hx
    dsimp only at h1 h2 h3 h4
    have hpi : (p0 :: ps)[i + 1]? = some ps[i] := by rw [List.getElem?_cons_succ]; exact List.getElem?_eq_getElem _
    have hp0 := hp _ (List.getElem_mem (l := ps) (n := i) (by omega))
    have hl : 0 < l.length := by omega
    have m1 := Int.emod_nonneg ps[i] (b := (l.length : Int)) (by omega)
    have m2 := Int.emod_lt_of_pos ps[i] (b := (l.length : Int)) (by omega)
    have hg : l[(ps[i] % (l.length : Int)).toNat]? = some (l[(ps[i] % (l.length : Int)).toNat]'(by omega)) := List.getElem?_eq_getElem _
    have hm := h3 _ (List.getElem_mem (l := l) (n := (ps[i] % (l.length : Int)).toNat) (by omega))
    generalize l[(ps[i] % (l.length : Int)).toNat]'(by omega) = y at hg hm
    refine ⟨(l.eraseIdx (ps[i] % (l.length : Int)).toNat, ds ++ [y]), ?_, by dsimp only; rw [List.length_eraseIdx, if_pos (by omega)]; omega, by simp [h2], fun d hd => h3 d (List.mem_of_mem_eraseIdx hd), fun d hd => ?_⟩
    · unfold B_law_drawn_1
      have e1 : ixE (p0 :: ps) (1 + (i : Int)) = .ok ps[i] := by
        have := ixE_nat hpi
        rwa [show ((i + 1 : Nat) : Int) = 1 + (i : Int) by omega] at this
      simp (disch := omega) only [e1, ok_bind, modE_ok, popE_at m1 hg, appE_ok]
    · rcases List.mem_append.mp hd with hd | hd
      · exact h4 d hd
      · rw [List.mem_singleton.mp hd]; exact hm)
  rw [nats_len] at h2
  refine ⟨ds, ?_, h2, h4⟩
  unfold M_law_drawn
  simp (disch := omega) only [lrE_ok, ok_bind, rg1_nat, Int.toNat_natCast, e]
end K10
namespace K10
open PySem PV TM
def isLat (c : Cel) : Bool := decide (c.1 = S "latch")
def nlat (cs : List Cel) : Nat := (cs.filter isLat).length
def CellOk (total : Int) (c : Cel) : Prop := (c.1 = S "latch" ∧ ∃ a, c.2.1 = [a] ∧ 0 ≤ a ∧ a < total) ∨ (KA c.1 c.2.1.length ∧ ∀ a ∈ c.2.1, 0 ≤ a ∧ a < c.2.2)
def CsOk (n : Nat) (total : Int) (cs : List Cel) : Prop := ∀ (i : Nat) (c : Cel), cs[i]? = some c → c.2.2 = (n : Int) + i ∧ CellOk total c
theorem KA.nl {k : Str} {n : Nat} (h : KA k n) : k ≠ S "latch" := by
  rcases h with ⟨h | h, _⟩ | ⟨h, _⟩ | ⟨h | h, _⟩ | ⟨h | h, _⟩ <;> subst h <;> decide +kernel
theorem nlat_app (cs : List Cel) (c : Cel) : nlat (cs ++ [c]) = nlat cs + if isLat c = true then 1 else 0 := by
  unfold nlat
  rw [List.filter_append, List.length_append]
  cases h : isLat c <;> simp [h]
theorem CsOk.app {n : Nat} {total : Int} {cs : List Cel} {c : Cel} (h : CsOk n total cs) (h1 : c.2.2 = (n : Int) + cs.length) (h2 : CellOk total c) : CsOk n total (cs ++ [c]) := fun i c' hc => by
  by_cases q : i < cs.length
  · rw [List.getElem?_append_left q] at hc; exact h i c' hc
  · rw [List.getElem?_append_right (by omega)] at hc
    have : i = cs.length := by
      by_cases q2 : i = cs.length
      · exact q2
      · rw [List.getElem?_eq_none (by simp; omega)] at hc; cases hc
    subst this
    rw [Nat.sub_self] at hc
    cases hc
    exact ⟨h1, h2⟩
/-- one more cell -/
theorem cell_turn (kind : Str) (p0 p1 p2 p3 : Int) (net latches most total : Int) (cs : List Cel) (hp1 : 0 ≤ p1) (hp2 : 0 ≤ p2) (hp3 : 0 ≤ p3) (hk : KindOk net latches most kind) (hn : 0 ≤ net) (ht : net < total) (hb : total ≤ 100000) (hl : cs.length < 1000) :
    ∃ c : Cel, (if (decide (kind = (S "latch"))) = true then
 (E.bind (E.ok (latches + 1)) fun latches_25 =>
 (E.bind (E.bind (M_law_drawn [p0, p1, p2, p3] 1 total) fun t_26 =>
 (E.ok (kind, t_26, net))) fun t_28 =>
 (E.bind (appE cs t_28) fun cells_27 =>
 (E.ok (cells_27, latches_25)))))
 else
 (if (decide (kind ∈ [(S "tie0"), (S "tie1")])) = true then
 (E.bind (appE cs (kind, [], net)) fun cells_29 =>
 (E.ok (cells_29, latches)))
 else
 (if (decide (kind = (S "not"))) = true then
 (E.bind (E.bind (M_law_drawn [p0, p1, p2, p3] 1 net) fun t_30 =>
 (E.ok (kind, t_30, net))) fun t_32 =>
 (E.bind (appE cs t_32) fun cells_31 =>
 (E.ok (cells_31, latches))))
 else
 (E.bind (E.bind (E.bind (E.bind (ixSE kind (-1)) fun t_33 =>
 (intSE t_33)) fun t_35 =>
 (M_law_drawn [p0, p1, p2, p3] t_35 net)) fun t_36 =>
 (E.ok (kind, t_36, net))) fun t_38 =>
 (E.bind (appE cs t_38) fun cells_37 =>
 (E.ok (cells_37, latches))))))) = .ok (cs ++ [c], latches + if isLat c = true then 1 else 0) ∧ c.2.2 = net ∧ CellOk total c ∧ (isLat c = true → latches ≠ most) := by
  have hq : ∀ p ∈ [p1, p2, p3], 0 ≤ p := by
    intro p hp
    simp only [List.mem_cons, List.not_mem_nil, or_false] at hp
    rcases hp with rfl | rfl | rfl <;> assumption
  obtain ⟨tn, rfl⟩ := Int.eq_ofNat_of_zero_le (show 0 ≤ total by omega)
  obtain ⟨nn, rfl⟩ := Int.eq_ofNat_of_zero_le hn
  rcases hk with ⟨rfl, hlm⟩ | ⟨n, hka, hle⟩
  · obtain ⟨ds, e, hl1, hd⟩ := drawn_ok p0 [p1, p2, p3] 1 tn 1 rfl (by simp) hq (by omega) (by omega)
    match ds, hl1 with
    | [a], _ =>
      refine ⟨(S "latch", [a], nn), ?_, rfl, .inl ⟨rfl, a, rfl, hd a (List.mem_cons_self ..)⟩, fun _ => hlm⟩
      simp (disch := omega) only [ok_bind, decide_true, decide_false, if_true, if_false, ↓reduceIte, Bool.false_eq_true, Bool.not_true, Bool.not_false, Bool.and_true, Bool.true_and, Bool.and_false, Bool.false_and, Bool.or_true, Bool.true_or, Bool.or_false, Bool.false_or, decide_eq_true_eq, nex_ok, ofO_some, Sum.elim_inl, Sum.elim_inr, e, appE_ok, isLat]
  · have hnl := hka.nl
    have fin : ∀ ds : List Int, ds.length = n → (∀ d ∈ ds, 0 ≤ d ∧ d < (nn : Int)) → isLat (kind, ds, (nn : Int)) = false ∧ CellOk tn (kind, ds, (nn : Int)) := fun ds h1 h2 => ⟨decide_eq_false hnl, .inr ⟨by rw [h1]; exact hka, h2⟩⟩
    have hdr := fun k hk => drawn_ok p0 [p1, p2, p3] n nn k hk (by rcases hka with ⟨_, rfl⟩ | ⟨_, rfl⟩ | ⟨_, rfl⟩ | ⟨_, rfl⟩ <;> simp) hq (by omega) (by omega)
    rcases hka with ⟨h, rfl⟩ | ⟨rfl, rfl⟩ | ⟨h, rfl⟩ | ⟨h, rfl⟩
    · obtain ⟨f1, f2⟩ := fin [] rfl (fun _ z => nomatch z)
      refine ⟨(kind, [], nn), ?_, rfl, f2, fun z => by rw [f1] at z; cases z⟩
      rcases h with rfl | rfl <;>
      simp (disch := omega) only [ok_bind, decide_true, decide_false, if_true, if_false, ↓reduceIte, Bool.false_eq_true, Bool.not_true, Bool.not_false, Bool.and_true, Bool.true_and, Bool.and_false, Bool.false_and, Bool.or_true, Bool.true_or, Bool.or_false, Bool.false_or, decide_eq_true_eq, nex_ok, ofO_some, Sum.elim_inl, Sum.elim_inr, q_latch_latch, q_latch_tie0, q_latch_tie1, q_latch_not, q_latch_nand2, q_latch_nand3, q_latch_nor2, q_latch_nor3, q_tie0_latch, q_tie0_tie0, q_tie0_tie1, q_tie0_not, q_tie0_nand2, q_tie0_nand3, q_tie0_nor2, q_tie0_nor3, q_tie1_latch, q_tie1_tie0, q_tie1_tie1, q_tie1_not, q_tie1_nand2, q_tie1_nand3, q_tie1_nor2, q_tie1_nor3, q_not_latch, q_not_tie0, q_not_tie1, q_not_not, q_not_nand2, q_not_nand3, q_not_nor2, q_not_nor3, q_nand2_latch, q_nand2_tie0, q_nand2_tie1, q_nand2_not, q_nand2_nand2, q_nand2_nand3, q_nand2_nor2, q_nand2_nor3, q_nand3_latch, q_nand3_tie0, q_nand3_tie1, q_nand3_not, q_nand3_nand2, q_nand3_nand3, q_nand3_nor2, q_nand3_nor3, q_nor2_latch, q_nor2_tie0, q_nor2_tie1, q_nor2_not, q_nor2_nand2, q_nor2_nand3, q_nor2_nor2, q_nor2_nor3, q_nor3_latch, q_nor3_tie0, q_nor3_tie1, q_nor3_not, q_nor3_nand2, q_nor3_nand3, q_nor3_nor2, q_nor3_nor3, ct_latch, p_latch_tie, p_latch_nor, ct_tie0, p_tie0_tie, p_tie0_nor, la_tie0, l3_tie0, ct_tie1, p_tie1_tie, p_tie1_nor, la_tie1, l3_tie1, ct_not, p_not_tie, p_not_nor, ct_nand2, p_nand2_tie, p_nand2_nor, la_nand2, ct_nand3, p_nand3_tie, p_nand3_nor, la_nand3, ct_nor2, p_nor2_tie, p_nor2_nor, la_nor2, ct_nor3, p_nor3_tie, p_nor3_nor, la_nor3, n_0, n_1, n_2, n_3, appE_ok, f1, List.mem_cons, List.not_mem_nil, or_false, or_true, Int.add_zero]
    · obtain ⟨ds, e, hl1, hd⟩ := hdr 1 rfl
      obtain ⟨f1, f2⟩ := fin ds hl1 hd
      refine ⟨(S "not", ds, nn), ?_, rfl, f2, fun z => by rw [f1] at z; cases z⟩
      simp (disch := omega) only [ok_bind, decide_true, decide_false, if_true, if_false, ↓reduceIte, Bool.false_eq_true, Bool.not_true, Bool.not_false, Bool.and_true, Bool.true_and, Bool.and_false, Bool.false_and, Bool.or_true, Bool.true_or, Bool.or_false, Bool.false_or, decide_eq_true_eq, nex_ok, ofO_some, Sum.elim_inl, Sum.elim_inr, q_latch_latch, q_latch_tie0, q_latch_tie1, q_latch_not, q_latch_nand2, q_latch_nand3, q_latch_nor2, q_latch_nor3, q_tie0_latch, q_tie0_tie0, q_tie0_tie1, q_tie0_not, q_tie0_nand2, q_tie0_nand3, q_tie0_nor2, q_tie0_nor3, q_tie1_latch, q_tie1_tie0, q_tie1_tie1, q_tie1_not, q_tie1_nand2, q_tie1_nand3, q_tie1_nor2, q_tie1_nor3, q_not_latch, q_not_tie0, q_not_tie1, q_not_not, q_not_nand2, q_not_nand3, q_not_nor2, q_not_nor3, q_nand2_latch, q_nand2_tie0, q_nand2_tie1, q_nand2_not, q_nand2_nand2, q_nand2_nand3, q_nand2_nor2, q_nand2_nor3, q_nand3_latch, q_nand3_tie0, q_nand3_tie1, q_nand3_not, q_nand3_nand2, q_nand3_nand3, q_nand3_nor2, q_nand3_nor3, q_nor2_latch, q_nor2_tie0, q_nor2_tie1, q_nor2_not, q_nor2_nand2, q_nor2_nand3, q_nor2_nor2, q_nor2_nor3, q_nor3_latch, q_nor3_tie0, q_nor3_tie1, q_nor3_not, q_nor3_nand2, q_nor3_nand3, q_nor3_nor2, q_nor3_nor3, ct_latch, p_latch_tie, p_latch_nor, ct_tie0, p_tie0_tie, p_tie0_nor, la_tie0, l3_tie0, ct_tie1, p_tie1_tie, p_tie1_nor, la_tie1, l3_tie1, ct_not, p_not_tie, p_not_nor, ct_nand2, p_nand2_tie, p_nand2_nor, la_nand2, ct_nand3, p_nand3_tie, p_nand3_nor, la_nand3, ct_nor2, p_nor2_tie, p_nor2_nor, la_nor2, ct_nor3, p_nor3_tie, p_nor3_nor, la_nor3, n_0, n_1, n_2, n_3, e, appE_ok, f1, List.mem_cons, List.not_mem_nil, or_false, or_true, Int.add_zero]
    · obtain ⟨ds, e, hl1, hd⟩ := hdr 2 rfl
      obtain ⟨f1, f2⟩ := fin ds hl1 hd
      refine ⟨(kind, ds, nn), ?_, rfl, f2, fun z => by rw [f1] at z; cases z⟩
      rcases h with rfl | rfl <;>
      simp (disch := omega) only [ok_bind, decide_true, decide_false, if_true, if_false, ↓reduceIte, Bool.false_eq_true, Bool.not_true, Bool.not_false, Bool.and_true, Bool.true_and, Bool.and_false, Bool.false_and, Bool.or_true, Bool.true_or, Bool.or_false, Bool.false_or, decide_eq_true_eq, nex_ok, ofO_some, Sum.elim_inl, Sum.elim_inr, q_latch_latch, q_latch_tie0, q_latch_tie1, q_latch_not, q_latch_nand2, q_latch_nand3, q_latch_nor2, q_latch_nor3, q_tie0_latch, q_tie0_tie0, q_tie0_tie1, q_tie0_not, q_tie0_nand2, q_tie0_nand3, q_tie0_nor2, q_tie0_nor3, q_tie1_latch, q_tie1_tie0, q_tie1_tie1, q_tie1_not, q_tie1_nand2, q_tie1_nand3, q_tie1_nor2, q_tie1_nor3, q_not_latch, q_not_tie0, q_not_tie1, q_not_not, q_not_nand2, q_not_nand3, q_not_nor2, q_not_nor3, q_nand2_latch, q_nand2_tie0, q_nand2_tie1, q_nand2_not, q_nand2_nand2, q_nand2_nand3, q_nand2_nor2, q_nand2_nor3, q_nand3_latch, q_nand3_tie0, q_nand3_tie1, q_nand3_not, q_nand3_nand2, q_nand3_nand3, q_nand3_nor2, q_nand3_nor3, q_nor2_latch, q_nor2_tie0, q_nor2_tie1, q_nor2_not, q_nor2_nand2, q_nor2_nand3, q_nor2_nor2, q_nor2_nor3, q_nor3_latch, q_nor3_tie0, q_nor3_tie1, q_nor3_not, q_nor3_nand2, q_nor3_nand3, q_nor3_nor2, q_nor3_nor3, ct_latch, p_latch_tie, p_latch_nor, ct_tie0, p_tie0_tie, p_tie0_nor, la_tie0, l3_tie0, ct_tie1, p_tie1_tie, p_tie1_nor, la_tie1, l3_tie1, ct_not, p_not_tie, p_not_nor, ct_nand2, p_nand2_tie, p_nand2_nor, la_nand2, ct_nand3, p_nand3_tie, p_nand3_nor, la_nand3, ct_nor2, p_nor2_tie, p_nor2_nor, la_nor2, ct_nor3, p_nor3_tie, p_nor3_nor, la_nor3, n_0, n_1, n_2, n_3, e, appE_ok, f1, List.mem_cons, List.not_mem_nil, or_false, or_true, Int.add_zero]
    · obtain ⟨ds, e, hl1, hd⟩ := hdr 3 rfl
      obtain ⟨f1, f2⟩ := fin ds hl1 hd
      refine ⟨(kind, ds, nn), ?_, rfl, f2, fun z => by rw [f1] at z; cases z⟩
      rcases h with rfl | rfl <;>
      simp (disch := omega) only [ok_bind, decide_true, decide_false, if_true, if_false, ↓reduceIte, Bool.false_eq_true, Bool.not_true, Bool.not_false, Bool.and_true, Bool.true_and, Bool.and_false, Bool.false_and, Bool.or_true, Bool.true_or, Bool.or_false, Bool.false_or, decide_eq_true_eq, nex_ok, ofO_some, Sum.elim_inl, Sum.elim_inr, q_latch_latch, q_latch_tie0, q_latch_tie1, q_latch_not, q_latch_nand2, q_latch_nand3, q_latch_nor2, q_latch_nor3, q_tie0_latch, q_tie0_tie0, q_tie0_tie1, q_tie0_not, q_tie0_nand2, q_tie0_nand3, q_tie0_nor2, q_tie0_nor3, q_tie1_latch, q_tie1_tie0, q_tie1_tie1, q_tie1_not, q_tie1_nand2, q_tie1_nand3, q_tie1_nor2, q_tie1_nor3, q_not_latch, q_not_tie0, q_not_tie1, q_not_not, q_not_nand2, q_not_nand3, q_not_nor2, q_not_nor3, q_nand2_latch, q_nand2_tie0, q_nand2_tie1, q_nand2_not, q_nand2_nand2, q_nand2_nand3, q_nand2_nor2, q_nand2_nor3, q_nand3_latch, q_nand3_tie0, q_nand3_tie1, q_nand3_not, q_nand3_nand2, q_nand3_nand3, q_nand3_nor2, q_nand3_nor3, q_nor2_latch, q_nor2_tie0, q_nor2_tie1, q_nor2_not, q_nor2_nand2, q_nor2_nand3, q_nor2_nor2, q_nor2_nor3, q_nor3_latch, q_nor3_tie0, q_nor3_tie1, q_nor3_not, q_nor3_nand2, q_nor3_nand3, q_nor3_nor2, q_nor3_nor3, ct_latch, p_latch_tie, p_latch_nor, ct_tie0, p_tie0_tie, p_tie0_nor, la_tie0, l3_tie0, ct_tie1, p_tie1_tie, p_tie1_nor, la_tie1, l3_tie1, ct_not, p_not_tie, p_not_nor, ct_nand2, p_nand2_tie, p_nand2_nor, la_nand2, ct_nand3, p_nand3_tie, p_nand3_nor, la_nand3, ct_nor2, p_nor2_tie, p_nor2_nor, la_nor2, ct_nor3, p_nor3_tie, p_nor3_nor, la_nor3, n_0, n_1, n_2, n_3, e, appE_ok, f1, List.mem_cons, List.not_mem_nil, or_false, or_true, Int.add_zero]
end K10
namespace K10
open PySem PV TM
structure CW (n : Nat) (cs : List Cel) (outs h : List Int) (N C L X : Nat) : Prop where
  n6 : n ≤ N
  cl : cs.length ≤ C
  pos : 0 < n + cs.length
  ok : CsOk n ((n + cs.length : Nat) : Int) cs
  hl : h.length = nlat cs
  l4 : nlat cs ≤ L
  x : n + nlat cs ≤ X
  o0 : 0 < outs.length
  o6 : outs.length ≤ 6
  os : ∀ o ∈ outs, 0 ≤ o ∧ o < ((n + cs.length : Nat) : Int)
theorem parts4 (cell s0 s1 s2 s3 : Int) (h : ∀ s ∈ [s0, s1, s2, s3], 0 < s ∧ s < 2 ^ 62) : ∃ p0 p1 p2 p3, M_law_parts cell [s0, s1, s2, s3] = .ok [p0, p1, p2, p3] ∧ (0 ≤ p0 ∧ p0 < s0) ∧ (0 ≤ p1 ∧ p1 < s1) ∧ (0 ≤ p2 ∧ p2 < s2) ∧ (0 ≤ p3 ∧ p3 < s3) := by
  obtain ⟨ps, e, q⟩ := parts_ok cell [s0, s1, s2, s3] (by simp) h
  obtain ⟨p0, _, rfl, h0, q⟩ := q.hd
  obtain ⟨p1, _, rfl, h1, q⟩ := q.hd
  obtain ⟨p2, _, rfl, h2, q⟩ := q.hd
  obtain ⟨p3, _, rfl, h3, q⟩ := q.hd
  cases q.nl
  exact ⟨p0, p1, p2, p3, e, h0, h1, h2, h3⟩
theorem parts3 (cell s0 s1 s2 : Int) (h : ∀ s ∈ [s0, s1, s2], 0 < s ∧ s < 2 ^ 62) : ∃ p0 p1 p2, M_law_parts cell [s0, s1, s2] = .ok [p0, p1, p2] ∧ (0 ≤ p0 ∧ p0 < s0) ∧ (0 ≤ p1 ∧ p1 < s1) ∧ (0 ≤ p2 ∧ p2 < s2) := by
  obtain ⟨ps, e, q⟩ := parts_ok cell [s0, s1, s2] (by simp) h
  obtain ⟨p0, _, rfl, h0, q⟩ := q.hd
  obtain ⟨p1, _, rfl, h1, q⟩ := q.hd
  obtain ⟨p2, _, rfl, h2, q⟩ := q.hd
  cases q.nl
  exact ⟨p0, p1, p2, e, h0, h1, h2⟩
theorem parts5 (cell s0 s1 s2 s3 s4 : Int) (h : ∀ s ∈ [s0, s1, s2, s3, s4], 0 < s ∧ s < 2 ^ 62) : ∃ p0 p1 p2 p3 p4, M_law_parts cell [s0, s1, s2, s3, s4] = .ok [p0, p1, p2, p3, p4] ∧ (0 ≤ p0 ∧ p0 < s0) ∧ (0 ≤ p1 ∧ p1 < s1) ∧ (0 ≤ p2 ∧ p2 < s2) ∧ (0 ≤ p3 ∧ p3 < s3) ∧ (0 ≤ p4 ∧ p4 < s4) := by
  obtain ⟨ps, e, q⟩ := parts_ok cell [s0, s1, s2, s3, s4] (by simp) h
  obtain ⟨p0, _, rfl, h0, q⟩ := q.hd
  obtain ⟨p1, _, rfl, h1, q⟩ := q.hd
  obtain ⟨p2, _, rfl, h2, q⟩ := q.hd
  obtain ⟨p3, _, rfl, h3, q⟩ := q.hd
  obtain ⟨p4, _, rfl, h4, q⟩ := q.hd
  cases q.nl
  exact ⟨p0, p1, p2, p3, p4, e, h0, h1, h2, h3, h4⟩
theorem most_ok (a : Int) : ∃ k : Nat, imin 8 (imax 1 a) = (k : Int) + 1 ∧ k ≤ 7 := by
  unfold imin imax
  by_cases h : 1 < a
  · rw [if_pos h]
    by_cases h2 : a < 8
    · rw [if_pos h2]; exact ⟨(a - 1).toNat, by omega, by omega⟩
    · rw [if_neg h2]; exact ⟨7, rfl, by omega⟩
  · rw [if_neg h, if_pos (by omega)]; exact ⟨0, rfl, by omega⟩
theorem circuit_ok (ns : List Int) : ∃ n cs outs h, M_law_circuit ns 8 = .ok ((n : Nat), cs, outs, h) ∧ CW n cs outs h 6 8 2 6 := by
  obtain ⟨x0, e0⟩ := cell_ok ns 0 (by omega)
  obtain ⟨n, p1, p2, p3, e1, hn, h1, h2, h3⟩ := parts4 x0 4 6 100 100 (by simp)
  obtain ⟨n, rfl⟩ := Int.eq_ofNat_of_zero_le hn.1
  have hk := most_ok ((ns.length : Int) - 3)
  obtain ⟨k, ek, hk7⟩ := hk
  have ht : ((n : Int) + ((k : Int) + 1) - n).toNat = k + 1 := by omega
  obtain ⟨⟨cs, l⟩, e, i1, i2, i3, i4⟩ := forE_inv0 (fun j (s : List Cel × Int) => s.1.length = j ∧ CsOk n ((n : Int) + (k + 1)) s.1 ∧ s.2 = nlat s.1 ∧ s.2 ≤ 2) (f := B_law_circuit_1 [(n : Int), p1, p2, p3] ns ((n : Int) + ((k : Int) + 1))) (xs := rg n (k + 1)) (s := ([], 0)) ⟨rfl, fun i c h => by simp at h, rfl, by omega⟩ (by
    rintro i x ⟨cs, l⟩ hx ⟨i1, i2, i3, i4⟩
    dsimp only at i1 i2 i3 i4
    obtain ⟨hi, rfl⟩ := rg_at hx
    obtain ⟨y, f0⟩ := cell_ok ns (3 + ((n : Int) + i) - n) (by omega)
    obtain ⟨q0, q1, q2, q3, f1, b0, b1, b2, b3⟩ := parts4 y 16 100 100 100 (by simp)
    obtain ⟨kind, f2, hk⟩ := kind_ok q0 q1 [q2, q3] ((n : Int) + i) l b0.1 b0.2 (by omega)
    obtain ⟨c, f3, g1, g2, g3⟩ := cell_turn kind q0 q1 q2 q3 ((n : Int) + i) l 2 ((n : Int) + ((k : Int) + 1)) cs b1.1 b2.1 b3.1 hk (by omega) (by omega) (by omega) (by omega)
    refine ⟨(cs ++ [c], l + if isLat c = true then 1 else 0), ?_, ?_⟩
    · unfold B_law_circuit_1
      simp only [ok_bind, ixE_0, f0, f1, f2]
      simp only [ok_bind] at f3
      exact f3
    · refine ⟨by simp [i1], i2.app (by rw [g1, i1]) g2, ?_, ?_⟩
      · dsimp only
        rw [nlat_app, i3]
        cases isLat c <;> simp
      · dsimp only
        cases hc : isLat c with
        | true => have := g3 hc; simp only [if_true]; omega
        | false => simp only [Bool.false_eq_true, if_false]; omega)
  rw [rg_len] at i1
  dsimp only at i1 i2 i3 i4
  have hmod : ∀ y : Int, modE y ((n : Int) + ((k : Int) + 1)) = .ok (y % ((n : Int) + ((k : Int) + 1))) := fun y => modE_ok (by omega)
  have hmul : ∀ y : Int, mulE y p3 = .ok (y * p3) := fun y => mulE_r (by omega) (by omega)
  generalize hL : imin 8 (imax 1 ((ns.length : Int) - 3)) = Lm at ek
  have houts : comE (fun k_40 => E.bind (E.bind (E.bind (ixE [(n : Int), p1, p2, p3] 2) fun t_42 => (E.bind (E.bind (ixE [(n : Int), p1, p2, p3] 3) fun t_41 => (mulE k_40 t_41)) fun t_43 => (E.ok (t_42 + t_43)))) fun t_44 => (E.ok t_44)) fun t_45 => (modE t_45 ((n : Int) + ((k : Int) + 1)))) (nats (1 + p1).toNat) = .ok ((nats (1 + p1).toNat).map fun y => (p2 + y * p3) % ((n : Int) + ((k : Int) + 1))) :=
    comE_ok (by rw [nats_len]; omega) fun y _ => by simp only [ok_bind, ixE_2, ixE_3, hmul, hmod]
  have hh : comE (fun k_48 => E.bind (E.bind (E.bind (ixE [(n : Int), p1, p2, p3] 2) fun t_49 => (E.ok (t_49 + k_48))) fun t_50 => (E.ok t_50)) fun t_51 => (E.ok (t_51 % 4))) (nats (nlat cs)) = .ok ((nats (nlat cs)).map fun y => (p2 + y) % 4) :=
    comE_ok (by rw [nats_len]; omega) fun y _ => by simp only [ok_bind, ixE_2]
  refine ⟨n, cs, (nats (1 + p1).toNat).map fun y => (p2 + y * p3) % ((n : Int) + ((k : Int) + 1)), (nats (nlat cs)).map fun y => (p2 + y) % 4, ?_, ?_⟩
  · unfold M_law_circuit
    simp (disch := omega) only [ok_bind, e0, e1, ixE_0, ixE_1, hL, ek, rg2_ok, ht, e, rg1_ok, houts, i3, rg1_nat, Int.toNat_natCast, hh]
  · refine ⟨by omega, by omega, by omega, ?_, by rw [List.length_map, nats_len], by omega, by omega, by rw [List.length_map, nats_len]; omega, by rw [List.length_map, nats_len]; omega, fun o ho => ?_⟩
    · rw [i1, show ((n + (k + 1) : Nat) : Int) = (n : Int) + (k + 1) by omega]; exact i2
    · obtain ⟨y, _, rfl⟩ := List.mem_map.mp ho
      have m1 := Int.emod_nonneg (p2 + y * p3) (b := (n : Int) + ((k : Int) + 1)) (by omega)
      have m2 := Int.emod_lt_of_pos (p2 + y * p3) (b := (n : Int) + ((k : Int) + 1)) (by omega)
      omega
theorem bare_ok (ns : List Int) {n : Nat} {cs : List Cel} {outs h : List Int} {N C L X : Nat} (w : CW n cs outs h N C L X) : ∃ cs' outs' h', M_law_bare ns ((n : Int), cs, outs, h) = .ok ((n : Int), cs', outs', h') ∧ CW n cs' outs' h' N C L X := by
  unfold M_law_bare
  by_cases z : (n : Int) = 0
  · exact ⟨cs, outs, h, by simp only [z, ok_bind, decide_true, decide_false, if_true, if_false, ↓reduceIte, Bool.false_eq_true, Bool.not_true, Bool.not_false, Bool.and_true, Bool.true_and, Bool.and_false, Bool.false_and, Bool.or_true, Bool.true_or, Bool.or_false, Bool.false_or, decide_eq_true_eq, nex_ok, ofO_some, Sum.elim_inl, Sum.elim_inr], w⟩
  · obtain ⟨x, e⟩ := cell_ok ns 2 (by omega)
    by_cases c : x % 8 = 5
    · have hm : comE (fun net_6 => modE net_6 (n : Int)) outs = .ok (outs.map fun y => y % (n : Int)) := comE_ok (by have := w.o6; omega) fun y _ => modE_ok (by omega)
      refine ⟨[], outs.map fun y => y % (n : Int), [], by simp only [z, e, c, ok_bind, decide_true, decide_false, if_true, if_false, ↓reduceIte, Bool.false_eq_true, Bool.not_true, Bool.not_false, Bool.and_true, Bool.true_and, Bool.and_false, Bool.false_and, Bool.or_true, Bool.true_or, Bool.or_false, Bool.false_or, decide_eq_true_eq, nex_ok, ofO_some, Sum.elim_inl, Sum.elim_inr, hm], w.n6, by simp, by simp; omega, fun i c h => by simp at h, rfl, by simp [nlat], by have := w.x; simp [nlat]; omega, by rw [List.length_map]; exact w.o0, by rw [List.length_map]; exact w.o6, fun o ho => ?_⟩
      obtain ⟨y, _, rfl⟩ := List.mem_map.mp ho
      have m1 := Int.emod_nonneg y (b := (n : Int)) (by omega)
      have m2 := Int.emod_lt_of_pos y (b := (n : Int)) (by omega)
      simp only [List.length_nil, Nat.add_zero]
      exact ⟨m1, m2⟩
    · exact ⟨cs, outs, h, by simp only [z, e, c, ok_bind, decide_true, decide_false, if_true, if_false, ↓reduceIte, Bool.false_eq_true, Bool.not_true, Bool.not_false, Bool.and_true, Bool.true_and, Bool.and_false, Bool.false_and, Bool.or_true, Bool.true_or, Bool.or_false, Bool.false_or, decide_eq_true_eq, nex_ok, ofO_some, Sum.elim_inl, Sum.elim_inr], w⟩
end K10
namespace K10
open PySem PV TM
def gate (k : Str) (bs : List Int) : Int := if k = S "tie0" then 0 else if k = S "tie1" then 1 else if k = S "nor2" ∨ k = S "nor3" then b2i (decide (bs.sum = 0)) else b2i (decide (bs.sum < (bs.length : Int)))
def Bits (xs : List Int) : Prop := ∀ x ∈ xs, x = 0 ∨ x = 1
theorem b2i_bit (b : Bool) : b2i b = 0 ∨ b2i b = 1 := by cases b <;> simp [b2i]
theorem gate_bit (k : Str) (bs : List Int) : gate k bs = 0 ∨ gate k bs = 1 := by
  unfold gate
  split
  · exact .inl rfl
  · split
    · exact .inr rfl
    · split <;> exact b2i_bit _
theorem gate_bits (k : Str) {bs : List Int} (hb : Bits bs) (hn : 0 < bs.length) : (bs.all fun v => decide (v = 1)) = decide (bs.sum = (bs.length : Int)) ∧ (bs.any fun v => decide (v = 1)) = !decide (bs.sum = 0) ∧ 0 ≤ bs.sum ∧ bs.sum ≤ bs.length := by
  clear hn
  induction bs with
  | nil => simp
  | cons x xs ih =>
    obtain ⟨h1, h2, h3, h4⟩ := ih fun y hy => hb y (List.mem_cons_of_mem _ hy)
    rcases hb x (List.mem_cons_self ..) with rfl | rfl
    · refine ⟨?_, ?_, ?_, ?_⟩
      · rw [List.all_cons, List.sum_cons, List.length_cons]
        simp only [show ¬ ((0 : Int) = 1) by omega, decide_false, Bool.false_and]
        exact (decide_eq_false (by omega)).symm
      · rw [List.any_cons, List.sum_cons, h2, Int.zero_add]
        simp
      · rw [List.sum_cons]; omega
      · rw [List.sum_cons, List.length_cons]; omega
    · refine ⟨?_, ?_, ?_, ?_⟩
      · rw [List.all_cons, List.sum_cons, List.length_cons, h1]
        simp only [decide_true, Bool.true_and]
        exact decide_eq_decide.mpr (by omega)
      · rw [List.any_cons, List.sum_cons]
        simp only [decide_true, Bool.true_or]
        have : decide (1 + xs.sum = 0) = false := decide_eq_false (by omega)
        rw [this]; rfl
      · rw [List.sum_cons]; omega
      · rw [List.sum_cons, List.length_cons]; omega
theorem law_value_ok (k : Str) (bs : List Int) (hka : KA k bs.length) : M_law_value k bs = .ok (gate k bs) := by
  unfold M_law_value gate
  rcases hka with ⟨rfl | rfl, _⟩ | ⟨rfl, _⟩ | ⟨rfl | rfl, _⟩ | ⟨rfl | rfl, _⟩ <;> simp only [ok_bind, decide_true, decide_false, if_true, if_false, ↓reduceIte, Bool.false_eq_true, Bool.not_true, Bool.not_false, Bool.and_true, Bool.true_and, Bool.and_false, Bool.false_and, Bool.or_true, Bool.true_or, Bool.or_false, Bool.false_or, decide_eq_true_eq, nex_ok, ofO_some, Sum.elim_inl, Sum.elim_inr, q_latch_latch, q_latch_tie0, q_latch_tie1, q_latch_not, q_latch_nand2, q_latch_nand3, q_latch_nor2, q_latch_nor3, q_tie0_latch, q_tie0_tie0, q_tie0_tie1, q_tie0_not, q_tie0_nand2, q_tie0_nand3, q_tie0_nor2, q_tie0_nor3, q_tie1_latch, q_tie1_tie0, q_tie1_tie1, q_tie1_not, q_tie1_nand2, q_tie1_nand3, q_tie1_nor2, q_tie1_nor3, q_not_latch, q_not_tie0, q_not_tie1, q_not_not, q_not_nand2, q_not_nand3, q_not_nor2, q_not_nor3, q_nand2_latch, q_nand2_tie0, q_nand2_tie1, q_nand2_not, q_nand2_nand2, q_nand2_nand3, q_nand2_nor2, q_nand2_nor3, q_nand3_latch, q_nand3_tie0, q_nand3_tie1, q_nand3_not, q_nand3_nand2, q_nand3_nand3, q_nand3_nor2, q_nand3_nor3, q_nor2_latch, q_nor2_tie0, q_nor2_tie1, q_nor2_not, q_nor2_nand2, q_nor2_nand3, q_nor2_nor2, q_nor2_nor3, q_nor3_latch, q_nor3_tie0, q_nor3_tie1, q_nor3_not, q_nor3_nand2, q_nor3_nand3, q_nor3_nor2, q_nor3_nor3, ct_latch, p_latch_tie, p_latch_nor, ct_tie0, p_tie0_tie, p_tie0_nor, la_tie0, l3_tie0, ct_tie1, p_tie1_tie, p_tie1_nor, la_tie1, l3_tie1, ct_not, p_not_tie, p_not_nor, ct_nand2, p_nand2_tie, p_nand2_nor, la_nand2, ct_nand3, p_nand3_tie, p_nand3_nor, la_nand3, ct_nor2, p_nor2_tie, p_nor2_nor, la_nor2, ct_nor3, p_nor3_tie, p_nor3_nor, la_nor3, n_0, n_1, n_2, n_3, or_true, or_false, or_self]
theorem tabIn_eq (k : Str) (r : Option Int) (h : mt_CONSTANTS.lookup k = some r) : tabIn mt_CONSTANTS k = .ok r.isSome := by unfold tabIn; rw [h]
theorem cell_value_ok (k : Str) (bs : List Int) (hb : Bits bs) (hka : KA k bs.length) : M_cell_value k bs = .ok (gate k bs) := by
  have hl : bs.length ≤ 16777216 := by rcases hka with ⟨_, h⟩ | ⟨_, h⟩ | ⟨_, h⟩ | ⟨_, h⟩ <;> omega
  have t0 := tabIn_eq (S "tie0") (some 0) (by decide +kernel)
  have t1 := tabIn_eq (S "tie1") (some 1) (by decide +kernel)
  have t2 := tabIn_eq (S "not") none (by decide +kernel)
  have t3 := tabIn_eq (S "nand2") none (by decide +kernel)
  have t4 := tabIn_eq (S "nand3") none (by decide +kernel)
  have t5 := tabIn_eq (S "nor2") none (by decide +kernel)
  have t6 := tabIn_eq (S "nor3") none (by decide +kernel)
  have g0 : tabGet mt_CONSTANTS (S "tie0") = .ok 0 := by unfold tabGet; rw [show mt_CONSTANTS.lookup (S "tie0") = some (some 0) by decide +kernel]
  have g1 : tabGet mt_CONSTANTS (S "tie1") = .ok 1 := by unfold tabGet; rw [show mt_CONSTANTS.lookup (S "tie1") = some (some 1) by decide +kernel]
  have ha : ∀ xs : List Int, ((xs.map fun v => decide (v = 1)).all id) = xs.all fun v => decide (v = 1) := fun xs => by rw [List.all_map]; rfl
  have hy : ∀ xs : List Int, ((xs.map fun v => decide (v = 1)).any id) = xs.any fun v => decide (v = 1) := fun xs => by rw [List.any_map]; rfl
  unfold M_cell_value gate
  rcases hka with ⟨rfl | rfl, hn⟩ | ⟨rfl, hn⟩ | ⟨rfl | rfl, hn⟩ | ⟨rfl | rfl, hn⟩
  · simp only [t0, g0, ok_bind, decide_true, decide_false, if_true, if_false, ↓reduceIte, Bool.false_eq_true, Bool.not_true, Bool.not_false, Bool.and_true, Bool.true_and, Bool.and_false, Bool.false_and, Bool.or_true, Bool.true_or, Bool.or_false, Bool.false_or, decide_eq_true_eq, nex_ok, ofO_some, Sum.elim_inl, Sum.elim_inr, q_latch_latch, q_latch_tie0, q_latch_tie1, q_latch_not, q_latch_nand2, q_latch_nand3, q_latch_nor2, q_latch_nor3, q_tie0_latch, q_tie0_tie0, q_tie0_tie1, q_tie0_not, q_tie0_nand2, q_tie0_nand3, q_tie0_nor2, q_tie0_nor3, q_tie1_latch, q_tie1_tie0, q_tie1_tie1, q_tie1_not, q_tie1_nand2, q_tie1_nand3, q_tie1_nor2, q_tie1_nor3, q_not_latch, q_not_tie0, q_not_tie1, q_not_not, q_not_nand2, q_not_nand3, q_not_nor2, q_not_nor3, q_nand2_latch, q_nand2_tie0, q_nand2_tie1, q_nand2_not, q_nand2_nand2, q_nand2_nand3, q_nand2_nor2, q_nand2_nor3, q_nand3_latch, q_nand3_tie0, q_nand3_tie1, q_nand3_not, q_nand3_nand2, q_nand3_nand3, q_nand3_nor2, q_nand3_nor3, q_nor2_latch, q_nor2_tie0, q_nor2_tie1, q_nor2_not, q_nor2_nand2, q_nor2_nand3, q_nor2_nor2, q_nor2_nor3, q_nor3_latch, q_nor3_tie0, q_nor3_tie1, q_nor3_not, q_nor3_nand2, q_nor3_nand3, q_nor3_nor2, q_nor3_nor3, ct_latch, p_latch_tie, p_latch_nor, ct_tie0, p_tie0_tie, p_tie0_nor, la_tie0, l3_tie0, ct_tie1, p_tie1_tie, p_tie1_nor, la_tie1, l3_tie1, ct_not, p_not_tie, p_not_nor, ct_nand2, p_nand2_tie, p_nand2_nor, la_nand2, ct_nand3, p_nand3_tie, p_nand3_nor, la_nand3, ct_nor2, p_nor2_tie, p_nor2_nor, la_nor2, ct_nor3, p_nor3_tie, p_nor3_nor, la_nor3, n_0, n_1, n_2, n_3, Option.isSome_some]
  · simp only [t1, g1, ok_bind, decide_true, decide_false, if_true, if_false, ↓reduceIte, Bool.false_eq_true, Bool.not_true, Bool.not_false, Bool.and_true, Bool.true_and, Bool.and_false, Bool.false_and, Bool.or_true, Bool.true_or, Bool.or_false, Bool.false_or, decide_eq_true_eq, nex_ok, ofO_some, Sum.elim_inl, Sum.elim_inr, q_latch_latch, q_latch_tie0, q_latch_tie1, q_latch_not, q_latch_nand2, q_latch_nand3, q_latch_nor2, q_latch_nor3, q_tie0_latch, q_tie0_tie0, q_tie0_tie1, q_tie0_not, q_tie0_nand2, q_tie0_nand3, q_tie0_nor2, q_tie0_nor3, q_tie1_latch, q_tie1_tie0, q_tie1_tie1, q_tie1_not, q_tie1_nand2, q_tie1_nand3, q_tie1_nor2, q_tie1_nor3, q_not_latch, q_not_tie0, q_not_tie1, q_not_not, q_not_nand2, q_not_nand3, q_not_nor2, q_not_nor3, q_nand2_latch, q_nand2_tie0, q_nand2_tie1, q_nand2_not, q_nand2_nand2, q_nand2_nand3, q_nand2_nor2, q_nand2_nor3, q_nand3_latch, q_nand3_tie0, q_nand3_tie1, q_nand3_not, q_nand3_nand2, q_nand3_nand3, q_nand3_nor2, q_nand3_nor3, q_nor2_latch, q_nor2_tie0, q_nor2_tie1, q_nor2_not, q_nor2_nand2, q_nor2_nand3, q_nor2_nor2, q_nor2_nor3, q_nor3_latch, q_nor3_tie0, q_nor3_tie1, q_nor3_not, q_nor3_nand2, q_nor3_nand3, q_nor3_nor2, q_nor3_nor3, ct_latch, p_latch_tie, p_latch_nor, ct_tie0, p_tie0_tie, p_tie0_nor, la_tie0, l3_tie0, ct_tie1, p_tie1_tie, p_tie1_nor, la_tie1, l3_tie1, ct_not, p_not_tie, p_not_nor, ct_nand2, p_nand2_tie, p_nand2_nor, la_nand2, ct_nand3, p_nand3_tie, p_nand3_nor, la_nand3, ct_nor2, p_nor2_tie, p_nor2_nor, la_nor2, ct_nor3, p_nor3_tie, p_nor3_nor, la_nor3, n_0, n_1, n_2, n_3, Option.isSome_some]
  all_goals (
    obtain ⟨q1, q2, q3, q4⟩ := gate_bits (S "not") hb (by omega)
    simp only [t2, t3, t4, t5, t6, ok_bind, decide_true, decide_false, if_true, if_false, ↓reduceIte, Bool.false_eq_true, Bool.not_true, Bool.not_false, Bool.and_true, Bool.true_and, Bool.and_false, Bool.false_and, Bool.or_true, Bool.true_or, Bool.or_false, Bool.false_or, decide_eq_true_eq, nex_ok, ofO_some, Sum.elim_inl, Sum.elim_inr, q_latch_latch, q_latch_tie0, q_latch_tie1, q_latch_not, q_latch_nand2, q_latch_nand3, q_latch_nor2, q_latch_nor3, q_tie0_latch, q_tie0_tie0, q_tie0_tie1, q_tie0_not, q_tie0_nand2, q_tie0_nand3, q_tie0_nor2, q_tie0_nor3, q_tie1_latch, q_tie1_tie0, q_tie1_tie1, q_tie1_not, q_tie1_nand2, q_tie1_nand3, q_tie1_nor2, q_tie1_nor3, q_not_latch, q_not_tie0, q_not_tie1, q_not_not, q_not_nand2, q_not_nand3, q_not_nor2, q_not_nor3, q_nand2_latch, q_nand2_tie0, q_nand2_tie1, q_nand2_not, q_nand2_nand2, q_nand2_nand3, q_nand2_nor2, q_nand2_nor3, q_nand3_latch, q_nand3_tie0, q_nand3_tie1, q_nand3_not, q_nand3_nand2, q_nand3_nand3, q_nand3_nor2, q_nand3_nor3, q_nor2_latch, q_nor2_tie0, q_nor2_tie1, q_nor2_not, q_nor2_nand2, q_nor2_nand3, q_nor2_nor2, q_nor2_nor3, q_nor3_latch, q_nor3_tie0, q_nor3_tie1, q_nor3_not, q_nor3_nand2, q_nor3_nand3, q_nor3_nor2, q_nor3_nor3, ct_latch, p_latch_tie, p_latch_nor, ct_tie0, p_tie0_tie, p_tie0_nor, la_tie0, l3_tie0, ct_tie1, p_tie1_tie, p_tie1_nor, la_tie1, l3_tie1, ct_not, p_not_tie, p_not_nor, ct_nand2, p_nand2_tie, p_nand2_nor, la_nand2, ct_nand3, p_nand3_tie, p_nand3_nor, la_nand3, ct_nor2, p_nor2_tie, p_nor2_nor, la_nor2, ct_nor3, p_nor3_tie, p_nor3_nor, la_nor3, n_0, n_1, n_2, n_3, Option.isSome_none, mk_NANDS, List.mem_cons, List.not_mem_nil, or_false, or_true, or_self, mapE_ok hl, ha, hy, q1, q2, Bool.not_not]
    try (rw [show (!decide (bs.sum = (bs.length : Int))) = decide (bs.sum < (bs.length : Int)) by
      rw [← decide_not]; exact decide_eq_decide.mpr (by omega)]))
/-! settled values -/
def stk (a v net x : Int) : Int := if net = a then v else x
def vals (a v : Int) : List Cel → List Int → List Int → List Int
  | [], vs, _ => vs
  | c :: cs, vs, sts => if isLat c = true then vals a v cs (vs ++ [stk a v c.2.2 (sts.headD 0)]) sts.tail else vals a v cs (vs ++ [stk a v c.2.2 (gate c.1 (c.2.1.map fun s => vs.getD s.toNat 0))]) sts
def StkOk (stuck : List (Int × Int)) (a v : Int) : Prop := ∀ net x, 0 ≤ net → (lookD stuck net).getD x = stk a v net x
theorem stk_nil : StkOk [] (-1) 0 := fun net x h => by
  unfold stk lookD
  rw [if_neg (by omega)]; rfl
theorem stk_one (a v : Int) : StkOk [(a, v)] a v := fun net x _ => by
  unfold stk lookD lookD
  by_cases c : a = net
  · rw [if_pos c, if_pos c.symm]; rfl
  · rw [if_neg c, if_neg fun z => c z.symm]; rfl
theorem stk_bit {a v net x : Int} (hv : v = 0 ∨ v = 1) (hx : x = 0 ∨ x = 1) : stk a v net x = 0 ∨ stk a v net x = 1 := by unfold stk; split <;> assumption
theorem Bits.app {xs : List Int} {x : Int} (h : Bits xs) (hx : x = 0 ∨ x = 1) : Bits (xs ++ [x]) := fun y hy => by
  rcases List.mem_append.mp hy with hy | hy
  · exact h y hy
  · rw [List.mem_singleton.mp hy]; exact hx
theorem Bits.getD {xs : List Int} (h : Bits xs) (k : Nat) : xs.getD k 0 = 0 ∨ xs.getD k 0 = 1 := by
  by_cases c : k < xs.length
  · rw [List.getD_eq_getElem?_getD, List.getElem?_eq_getElem c]; exact h _ (List.getElem_mem c)
  · rw [List.getD_eq_getElem?_getD, List.getElem?_eq_none (by omega)]; exact .inl rfl
theorem CsOk.hd {n : Nat} {total : Int} {c : Cel} {cs : List Cel} (h : CsOk n total (c :: cs)) : (c.2.2 = n ∧ CellOk total c) ∧ CsOk (n + 1) total cs := by
  refine ⟨?_, fun i d hd => ?_⟩
  · have := h 0 c rfl
    exact ⟨by omega, this.2⟩
  · have := h (i + 1) d (by simpa using hd)
    exact ⟨by omega, this.2⟩
theorem ix_vals {vs : List Int} {a : Int} (h0 : 0 ≤ a) (h : a < vs.length) : ixE vs a = .ok (vs.getD a.toNat 0) := by
  refine ixE_at h0 ?_
  rw [List.getD_eq_getElem?_getD, List.getElem?_eq_getElem (show a.toNat < vs.length by omega)]; rfl
theorem gate_in {total : Int} {c : Cel} (h : CellOk total c) (hl : isLat c = false) : KA c.1 c.2.1.length ∧ ∀ a ∈ c.2.1, 0 ≤ a ∧ a < c.2.2 := by
  rcases h with ⟨h, _⟩ | h
  · rw [isLat, decide_eq_true h] at hl; cases hl
  · exact h
theorem sv_loop (stuck : List (Int × Int)) (a v total : Int) (hs : StkOk stuck a v) (hv : v = 0 ∨ v = 1) : ∀ (cs : List Cel) (vs sts : List Int), CsOk vs.length total cs → vs.length + cs.length ≤ 1000 → nlat cs ≤ sts.length → Bits vs → Bits sts → ∃ sts', forE (B_settled_values_1 stuck) cs (vs, sts) = .ok (vals a v cs vs sts, sts')
  | [], vs, sts, _, _, _, _, _ => ⟨sts, rfl⟩
  | c :: cs, vs, sts, hc, hb, hn, hB, hS => by
    rw [List.length_cons] at hb
    obtain ⟨⟨h1, h2⟩, h3⟩ := hc.hd
    unfold forE vals
    cases hl : isLat c with
    | true =>
      have hk : c.1 = S "latch" := of_decide_eq_true hl
      have hn' : nlat cs + 1 ≤ sts.length := by
        unfold nlat at hn
        rw [List.filter_cons, hl, if_pos rfl, List.length_cons] at hn
        exact hn
      match sts, hn', hS with
      | s :: sts, hn', hS =>
        have e : B_settled_values_1 stuck (vs, s :: sts) c = .ok (vs ++ [stk a v c.2.2 s], sts) := by
          unfold B_settled_values_1
          simp (disch := omega) only [hk, ok_bind, decide_true, decide_false, if_true, if_false, ↓reduceIte, Bool.false_eq_true, Bool.not_true, Bool.not_false, Bool.and_true, Bool.true_and, Bool.and_false, Bool.false_and, Bool.or_true, Bool.true_or, Bool.or_false, Bool.false_or, decide_eq_true_eq, nex_ok, ofO_some, Sum.elim_inl, Sum.elim_inr, popE_0, hs _ _ (show 0 ≤ c.2.2 by omega), appE_ok]
        rw [e, ok_bind]
        simp only [if_true, List.headD_cons, List.tail_cons]
        exact sv_loop stuck a v total hs hv cs _ sts (by rw [List.length_append]; exact h3) (by rw [List.length_append, List.length_singleton]; omega) (by rw [List.length_cons] at hn'; omega) (hB.app (stk_bit hv (hS s (List.mem_cons_self ..)))) fun y hy => hS y (List.mem_cons_of_mem _ hy)
    | false =>
      obtain ⟨g1, g2⟩ := gate_in h2 hl
      have hk : ¬ c.1 = S "latch" := of_decide_eq_false hl
      have hm : comE (fun net_12 => ixE vs net_12) c.2.1 = .ok (c.2.1.map fun s => vs.getD s.toNat 0) := comE_ok (by rcases g1 with ⟨_, h⟩ | ⟨_, h⟩ | ⟨_, h⟩ | ⟨_, h⟩ <;> omega) fun y hy => ix_vals (g2 y hy).1 (by have := (g2 y hy).2; omega)
      have hcv := cell_value_ok c.1 (c.2.1.map fun s => vs.getD s.toNat 0) (fun y hy => by obtain ⟨s, _, rfl⟩ := List.mem_map.mp hy; exact hB.getD _) (by rw [List.length_map]; exact g1)
      have e : B_settled_values_1 stuck (vs, sts) c = .ok (vs ++ [stk a v c.2.2 (gate c.1 (c.2.1.map fun s => vs.getD s.toNat 0))], sts) := by
        unfold B_settled_values_1
        simp (disch := omega) only [hk, ok_bind, decide_true, decide_false, if_true, if_false, ↓reduceIte, Bool.false_eq_true, Bool.not_true, Bool.not_false, Bool.and_true, Bool.true_and, Bool.and_false, Bool.false_and, Bool.or_true, Bool.true_or, Bool.or_false, Bool.false_or, decide_eq_true_eq, nex_ok, ofO_some, Sum.elim_inl, Sum.elim_inr, hm, hcv, hs _ _ (show 0 ≤ c.2.2 by omega), appE_ok]
      rw [e, ok_bind]
      simp only [Bool.false_eq_true, if_false]
      exact sv_loop stuck a v total hs hv cs _ sts (by rw [List.length_append]; exact h3) (by rw [List.length_append, List.length_singleton]; omega) (by unfold nlat at hn; rw [List.filter_cons, hl, if_neg Bool.false_ne_true] at hn; exact hn) (hB.app (stk_bit hv (gate_bit _ _))) hS
theorem vals_len (a v : Int) : ∀ (cs : List Cel) (vs sts : List Int), (vals a v cs vs sts).length = vs.length + cs.length
  | [], vs, sts => rfl
  | c :: cs, vs, sts => by
    unfold vals
    split <;> (rw [vals_len, List.length_append, List.length_singleton, List.length_cons]; omega)
theorem vals_bits {a v : Int} (hv : v = 0 ∨ v = 1) : ∀ (cs : List Cel) (vs sts : List Int), Bits vs → Bits sts → Bits (vals a v cs vs sts)
  | [], vs, sts, h, _ => h
  | c :: cs, vs, sts, h, h2 => by
    unfold vals
    split
    · refine vals_bits hv cs _ _ (h.app (stk_bit hv ?_)) fun y hy => h2 y (List.mem_of_mem_tail hy)
      cases sts with
      | nil => exact .inl rfl
      | cons s sts => exact h2 s (List.mem_cons_self ..)
    · exact vals_bits hv cs _ _ (h.app (stk_bit hv (gate_bit _ _))) h2
def insV (a v : Int) (ins : List Int) : List Int := (enum ins).map fun p => stk a v p.1 p.2
theorem enum_len {α : Type} (xs : List α) : (enum xs).length = xs.length := by unfold enum; rw [List.length_map, List.length_zipIdx]
theorem enum_get {α : Type} {xs : List α} {i : Nat} {p : Int × α} (h : (enum xs)[i]? = some p) : p.1 = i ∧ xs[i]? = some p.2 := by
  unfold enum at h
  rw [List.getElem?_map] at h
  rw [List.getElem?_zipIdx] at h
  cases hx : xs[i]? with
  | none => rw [hx] at h; cases h
  | some x => rw [hx] at h; cases h; exact ⟨by simp, rfl⟩
theorem enum_at {α : Type} {xs : List α} {i : Nat} {x : α} (h : xs[i]? = some x) : (enum xs)[i]? = some ((i : Int), x) := by
  unfold enum
  rw [List.getElem?_map, List.getElem?_zipIdx, h]
  simp
theorem settled_ok (stuck : List (Int × Int)) (a v : Int) (hs : StkOk stuck a v) (hv : v = 0 ∨ v = 1) (n : Nat) (cs : List Cel) (outs h ins sts : List Int) (total : Int) (hc : CsOk n total cs) (hi : ins.length = n) (hb : n + cs.length ≤ 1000) (hn : nlat cs ≤ sts.length) (hI : Bits ins) (hS : Bits sts) : M_settled_values ((n : Int), cs, outs, h) ins sts stuck = .ok (vals a v cs (insV a v ins) sts) := by
  have hm : mapE (fun x_6 : Int × Int => (lookD stuck x_6.1).getD x_6.2) (enum ins) = .ok (insV a v ins) := by
    rw [mapE_ok (by rw [enum_len]; omega)]
    refine congrArg E.ok (List.map_congr_left fun p hp => ?_)
    obtain ⟨i, hi⟩ := List.getElem?_of_mem hp
    obtain ⟨h1, h2⟩ := enum_get hi
    exact hs _ _ (by omega)
  have hl : (insV a v ins).length = n := by unfold insV; rw [List.length_map, enum_len, hi]
  have hB : Bits (insV a v ins) := fun y hy => by
    obtain ⟨p, hp, rfl⟩ := List.mem_map.mp hy
    obtain ⟨i, hi⟩ := List.getElem?_of_mem hp
    exact stk_bit hv (hI _ (List.mem_of_getElem? (enum_get hi).2))
  obtain ⟨sts', e⟩ := sv_loop stuck a v total hs hv cs (insV a v ins) sts (by rw [hl]; exact hc) (by omega) hn hB hS
  unfold M_settled_values
  simp only [ok_bind, hm, e]
theorem latches_ok (n : Int) (cs : List Cel) (outs h : List Int) (hb : cs.length ≤ 1000) : M_latch_cells (n, cs, outs, h) = .ok (cs.filter isLat) := by
  unfold M_latch_cells
  rw [filE_ok (by dsimp only; omega), List.map_id']
  rfl
end K10
namespace K10
open PySem PV TM
/-- the bits of a number -/
def bitsL (n : Nat) (x : Int) : List Int := (nats n).map fun i => x / 2 ^ i.toNat % 2
theorem bitsL_len (n : Nat) (x : Int) : (bitsL n x).length = n := by unfold bitsL; rw [List.length_map, nats_len]
theorem bitsL_bits (n : Nat) (x : Int) : Bits (bitsL n x) := fun y hy => by
  obtain ⟨i, _, rfl⟩ := List.mem_map.mp hy
  exact Int.emod_two_eq _
theorem cut_to {α : Type} (xs : List α) (k : Nat) : cut xs none (some (k : Int)) = xs.take k := PV.cut_to xs k
theorem cut_from {α : Type} (xs : List α) (k : Nat) : cut xs (some (k : Int)) none = xs.drop k := PV.cut_from xs k
theorem pow_nat (n : Nat) : ((2 : Int) ^ n).toNat = 2 ^ n := by
  rw [show (2 : Int) ^ n = ((2 ^ n : Nat) : Int) by rw [Int.natCast_pow]; rfl, Int.toNat_natCast]
theorem pow_cast (n : Nat) : (2 : Int) ^ n = ((2 ^ n : Nat) : Int) := by rw [Int.natCast_pow]; rfl
theorem pow_le {n m : Nat} (h : n ≤ m) : (2 : Int) ^ n ≤ 2 ^ m := by
  rw [pow_cast, pow_cast]
  exact Int.ofNat_le.mpr (Nat.pow_le_pow_right (by omega) h)

theorem insV_set (a v : Int) (ins : List Int) : (if 0 ≤ a ∧ a < ins.length then ins.set a.toNat v else ins) = insV a v ins := by
  refine List.ext_getElem? fun i => ?_
  by_cases c : i < ins.length
  · have hg : ins[i]? = some ins[i] := List.getElem?_eq_getElem c
    have hr : (insV a v ins)[i]? = some (stk a v i ins[i]) := by
      unfold insV
      rw [List.getElem?_map, enum_at hg]; rfl
    rw [hr]
    unfold stk
    by_cases q : (i : Int) = a
    · subst q
      rw [if_pos ⟨by omega, by omega⟩, if_pos rfl, Int.toNat_natCast, List.getElem?_set_self c]
    · rw [if_neg q]
      split
      · rw [List.getElem?_set_ne (by omega), hg]
      · exact hg
  · rw [List.getElem?_eq_none (by split <;> (try rw [List.length_set]) <;> omega), List.getElem?_eq_none (by unfold insV; rw [List.length_map, enum_len]; omega)]
theorem lat_in {n : Nat} {total : Int} {cs : List Cel} (h : CsOk n total cs) {c : Cel} (hc : c ∈ cs.filter isLat) : ∃ a, c.2.1 = [a] ∧ 0 ≤ a ∧ a < total := by
  obtain ⟨h1, h2⟩ := List.mem_filter.mp hc
  obtain ⟨i, hi⟩ := List.getElem?_of_mem h1
  rcases (h i c hi).2 with ⟨_, h3⟩ | ⟨h3, _⟩
  · exact h3
  · exact absurd (of_decide_eq_true h2) h3.nl
theorem insV_len (a v : Int) (ins : List Int) : (insV a v ins).length = ins.length := by unfold insV; rw [List.length_map, enum_len]
theorem insV_bits {a v : Int} {ins : List Int} (hv : v = 0 ∨ v = 1) (h : Bits ins) : Bits (insV a v ins) := fun y hy => by
  obtain ⟨p, hp, rfl⟩ := List.mem_map.mp hy
  obtain ⟨i, hi⟩ := List.getElem?_of_mem hp
  exact stk_bit hv (h _ (List.mem_of_getElem? (enum_get hi).2))
theorem bit_count_ok (n : Nat) (cs : List Cel) (outs h : List Int) (hb : cs.length ≤ 1000) : M_bit_count ((n : Int), cs, outs, h) = .ok ((n + nlat cs : Nat) : Int) := by
  have hfl : ((cs.filter isLat).length : Int) = nlat cs := rfl
  unfold M_bit_count
  simp only [latches_ok _ _ _ _ hb, ok_bind, hfl]
  rfl
theorem case_count_ok (n : Nat) (cs : List Cel) (outs h : List Int) (hb : cs.length ≤ 1000) (hx : n + nlat cs ≤ 40) : M_case_count ((n : Int), cs, outs, h) = .ok (2 ^ (n + nlat cs)) := by
  unfold M_case_count
  simp (disch := omega) only [bit_count_ok n cs outs h hb, ok_bind, shlE_ok, Int.toNat_natCast, Int.one_mul]
theorem case_bits_ok (n : Nat) (cs : List Cel) (outs h : List Int) (hb : cs.length ≤ 1000) (hx : n + nlat cs ≤ 40) (x : Int) (h0 : 0 ≤ x) (h1 : x < 2 ^ (n + nlat cs)) : M_case_bits ((n : Int), cs, outs, h) x = .ok ((bitsL (n + nlat cs) x).take n, (bitsL (n + nlat cs) x).drop n) := by
  have hm : comE (fun k_8 => E.bind (shrE x k_8) fun t_9 => E.ok (Builtin.bitAnd t_9 1)) (nats (n + nlat cs)) = .ok (bitsL (n + nlat cs) x) := comE_ok (by rw [nats_len]; omega) fun i hi => by
    have := nats_mem.mp hi
    simp only [shrE_ok this.1, ok_bind]
    rw [bitAnd1 _ (Int.ediv_nonneg h0 (Int.pow_nonneg (by omega)))]
  unfold M_case_bits
  simp (disch := omega) only [ok_bind, decide_true, decide_false, if_true, if_false, ↓reduceIte, Bool.false_eq_true, Bool.not_true, Bool.not_false, Bool.and_true, Bool.true_and, Bool.and_false, Bool.false_and, Bool.or_true, Bool.true_or, Bool.or_false, Bool.false_or, decide_eq_true_eq, nex_ok, ofO_some, Sum.elim_inl, Sum.elim_inr, h0, case_count_ok n cs outs h hb hx, h1, bit_count_ok n cs outs h hb, rg1_nat, hm, cut_to, cut_from]
def ansV (a v : Int) (n : Nat) (cs : List Cel) (outs : List Int) (ins sts : List Int) : List Int :=
  outs.map (fun o => (vals a v cs (insV a v ins) sts).getD o.toNat 0) ++ (cs.filter isLat).map fun c => (vals a v cs (insV a v ins) sts).getD (c.2.1.headD 0).toNat 0
theorem answers_ok {n : Nat} {cs : List Cel} {outs h : List Int} {N C L X : Nat} (w : CW n cs outs h N C L X) (hN : N + C ≤ 1000) (hX : X ≤ 40) (stuck : List (Int × Int)) (a v : Int) (hs : StkOk stuck a v) (hv : v = 0 ∨ v = 1) (x : Int) (h0 : 0 ≤ x) (h1 : x < 2 ^ (n + nlat cs)) : M_answers ((n : Int), cs, outs, h) x stuck = .ok (ansV a v n cs outs ((bitsL (n + nlat cs) x).take n) ((bitsL (n + nlat cs) x).drop n)) := by
  have w1 := w.n6
  have w2 := w.cl
  have w3 := w.x
  have w4 := w.o6
  have hb : Bits (bitsL (n + nlat cs) x) := bitsL_bits _ _
  have hi : ((bitsL (n + nlat cs) x).take n).length = n := by rw [List.length_take, bitsL_len]; omega
  have hst : ((bitsL (n + nlat cs) x).drop n).length = nlat cs := by rw [List.length_drop, bitsL_len]; omega
  have e1 := case_bits_ok n cs outs h (by omega) (by omega) x h0 h1
  have bI : Bits ((bitsL (n + nlat cs) x).take n) := fun y hy => hb y (List.mem_of_mem_take hy)
  have bS : Bits ((bitsL (n + nlat cs) x).drop n) := fun y hy => hb y (List.mem_of_mem_drop hy)
  generalize (bitsL (n + nlat cs) x).take n = ins at *
  generalize (bitsL (n + nlat cs) x).drop n = sts at *
  have e2 := settled_ok stuck a v hs hv n cs outs h ins sts _ w.ok hi (by omega) (by omega) bI bS
  have hlen := vals_len a v cs (insV a v ins) sts
  rw [insV_len, hi] at hlen
  unfold M_answers ansV
  generalize vals a v cs (insV a v ins) sts = V at e2 hlen
  have hfl : (cs.filter isLat).length ≤ 40 := by show nlat cs ≤ 40; omega
  have e3 : comE (fun cell_7 : Cel => ixE cell_7.2.1 0) (cs.filter isLat) = .ok ((cs.filter isLat).map fun c => c.2.1.headD 0) := comE_ok (by omega) fun c hc => by
    obtain ⟨y, hy, _⟩ := lat_in w.ok hc
    rw [hy, ixE_0]; rfl
  have e4 : comE (fun net_10 => ixE V net_10) (outs ++ (cs.filter isLat).map fun c => c.2.1.headD 0) = .ok ((outs ++ (cs.filter isLat).map fun c => c.2.1.headD 0).map fun o => V.getD o.toNat 0) := comE_ok (by simp; omega) fun o ho => by
    rcases List.mem_append.mp ho with ho | ho
    · exact ix_vals (w.os o ho).1 (by rw [hlen]; exact (w.os o ho).2)
    · obtain ⟨c, hc, rfl⟩ := List.mem_map.mp ho
      obtain ⟨y, hy, y0, y1⟩ := lat_in w.ok hc
      rw [hy]
      exact ix_vals y0 (by rw [hlen]; exact y1)
  have e5 : catE outs ((cs.filter isLat).map fun c => c.2.1.headD 0) = .ok (outs ++ (cs.filter isLat).map fun c => c.2.1.headD 0) := catE_ok (by rw [List.length_map]; omega)
  simp only [e1, ok_bind, e2, latches_ok _ _ _ _ (show cs.length ≤ 1000 by omega), e3, e5, e4, List.map_append, List.map_map]
  rfl
theorem mem_pow {n : Nat} {x : Int} (h : x ∈ nats (2 ^ n)) : 0 ≤ x ∧ x < 2 ^ n := by
  have := nats_mem.mp h
  rw [pow_cast]
  exact this
def okFlaw (n : Nat) (cs : List Cel) (f : Int × Int) : Prop := (0 ≤ f.1 ∧ f.1 < ((n + cs.length : Nat) : Int)) ∧ (f.2 = 0 ∨ f.2 = 1)
theorem check_flaw_ok {n : Nat} {cs : List Cel} {outs h : List Int} {f : Int × Int} (hf : okFlaw n cs f) : M_check_flaw ((n : Int), cs, outs, h) f = .ok () := by
  obtain ⟨⟨h1, h2⟩, h3⟩ := hf
  have h2' : f.1 < (n : Int) + cs.length := by omega
  have h3' : f.2 ∈ [(0 : Int), 1] := by rcases h3 with h | h <;> simp [h]
  unfold M_check_flaw
  simp only [ok_bind, decide_true, decide_false, if_true, if_false, ↓reduceIte, Bool.false_eq_true, Bool.not_true, Bool.not_false, Bool.and_true, Bool.true_and, Bool.and_false, Bool.false_and, Bool.or_true, Bool.true_or, Bool.or_false, Bool.false_or, decide_eq_true_eq, nex_ok, ofO_some, Sum.elim_inl, Sum.elim_inr, h1, h2', h3']
end K10
namespace K10
open PySem PV TM
theorem ix1 : ∀ k : Nat, k ≤ 6 → ([1, 2, 4, 8, 16, 32, 64] : List Int)[k]? = some ((2 : Int) ^ k) := by decide
theorem ix2 : ∀ k : Nat, k ≤ 6 → ([2, 4, 8, 16, 32, 64, 128] : List Int)[k]? = some ((2 : Int) ^ (k + 1)) := by decide
theorem p2_lt : ∀ k : Nat, k ≤ 7 → 0 < (2 : Int) ^ k ∧ (2 : Int) ^ k < 2 ^ 64 := by decide
theorem d_k (x : Int) (k : Nat) (h : k ≤ 7) : divE x ((2 : Int) ^ k) = .ok (x / 2 ^ k) := divE_ok (p2_lt k h).1 (p2_lt k h).2
theorem bit_eq (x : Int) (k : Nat) : x / 2 ^ k - x / 2 ^ (k + 1) * 2 = x / 2 ^ k % 2 := by
  have hp : (0 : Int) < 2 ^ k := Int.pow_pos (by omega)
  rw [Int.pow_succ, ← Int.ediv_ediv_of_nonneg (by omega)]
  omega
theorem bits_at (M k : Nat) (x : Int) (h : k < M) : (bitsL M x)[k]? = some (x / 2 ^ k % 2) := by
  unfold bitsL; rw [List.getElem?_map, nats_get h, Option.map_some, Int.toNat_natCast]
theorem bits_drop (M k : Nat) (x : Int) (h : k < M) : (bitsL M x).drop k = x / 2 ^ k % 2 :: (bitsL M x).drop (k + 1) := by
  rw [List.drop_eq_getElem_cons (by rw [bitsL_len]; exact h)]
  have := bits_at M k x h
  rw [List.getElem?_eq_getElem (by rw [bitsL_len]; exact h)] at this
  rw [Option.some.inj this]
theorem bits_take (n l : Nat) (x : Int) : (bitsL (n + l) x).take n = bitsL n x := by
  unfold bitsL nats
  rw [← List.map_take, ← List.map_take, List.take_range, show min n (n + l) = n by omega]
theorem la_ins (x : Int) (n : Nat) (hn : n ≤ 7) : forE (B_law_answers_2 x) (nats n) [] = .ok (bitsL n x) := by
  refine (forE_app (s := []) (g := fun i => x / 2 ^ i.toNat % 2) (by rw [nats_len]; simp; omega) fun s k hk => ?_).trans (by rw [List.nil_append]; rfl)
  obtain ⟨h0, h1⟩ := nats_mem.mp hk
  obtain ⟨k, rfl⟩ := Int.eq_ofNat_of_zero_le h0
  unfold B_law_answers_2
  simp only [ixE_nat (ix1 k (by omega)), ixE_nat (ix2 k (by omega)), ok_bind, d_k x k (by omega), d_k x (k + 1) (by omega), bit_eq, bind_ok_r, Int.toNat_natCast]
theorem la_loop (x a v total : Int) (M : Nat) (hM : M ≤ 7) : ∀ (cs : List Cel) (vs : List Int) (k : Nat), CsOk vs.length total cs → vs.length + cs.length ≤ 1000 → k + nlat cs ≤ M → ∃ k', forE (B_law_answers_1 x a v) cs (vs, (k : Int)) = .ok (vals a v cs vs ((bitsL M x).drop k), k')
  | [], vs, k, _, _, _ => ⟨k, rfl⟩
  | c :: cs, vs, k, hc, hb, hn => by
    rw [List.length_cons] at hb
    obtain ⟨⟨h1, h2⟩, h3⟩ := hc.hd
    have fin : ∀ (y : Int) (k' : Int), (if c.2.2 = a then E.bind (setE (vs ++ [y]) a v) fun nets_22 => E.ok (nets_22, k') else E.ok (vs ++ [y], k')) = .ok (vs ++ [stk a v c.2.2 y], k') := fun y k' => by
      unfold stk
      by_cases q : c.2.2 = a
      · rw [if_pos q, if_pos q, ← q, h1, setE_nat (by simp), ok_bind]
        rw [List.set_append_right _ _ (Nat.le_refl _), Nat.sub_self]; rfl
      · rw [if_neg q, if_neg q]
    unfold forE vals
    cases hl : isLat c with
    | true =>
      have hk : c.1 = S "latch" := of_decide_eq_true hl
      have hn' : k + 1 + nlat cs ≤ M := by
        unfold nlat at hn
        rw [List.filter_cons, hl, if_pos rfl, List.length_cons] at hn
        unfold nlat; omega
      have e : B_law_answers_1 x a v (vs, (k : Int)) c = .ok (vs ++ [stk a v c.2.2 (x / 2 ^ k % 2)], (k : Int) + 1) := by
        unfold B_law_answers_1
        have ha : appE vs (x / 2 ^ k % 2) = .ok (vs ++ [x / 2 ^ k % 2]) := appE_ok (by omega)
        simp only [hk, ok_bind, decide_true, decide_false, if_true, if_false, ↓reduceIte, Bool.false_eq_true, Bool.not_true, Bool.not_false, Bool.and_true, Bool.true_and, Bool.and_false, Bool.false_and, Bool.or_true, Bool.true_or, Bool.or_false, Bool.false_or, decide_eq_true_eq, nex_ok, ofO_some, Sum.elim_inl, Sum.elim_inr, ixE_nat (ix1 k (by omega)), ixE_nat (ix2 k (by omega)), d_k x k (by omega), d_k x (k + 1) (by omega), bit_eq, ha]
        exact fin _ _
      rw [e, ok_bind, bits_drop M k x (by omega)]
      simp only [if_true, List.headD_cons, List.tail_cons]
      exact la_loop x a v total M hM cs _ (k + 1) (by rw [List.length_append]; exact h3) (by rw [List.length_append, List.length_singleton]; omega) hn'
    | false =>
      obtain ⟨g1, g2⟩ := gate_in h2 hl
      have hk : ¬ c.1 = S "latch" := of_decide_eq_false hl
      have hm : comE (fun source_29 => ixE vs source_29) c.2.1 = .ok (c.2.1.map fun s => vs.getD s.toNat 0) := comE_ok (by rcases g1 with ⟨_, h⟩ | ⟨_, h⟩ | ⟨_, h⟩ | ⟨_, h⟩ <;> omega) fun y hy => ix_vals (g2 y hy).1 (by have := (g2 y hy).2; omega)
      have hcv := law_value_ok c.1 (c.2.1.map fun s => vs.getD s.toNat 0) (by rw [List.length_map]; exact g1)
      have e : B_law_answers_1 x a v (vs, (k : Int)) c = .ok (vs ++ [stk a v c.2.2 (gate c.1 (c.2.1.map fun s => vs.getD s.toNat 0))], (k : Int)) := by
        unfold B_law_answers_1
        simp (disch := omega) only [hk, ok_bind, decide_true, decide_false, if_true, if_false, ↓reduceIte, Bool.false_eq_true, Bool.not_true, Bool.not_false, Bool.and_true, Bool.true_and, Bool.and_false, Bool.false_and, Bool.or_true, Bool.true_or, Bool.or_false, Bool.false_or, decide_eq_true_eq, nex_ok, ofO_some, Sum.elim_inl, Sum.elim_inr, hm, hcv, appE_ok]
        exact fin _ _
      rw [e, ok_bind]
      simp only [Bool.false_eq_true, if_false]
      exact la_loop x a v total M hM cs _ k (by rw [List.length_append]; exact h3) (by rw [List.length_append, List.length_singleton]; omega) (by unfold nlat at hn; rw [List.filter_cons, hl, if_neg Bool.false_ne_true] at hn; exact hn)
def ansX (n : Nat) (cs : List Cel) (outs : List Int) (f : Int × Int) (x : Int) : List Int := ansV f.1 f.2 n cs outs ((bitsL (n + nlat cs) x).take n) ((bitsL (n + nlat cs) x).drop n)
theorem law_answers_ok {n : Nat} {cs : List Cel} {outs h : List Int} (w : CW n cs outs h 6 8 2 6) (a v : Int) (x : Int) : M_law_answers ((n : Int), cs, outs, h) x a v = .ok (ansX n cs outs (a, v) x) := by
  have w1 := w.n6
  have w2 := w.cl
  have w3 := w.x
  have w4 := w.o6
  have e1 := la_ins x n (by omega)
  have hset : ∀ s : List Int, s.length = n → (if ((decide (a ≥ 0)) && (decide (a < (n : Int)))) = true then (E.bind (setE s a v) fun nets_17 => (E.ok nets_17)) else (E.ok s)) = .ok (insV a v s) := fun s hs => by
    rw [← insV_set]
    by_cases q : 0 ≤ a ∧ a < (n : Int)
    · rw [if_pos (by simp [q.1, q.2]), if_pos (by rw [hs]; exact q), setE_ok q.1 (by rw [hs]; exact q.2)]; rfl
    · rw [if_neg (by simpa using fun z => by omega), if_neg (by rw [hs]; exact q)]
  have e2 := hset (bitsL n x) (bitsL_len _ _)
  have hlen := vals_len a v cs (insV a v (bitsL n x)) ((bitsL (n + nlat cs) x).drop n)
  rw [insV_len, bitsL_len] at hlen
  obtain ⟨k', e3⟩ := la_loop x a v _ (n + nlat cs) (by omega) cs (insV a v (bitsL n x)) n (by rw [insV_len, bitsL_len]; exact w.ok) (by rw [insV_len, bitsL_len]; omega) (Nat.le_refl _)
  unfold ansX ansV
  rw [bits_take]
  generalize vals a v cs (insV a v (bitsL n x)) ((bitsL (n + nlat cs) x).drop n) = V at e3 hlen
  have hfl : (cs.filter isLat).length ≤ 40 := by show nlat cs ≤ 40; omega
  have e4 : compE (β := Int) (fun cell_38 : Cel => (E.ok (decide ((cell_38.1) = (S "latch"))))) (fun cell_38 => (ixE (cell_38.2.1) 0)) cs = .ok ((cs.filter isLat).map fun c => c.2.1.headD 0) := compE_ok (by omega) (fun _ _ => rfl) fun c hc hl => by
    obtain ⟨y, hy, _⟩ := lat_in w.ok (List.mem_filter.mpr ⟨hc, hl⟩)
    rw [hy, ixE_0]; rfl
  have e6 : comE (fun end_40 => ixE V end_40) (outs ++ (cs.filter isLat).map fun c => c.2.1.headD 0) = .ok ((outs ++ (cs.filter isLat).map fun c => c.2.1.headD 0).map fun o => V.getD o.toNat 0) := comE_ok (by simp; omega) fun o ho => by
    rcases List.mem_append.mp ho with ho | ho
    · exact ix_vals (w.os o ho).1 (by rw [hlen]; exact (w.os o ho).2)
    · obtain ⟨c, hc, rfl⟩ := List.mem_map.mp ho
      obtain ⟨y, hy, y0, y1⟩ := lat_in w.ok hc
      rw [hy]
      exact ix_vals y0 (by rw [hlen]; exact y1)
  have e5 : catE outs ((cs.filter isLat).map fun c => c.2.1.headD 0) = .ok (outs ++ (cs.filter isLat).map fun c => c.2.1.headD 0) := catE_ok (by rw [List.length_map]; omega)
  unfold M_law_answers
  simp only [ok_bind, rg1_nat (show (n : Int) < 2 ^ 62 by omega), e1, e2, e3, e4, e5, e6, List.map_append, List.map_map]
  rfl
def PX (n : Nat) (cs : List Cel) (outs : List Int) (x : Int) (f : Int × Int) : Bool := !decide (ansX n cs outs f x = ansX n cs outs (-1, 0) x)
theorem shows_ok {n : Nat} {cs : List Cel} {outs h : List Int} (w : CW n cs outs h 6 8 2 6) (f : Int × Int) (hf : okFlaw n cs f) (x : Int) (x0 : 0 ≤ x) (x1 : x < 2 ^ (n + nlat cs)) : M_shows ((n : Int), cs, outs, h) f x = .ok (PX n cs outs x f) := by
  have e1 := answers_ok w (by omega) (by omega) [(f.1, f.2)] f.1 f.2 (stk_one _ _) hf.2 _ x0 x1
  have e2 := answers_ok w (by omega) (by omega) [] (-1) 0 stk_nil (.inl rfl) _ x0 x1
  unfold M_shows
  simp only [check_flaw_ok hf, ok_bind, e1, e2]
  rfl
end K10
namespace K10
open PySem PV TM
abbrev Fl2 := Int × Int
theorem memB_iff {α : Type} [DecidableEq α] {x : α} {xs : List α} : memB x xs = true ↔ x ∈ xs := decide_eq_true_iff
def flawsL (K : Nat) : List Fl2 := (nats K).flatMap fun net => [(net, 0), (net, 1)]
theorem flawsL_succ (K : Nat) : flawsL (K + 1) = flawsL K ++ [((K : Int), 0), ((K : Int), 1)] := by
  unfold flawsL; rw [nats_succ, List.flatMap_append]; simp
theorem flawsL_len : ∀ K : Nat, (flawsL K).length = 2 * K
  | 0 => rfl
  | K + 1 => by rw [flawsL_succ, List.length_append, flawsL_len K]; simp; omega
theorem flawsL_mem {K : Nat} {f : Fl2} (h : f ∈ flawsL K) : (0 ≤ f.1 ∧ f.1 < (K : Int)) ∧ (f.2 = 0 ∨ f.2 = 1) := by
  obtain ⟨net, hn, hf⟩ := List.mem_flatMap.mp h
  have := nats_mem.mp hn
  simp only [List.mem_cons, List.not_mem_nil, or_false] at hf
  rcases hf with rfl | rfl
  · exact ⟨this, .inl rfl⟩
  · exact ⟨this, .inr rfl⟩
theorem comp2_pairs : ∀ xs : List Int, comp2G (fun _ => E.ok true) (fun _ => E.ok [(0 : Int), 1]) (fun _ _ => E.ok true) (fun x y => E.ok (x, y)) xs = .ok (xs.flatMap fun net => [(net, 0), (net, 1)])
  | [] => rfl
  | x :: xs => by
    unfold comp2G
    dsimp only
    rw [comp2_pairs xs, show compG (fun _ : Int => E.ok true) (fun y => E.ok (x, y)) [(0 : Int), 1] = .ok [(x, 0), (x, 1)] from rfl]
    rfl
theorem all_flaws_ok {n : Nat} {cs : List Cel} {outs h : List Int} (hb : n + cs.length ≤ 1000) : M_all_flaws ((n : Int), cs, outs, h) = .ok (flawsL (n + cs.length)) := by
  unfold M_all_flaws
  have e1 : rg1 ((n : Int) + (cs.length : Int)) = .ok (nats (n + cs.length)) := by rw [show (n : Int) + (cs.length : Int) = ((n + cs.length : Nat) : Int) by omega, rg1_nat (by omega)]
  simp only [e1, ok_bind]
  refine comp2E_ok (comp2_pairs _) ?_
  rw [flawsL_len]; omega
theorem okF {n : Nat} {cs : List Cel} {f : Fl2} (h : f ∈ flawsL (n + cs.length)) : okFlaw n cs f := flawsL_mem h
def shownL (n : Nat) (cs : List Cel) (outs : List Int) : List (List Fl2) := (nats (2 ^ (n + nlat cs))).map fun x => (flawsL (n + cs.length)).filter (PX n cs outs x)
theorem pow6 {k : Nat} (h : k ≤ 6) : 2 ^ k ≤ 64 := Nat.le_trans (Nat.pow_le_pow_right (by omega) h) (by decide)
theorem cases_ok {n : Nat} {cs : List Cel} {outs h : List Int} (w : CW n cs outs h 6 8 2 6) : E.bind (M_case_count ((n : Int), cs, outs, h)) (fun t => rg1 t) = .ok (nats (2 ^ (n + nlat cs))) := by
  have w3 := w.x
  have := pow6 w3
  rw [case_count_ok n cs outs h (by have := w.cl; omega) (by omega), ok_bind, pow_cast, rg1_nat (by omega)]
theorem size_ok {n : Nat} {cs : List Cel} {outs h : List Int} (w : CW n cs outs h 6 8 2 6) : M_check_size ((n : Int), cs, outs, h) = .ok () := by
  have w3 := w.x
  have := pow6 w3
  unfold M_check_size
  have hle : ¬ ((2 : Int) ^ (n + nlat cs) > mk_MOST_CASES) := by
    rw [pow_cast]
    show ¬ ((64 : Int) < _)
    omega
  simp only [case_count_ok n cs outs h (by have := w.cl; omega) (by omega), ok_bind, hle, ok_bind, decide_true, decide_false, if_true, if_false, ↓reduceIte, Bool.false_eq_true, Bool.not_true, Bool.not_false, Bool.and_true, Bool.true_and, Bool.and_false, Bool.false_and, Bool.or_true, Bool.true_or, Bool.or_false, Bool.false_or, decide_eq_true_eq, nex_ok, ofO_some, Sum.elim_inl, Sum.elim_inr]
theorem prog_shown {n : Nat} {cs : List Cel} {outs h : List Int} (w : CW n cs outs h 6 8 2 6) : forE (B_make_tests_2 ((n : Int), cs, outs, h)) (nats (2 ^ (n + nlat cs))) [] = .ok (shownL n cs outs) := by
  have w1 := w.n6
  have w2 := w.cl
  have w3 := w.x
  have := pow6 w3
  refine (forE_app (s := []) (by rw [nats_len]; simp; omega) fun s x hx => ?_).trans (by rw [List.nil_append]; rfl)
  obtain ⟨q1, q2⟩ := mem_pow hx
  have e : compE (β := (Int × Int)) (fun flaw_8 => M_shows ((n : Int), cs, outs, h) flaw_8 x) (fun flaw_8 => (E.ok flaw_8)) (flawsL (n + cs.length)) = .ok (((flawsL (n + cs.length)).filter (PX n cs outs x)).map id) := compE_ok (by rw [flawsL_len]; omega) (fun f hf => shows_ok w f (okF hf) x q1 q2) fun f _ _ => rfl
  rw [List.map_id] at e
  unfold B_make_tests_2
  simp only [all_flaws_ok (show n + cs.length ≤ 1000 by omega), ok_bind, e, bind_ok_r]
theorem forE_two {σ : Type} (f : σ → Int → E σ) (s : σ) : forE f (nats 2) s = (f s 0).bind fun s1 => f s1 1 := by
  show forE f [0, 1] s = _
  unfold forE
  cases f s 0 with
  | ok s1 => show (f s1 1).bind _ = f s1 1; cases f s1 1 <;> rfl
  | ex e => rfl
  | st => rfl
theorem rg2two : rg1 2 = .ok (nats 2) := rg1_nat (n := 2) (by omega)
theorem law_row {n : Nat} {cs : List Cel} {outs h : List Int} (w : CW n cs outs h 6 8 2 6) (x : Int) : forE (B_law_shown_2 ((n : Int), cs, outs, h) x (ansX n cs outs (-1, 0) x)) (nats (n + cs.length)) [] = .ok ((flawsL (n + cs.length)).filter (PX n cs outs x)) := by
  have w1 := w.n6
  have w2 := w.cl
  obtain ⟨s', e, q⟩ := forE_inv0 (fun j (s : List Fl2) => s = (flawsL j).filter (PX n cs outs x)) (f := B_law_shown_2 ((n : Int), cs, outs, h) x (ansX n cs outs (-1, 0) x)) (xs := nats (n + cs.length)) (s := []) rfl (by
    intro i net s hx hs
    obtain ⟨hi, rfl⟩ := nats_at hx
    have hl : s.length ≤ 28 := by
      rw [hs]
      refine Nat.le_trans (List.length_filter_le _ _) ?_
      rw [flawsL_len]; omega
    have one : ∀ (v : Int) (s : List Fl2), s.length ≤ 29 → B_law_shown_1 ((n : Int), cs, outs, h) x i (ansX n cs outs (-1, 0) x) s v = .ok (s ++ [((i : Int), v)].filter (PX n cs outs x)) := fun v s hl => by
      have ha : appE s ((i : Int), v) = .ok (s ++ [((i : Int), v)]) := appE_ok (by omega)
      unfold B_law_shown_1
      simp only [law_answers_ok w, ok_bind, ha]
      unfold PX
      cases hd : decide (ansX n cs outs ((i : Int), v) x = ansX n cs outs (-1, 0) x) with
      | true => simp only [List.filter_cons, hd, ok_bind, decide_true, decide_false, if_true, if_false, ↓reduceIte, Bool.false_eq_true, Bool.not_true, Bool.not_false, Bool.and_true, Bool.true_and, Bool.and_false, Bool.false_and, Bool.or_true, Bool.true_or, Bool.or_false, Bool.false_or, decide_eq_true_eq, nex_ok, ofO_some, Sum.elim_inl, Sum.elim_inr, List.filter_nil, List.append_nil]
      | false => simp only [List.filter_cons, hd, ok_bind, decide_true, decide_false, if_true, if_false, ↓reduceIte, Bool.false_eq_true, Bool.not_true, Bool.not_false, Bool.and_true, Bool.true_and, Bool.and_false, Bool.false_and, Bool.or_true, Bool.true_or, Bool.or_false, Bool.false_or, decide_eq_true_eq, nex_ok, ofO_some, Sum.elim_inl, Sum.elim_inr, List.filter_nil]
    refine ⟨_, ?_, rfl⟩
    unfold B_law_shown_2
    simp only [rg2two, ok_bind, forE_two, bind_ok_r]
    rw [one 0 s (by omega), ok_bind, one 1 _ (by rw [List.length_append]; have := List.length_filter_le (PX n cs outs x) [((i : Int), (0 : Int))]; simp only [List.length_singleton] at this; omega), flawsL_succ, List.filter_append, hs, List.append_assoc, ← List.filter_append]
    rfl)
  rw [nats_len] at q
  rw [e, q]
theorem law_cases_ok {n : Nat} {cs : List Cel} {outs h : List Int} (w : CW n cs outs h 6 8 2 6) : E.bind (M_law_cases ((n : Int), cs, outs, h)) (fun t => rg1 t) = .ok (nats (2 ^ (n + nlat cs))) := by
  have w1 := w.n6
  have w2 := w.cl
  have w3 := w.x
  have := pow6 w3
  have ef : filE (β := Int) (fun cell_3 : Cel => (decide ((cell_3.1) = (S "latch")))) (fun cell_3 => 1) cs = .ok ((cs.filter isLat).map fun _ => 1) := filE_ok (by omega)
  have el : (((cs.filter isLat).map fun _ => (1 : Int)).length : Int) = (nlat cs : Int) := by rw [List.length_map]; rfl
  have er : rg1 ((n : Int) + (nlat cs : Int)) = .ok (nats (n + nlat cs)) := by rw [show (n : Int) + (nlat cs : Int) = ((n + nlat cs : Nat) : Int) by omega, rg1_nat (by omega)]
  obtain ⟨s', e, q⟩ := forE_inv0 (fun j (s : Int) => s = 2 ^ j) (f := B_law_cases_1) (xs := nats (n + nlat cs)) (s := 1) rfl (by
    intro i k s _ hs
    refine ⟨s * 2, rfl, ?_⟩
    rw [hs, Int.pow_succ])
  rw [nats_len] at q
  unfold M_law_cases
  simp only [ok_bind, ef, el, er, e, q]
  rw [pow_cast, rg1_nat (by omega)]
theorem law_shown_ok {n : Nat} {cs : List Cel} {outs h : List Int} (w : CW n cs outs h 6 8 2 6) : M_law_shown ((n : Int), cs, outs, h) = .ok (shownL n cs outs) := by
  have w1 := w.n6
  have w2 := w.cl
  have w3 := w.x
  have := pow6 w3
  have er : rg1 ((n : Int) + (cs.length : Int)) = .ok (nats (n + cs.length)) := by rw [show (n : Int) + (cs.length : Int) = ((n + cs.length : Nat) : Int) by omega, rg1_nat (by omega)]
  have e : forE (B_law_shown_3 ((n : Int), cs, outs, h)) (nats (2 ^ (n + nlat cs))) [] = .ok (shownL n cs outs) := by
    refine (forE_app (s := []) (by rw [nats_len]; simp; omega) fun s x hx => ?_).trans (by rw [List.nil_append]; rfl)
    unfold B_law_shown_3
    simp only [law_answers_ok w, ok_bind, er, law_row w, bind_ok_r]
  unfold M_law_shown
  simp only [ok_bind, law_cases_ok w, e]
/-! the hidden ones -/
theorem first_ok {n : Nat} {cs : List Cel} {outs h : List Int} (w : CW n cs outs h 6 8 2 6) (f : Fl2) (hf : okFlaw n cs f) : M_first_case ((n : Int), cs, outs, h) f = .ok ((nats (2 ^ (n + nlat cs))).find? fun x => PX n cs outs x f) := by
  have lp : ∀ xs : List Int, (∀ x ∈ xs, 0 ≤ x ∧ x < 2 ^ (n + nlat cs)) → E.bind (forR (σ := Unit) (ρ := (Option Int)) (B_first_case_1 ((n : Int), cs, outs, h) f) xs ()) (Sum.elim (fun s_12 => (E.ok none)) (fun r_14 => E.ok r_14)) = .ok (xs.find? fun x => PX n cs outs x f) := by
    intro xs
    induction xs with
    | nil => intro _; rfl
    | cons x xs ih =>
      intro hx
      have hx0 := hx x (List.mem_cons_self ..)
      have es := shows_ok w f hf x hx0.1 hx0.2
      unfold forR
      rw [List.find?_cons]
      unfold B_first_case_1
      cases hp : PX n cs outs x f with
      | true => simp only [es, ok_bind, hp, ok_bind, decide_true, decide_false, if_true, if_false, ↓reduceIte, Bool.false_eq_true, Bool.not_true, Bool.not_false, Bool.and_true, Bool.true_and, Bool.and_false, Bool.false_and, Bool.or_true, Bool.true_or, Bool.or_false, Bool.false_or, decide_eq_true_eq, nex_ok, ofO_some, Sum.elim_inl, Sum.elim_inr]; rfl
      | false =>
        simp only [es, ok_bind, hp, ok_bind, decide_true, decide_false, if_true, if_false, ↓reduceIte, Bool.false_eq_true, Bool.not_true, Bool.not_false, Bool.and_true, Bool.true_and, Bool.and_false, Bool.false_and, Bool.or_true, Bool.true_or, Bool.or_false, Bool.false_or, decide_eq_true_eq, nex_ok, ofO_some, Sum.elim_inl, Sum.elim_inr]
        exact ih fun y hy => hx y (List.mem_cons_of_mem _ hy)
  unfold M_first_case
  simp only [size_ok w, ok_bind, check_flaw_ok hf, cases_ok w]
  exact lp _ fun x hx => mem_pow hx
def QX (n : Nat) (cs : List Cel) (outs : List Int) (f : Fl2) : Bool := ((nats (2 ^ (n + nlat cs))).find? fun x => PX n cs outs x f).isNone
theorem hidden_ok {n : Nat} {cs : List Cel} {outs h : List Int} (w : CW n cs outs h 6 8 2 6) : M_hidden_flaws ((n : Int), cs, outs, h) = .ok ((flawsL (n + cs.length)).filter (QX n cs outs)) := by
  have w1 := w.n6
  have w2 := w.cl
  have e : compE (β := (Int × Int)) (fun flaw_3 => (E.bind (M_first_case ((n : Int), cs, outs, h) flaw_3) fun t_4 => (E.ok (t_4.isNone)))) (fun flaw_3 => (E.ok flaw_3)) (flawsL (n + cs.length)) = .ok (((flawsL (n + cs.length)).filter (QX n cs outs)).map id) := compE_ok (by rw [flawsL_len]; omega) (fun f hf => by rw [first_ok w f (okF hf)]; rfl) fun f _ _ => rfl
  rw [List.map_id] at e
  unfold M_hidden_flaws
  simp only [size_ok w, ok_bind, all_flaws_ok (show n + cs.length ≤ 1000 by omega), e]
def RX (S0 : List (List Fl2)) (f : Fl2) : Bool := decide ((((S0.filter fun row => memB f row).length : Nat) : Int) = 0)
theorem law_hidden_ok {n : Nat} {cs : List Cel} {outs h : List Int} (w : CW n cs outs h 6 8 2 6) (S0 : List (List Fl2)) (hS : S0.length ≤ 64) : M_law_hidden ((n : Int), cs, outs, h) S0 = .ok ((flawsL (n + cs.length)).filter (RX S0)) := by
  have w1 := w.n6
  have w2 := w.cl
  have er : rg1 ((n : Int) + (cs.length : Int)) = .ok (nats (n + cs.length)) := by rw [show (n : Int) + (cs.length : Int) = ((n + cs.length : Nat) : Int) by omega, rg1_nat (by omega)]
  obtain ⟨s', e, q⟩ := forE_inv0 (fun j (s : List Fl2) => s = (flawsL j).filter (RX S0)) (f := B_law_hidden_2 S0) (xs := nats (n + cs.length)) (s := []) rfl (by
    intro i net s hx hs
    obtain ⟨hi, rfl⟩ := nats_at hx
    have hl : s.length ≤ 28 := by
      rw [hs]
      refine Nat.le_trans (List.length_filter_le _ _) ?_
      rw [flawsL_len]; omega
    have one : ∀ (v : Int) (s : List Fl2), s.length ≤ 29 → B_law_hidden_1 i S0 s v = .ok (s ++ [((i : Int), v)].filter (RX S0)) := fun v s hl => by
      have ha : appE s ((i : Int), v) = .ok (s ++ [((i : Int), v)]) := appE_ok (by omega)
      have ef : filE (β := (List (Int × Int))) (fun row_8 => (memB ((i : Int), v) row_8)) (fun row_8 => row_8) S0 = .ok ((S0.filter fun row => memB ((i : Int), v) row).map fun r => r) := filE_ok (by omega)
      rw [List.map_id'] at ef
      unfold B_law_hidden_1
      simp only [ef, ok_bind, ha]
      unfold RX
      cases hd : decide ((((S0.filter fun row => memB ((i : Int), v) row).length : Nat) : Int) = 0) with
      | true => simp only [List.filter_cons, hd, ok_bind, decide_true, decide_false, if_true, if_false, ↓reduceIte, Bool.false_eq_true, Bool.not_true, Bool.not_false, Bool.and_true, Bool.true_and, Bool.and_false, Bool.false_and, Bool.or_true, Bool.true_or, Bool.or_false, Bool.false_or, decide_eq_true_eq, nex_ok, ofO_some, Sum.elim_inl, Sum.elim_inr, List.filter_nil]
      | false => simp only [List.filter_cons, hd, ok_bind, decide_true, decide_false, if_true, if_false, ↓reduceIte, Bool.false_eq_true, Bool.not_true, Bool.not_false, Bool.and_true, Bool.true_and, Bool.and_false, Bool.false_and, Bool.or_true, Bool.true_or, Bool.or_false, Bool.false_or, decide_eq_true_eq, nex_ok, ofO_some, Sum.elim_inl, Sum.elim_inr, List.filter_nil, List.append_nil]
    refine ⟨_, ?_, rfl⟩
    unfold B_law_hidden_2
    simp only [rg2two, ok_bind, forE_two, bind_ok_r]
    rw [one 0 s (by omega), ok_bind, one 1 _ (by rw [List.length_append]; have := List.length_filter_le (RX S0) [((i : Int), (0 : Int))]; simp only [List.length_singleton] at this; omega), flawsL_succ, List.filter_append, hs, List.append_assoc, ← List.filter_append]
    rfl)
  rw [nats_len] at q
  unfold M_law_hidden
  simp only [ok_bind, er, e, q]
theorem hidden_same {n : Nat} {cs : List Cel} {outs : List Int} : (flawsL (n + cs.length)).filter (QX n cs outs) = (flawsL (n + cs.length)).filter (RX (shownL n cs outs)) := by
  refine List.filter_congr fun f hf => ?_
  unfold QX RX
  refine Bool.eq_iff_iff.mpr ?_
  rw [decide_eq_true_eq, Option.isNone_iff_eq_none, List.find?_eq_none]
  constructor
  · intro q
    have : (shownL n cs outs).filter (fun row => memB f row) = [] := List.filter_eq_nil_iff.mpr fun row hr => by
      obtain ⟨x, hx, rfl⟩ := List.mem_map.mp hr
      intro hm
      exact q x hx (List.mem_filter.mp (memB_iff.mp hm)).2
    rw [this]; rfl
  · intro q x hx hp
    have z : (shownL n cs outs).filter (fun row => memB f row) = [] := List.length_eq_zero_iff.mp (by omega)
    exact (List.filter_eq_nil_iff.mp z) _ (List.mem_map.mpr ⟨x, hx, rfl⟩) (memB_iff.mpr (List.mem_filter.mpr ⟨hf, hp⟩))
end K10
namespace K10
open PySem PV TM
/-! the greedy choice -/
theorem foldl_max : ∀ (xs : List Int) (a : Int), a ≤ maxI a xs ∧ (∀ x ∈ xs, x ≤ maxI a xs) ∧ (maxI a xs = a ∨ maxI a xs ∈ xs)
  | [], a => ⟨Int.le_refl _, (fun _ h => nomatch h), .inl rfl⟩
  | x :: xs, a => by
    by_cases c : a < x
    · obtain ⟨h1, h2, h3⟩ := foldl_max xs x
      have e : maxI a (x :: xs) = maxI x xs := by show maxI (if a < x then x else a) xs = _; rw [if_pos c]
      rw [e]
      refine ⟨by omega, fun y hy => ?_, .inr ?_⟩
      · rcases List.mem_cons.mp hy with rfl | hy
        · exact h1
        · exact h2 y hy
      · rcases h3 with h3 | h3
        · rw [h3]; exact List.mem_cons_self ..
        · exact List.mem_cons_of_mem _ h3
    · obtain ⟨h1, h2, h3⟩ := foldl_max xs a
      have e : maxI a (x :: xs) = maxI a xs := by show maxI (if a < x then x else a) xs = _; rw [if_neg c]
      rw [e]
      refine ⟨h1, fun y hy => ?_, ?_⟩
      · rcases List.mem_cons.mp hy with rfl | hy
        · omega
        · exact h2 y hy
      · rcases h3 with h3 | h3
        · exact .inl h3
        · exact .inr (List.mem_cons_of_mem _ h3)
theorem maxE_ok {xs : List Int} (h : xs ≠ []) : ∃ m, maxE xs = .ok m ∧ m ∈ xs ∧ ∀ x ∈ xs, x ≤ m := by
  cases xs with
  | nil => exact absurd rfl h
  | cons x xs =>
    obtain ⟨h1, h2, h3⟩ := foldl_max xs x
    refine ⟨maxI x xs, rfl, ?_, fun y hy => ?_⟩
    · rcases h3 with h3 | h3
      · rw [h3]; exact List.mem_cons_self ..
      · exact List.mem_cons_of_mem _ h3
    · rcases List.mem_cons.mp hy with rfl | hy
      · exact h1
      · exact h2 y hy
theorem idxE_ok {xs : List Int} {m : Int} (h : m ∈ xs) : ∃ i : Nat, idxE xs m = .ok (i : Int) ∧ xs[i]? = some m := by
  unfold idxE
  cases hf : xs.findIdx? (fun z => decide (z = m)) with
  | none =>
    have := List.findIdx?_eq_none_iff.mp hf m h
    simp at this
  | some i =>
    obtain ⟨hi, h1, _⟩ := List.findIdx?_eq_some_iff_getElem.mp hf
    refine ⟨i, rfl, ?_⟩
    rw [List.getElem?_eq_getElem hi, of_decide_eq_true h1]
def lensL (S : List (List Fl2)) : List Int := S.map fun r => (r.length : Int)
theorem lens_ok {S : List (List Fl2)} (h : S.length ≤ 64) : mapE (β := Int) (fun r : List Fl2 => (r.length : Int)) S = .ok (lensL S) := mapE_ok (by omega)
theorem lookD_put {f : Fl2} : ∀ (ps : List (Fl2 × Bool)) (k : Fl2) (b : Bool), (lookD (putD ps k b) f).isSome = ((lookD ps f).isSome || decide (f = k)) := by
  have app : ∀ (ps : List (Fl2 × Bool)) (k : Fl2) (b : Bool), (lookD (ps ++ [(k, b)]) f).isSome = ((lookD ps f).isSome || decide (f = k)) := by
    intro ps k b
    induction ps with
    | nil =>
      show (if k = f then some b else lookD [] f).isSome = _
      by_cases e : k = f
      · rw [if_pos e, decide_eq_true e.symm]; rfl
      · rw [if_neg e, decide_eq_false (fun z => e z.symm)]; rfl
    | cons p ps ih =>
      show (if p.1 = f then some p.2 else lookD (ps ++ [(k, b)]) f).isSome = ((if p.1 = f then some p.2 else lookD ps f).isSome || _)
      by_cases e : p.1 = f
      · rw [if_pos e, if_pos e]; rfl
      · rw [if_neg e, if_neg e, ih]
  have mp : ∀ (ps : List (Fl2 × Bool)) (k : Fl2) (b : Bool), (lookD (ps.map fun p => if p.1 = k then (p.1, b) else p) f).isSome = (lookD ps f).isSome := by
    intro ps k b
    induction ps with
    | nil => rfl
    | cons p ps ih =>
      rw [List.map_cons]
      by_cases e : p.1 = k
      · rw [if_pos e]
        show (if p.1 = f then some b else lookD _ f).isSome = (if p.1 = f then some p.2 else lookD ps f).isSome
        by_cases e2 : p.1 = f
        · rw [if_pos e2, if_pos e2]; rfl
        · rw [if_neg e2, if_neg e2, ih]
      · rw [if_neg e]
        show (if p.1 = f then some p.2 else lookD _ f).isSome = (if p.1 = f then some p.2 else lookD ps f).isSome
        by_cases e2 : p.1 = f
        · rw [if_pos e2, if_pos e2]
        · rw [if_neg e2, if_neg e2, ih]
  have has : ∀ (ps : List (Fl2 × Bool)), (ps.any fun p => decide (p.1 = f)) = true → (lookD ps f).isSome = true := by
    intro ps
    induction ps with
    | nil => intro h; cases h
    | cons p ps ih =>
      intro h
      show (if p.1 = f then some p.2 else lookD ps f).isSome = true
      by_cases e : p.1 = f
      · rw [if_pos e]; rfl
      · rw [if_neg e]
        rw [List.any_cons, decide_eq_false e, Bool.false_or] at h
        exact ih h
  intro ps k b
  unfold putD
  by_cases c : (ps.any fun p => decide (p.1 = k)) = true
  · rw [if_pos c, mp]
    by_cases e : f = k
    · subst e
      rw [has ps c]; rfl
    · rw [decide_eq_false e, Bool.or_false]
  · rw [if_neg c, app]
theorem dc_fold {f : Fl2} : ∀ (xs : List Fl2) (ps : List (Fl2 × Bool)), (lookD ((xs.map fun x => (x, true)).foldl (fun r (p : Fl2 × Bool) => putD r p.1 p.2) ps) f).isSome = ((lookD ps f).isSome || memB f xs)
  | [], ps => by
    show (lookD ps f).isSome = _
    rw [show memB f ([] : List Fl2) = false from decide_eq_false (fun h => nomatch h), Bool.or_false]
  | x :: xs, ps => by
    rw [List.map_cons, List.foldl_cons, dc_fold xs, lookD_put]
    rw [Bool.or_assoc]
    congr 1
    refine Bool.eq_iff_iff.mpr ?_
    rw [Bool.or_eq_true, decide_eq_true_eq, memB_iff, memB_iff, List.mem_cons]
theorem dc_ok (xs : List Fl2) (h : xs.length ≤ 100) : ∃ d, dcE (fun flaw_23 => E.ok true) (fun flaw_23 => (E.ok (flaw_23, true))) xs = .ok d ∧ ∀ f, (lookD d f).isSome = memB f xs := by
  have e : compE (fun _ : Fl2 => E.ok true) (fun flaw_23 => (E.ok (flaw_23, true))) xs = .ok ((xs.filter fun _ => true).map fun x => (x, true)) := compE_ok (by omega) (fun _ _ => rfl) fun _ _ _ => rfl
  refine ⟨_, by unfold dcE; rw [e, ok_bind], fun f => ?_⟩
  rw [List.filter_eq_self.mpr (fun _ _ => rfl), dc_fold]
  rfl
def nxS (S : List (List Fl2)) (seen : List Fl2) : List (List Fl2) := S.map fun row => row.filter fun f => !memB f seen
def sumL (S : List (List Fl2)) : Nat := (S.map List.length).sum
theorem sum_le {S : List (List Fl2)} {seen : List Fl2} : sumL (nxS S seen) ≤ sumL S := by
  unfold sumL nxS
  induction S with
  | nil => exact Nat.le_refl _
  | cons r S ih =>
    simp only [List.map_cons, List.sum_cons]
    have := List.length_filter_le (fun f => !memB f seen) r
    omega
theorem sum_lt {S : List (List Fl2)} {seen : List Fl2} : ∀ {i : Nat}, S[i]? = some seen → 0 < seen.length → sumL (nxS S seen) < sumL S := by
  induction S with
  | nil => intro i h; simp at h
  | cons r S ih =>
    intro i h hp
    have e : sumL (nxS (r :: S) seen) = (r.filter fun f => !memB f seen).length + sumL (nxS S seen) := by unfold sumL nxS; simp only [List.map_cons, List.sum_cons]
    have e2 : sumL (r :: S) = r.length + sumL S := by unfold sumL; simp only [List.map_cons, List.sum_cons]
    rw [e, e2]
    cases i with
    | zero =>
      simp at h
      subst h
      have z : r.filter (fun f => !memB f r) = [] := List.filter_eq_nil_iff.mpr fun f hf => by rw [memB_iff.mpr hf]; exact Bool.false_ne_true
      rw [z]
      have := sum_le (S := S) (seen := r)
      simp only [List.length_nil]
      omega
    | succ i =>
      have := ih (i := i) (by simpa using h) hp
      have := List.length_filter_le (fun f => !memB f seen) r
      omega
structure SOk (S : List (List Fl2)) : Prop where
  ne : S ≠ []
  le : S.length ≤ 64
  row : ∀ r ∈ S, r.length ≤ 28
theorem SOk.nx {S : List (List Fl2)} (h : SOk S) (seen : List Fl2) : SOk (nxS S seen) := by
  refine ⟨?_, by unfold nxS; rw [List.length_map]; exact h.le, fun r hr => ?_⟩
  · intro z
    unfold nxS at z
    exact h.ne (List.map_eq_nil_iff.mp z)
  · obtain ⟨r0, h0, rfl⟩ := List.mem_map.mp hr
    exact Nat.le_trans (List.length_filter_le _ _) (h.row r0 h0)
theorem filt_ok {S : List (List Fl2)} (h : SOk S) (seen : List Fl2) (p : Fl2 → Bool) (hp : ∀ f, p f = !memB f seen) : comE (β := (List (Int × Int))) (fun row => filE (β := (Int × Int)) p (fun f => f) row) S = .ok (nxS S seen) := by
  refine (comE_ok (g := fun row => row.filter fun f => !memB f seen) (by have := h.le; omega) fun r hr => ?_).trans rfl
  have : p = fun f => !memB f seen := funext hp
  rw [this, filE_ok (by have := h.row r hr; omega), List.map_id']
end K10
namespace K10
open PySem PV TM
inductive Nxs {σ ρ : Type} (f : σ → Int → E (Fl σ ρ)) : List Int → σ → σ → Prop
  | nil {s : σ} : Nxs f [] s s
  | cons {x : Int} {xs : List Int} {s s1 s2 : σ} : f s x = .ok (.nx s1) → Nxs f xs s1 s2 → Nxs f (x :: xs) s s2
theorem Nxs.snoc {σ ρ : Type} {f : σ → Int → E (Fl σ ρ)} {x : Int} {s2 : σ} : ∀ {xs : List Int} {s s1 : σ}, Nxs f xs s s1 → f s1 x = .ok (.nx s2) → Nxs f (xs ++ [x]) s s2
  | _, _, _, .nil, h => .cons h .nil
  | _, _, _, .cons h1 r, h => .cons h1 (r.snoc h)
theorem Nxs.run {σ ρ : Type} {f : σ → Int → E (Fl σ ρ)} : ∀ {xs : List Int} {s s1 : σ}, Nxs f xs s s1 → forR f xs s = .ok (.inl s1)
  | _, _, _, .nil => rfl
  | _, _, _, .cons h1 r => by
    unfold forR
    rw [h1]
    exact r.run
theorem whileE_ok {σ : Type} {c : σ → E Bool} {b : σ → E σ} (I : σ → Prop) (μ : σ → Nat) (h : ∀ s, I s → c s = .ok false ∨ ∃ s', c s = .ok true ∧ b s = .ok s' ∧ I s' ∧ μ s' < μ s) : ∀ (n : Nat) (s : σ), I s → μ s < n → ∃ s', whileE c b n s = .ok s' ∧ I s' ∧ c s' = .ok false
  | 0, s, _, hm => absurd hm (Nat.not_lt_zero _)
  | n + 1, s, hi, hm => by
    rcases h s hi with h1 | ⟨s', h1, h2, h3, h4⟩
    · exact ⟨s, by unfold whileE; rw [h1]; rfl, hi, h1⟩
    · obtain ⟨s2, e, i2, c2⟩ := whileE_ok I μ h n s' h3 (by omega)
      refine ⟨s2, ?_, i2, c2⟩
      unfold whileE
      rw [h1, ok_bind, if_pos rfl, h2, ok_bind, e]
theorem sum_bd : ∀ {S : List (List Fl2)}, (∀ r ∈ S, r.length ≤ 28) → sumL S ≤ 28 * S.length
  | [], _ => Nat.le_refl _
  | r :: S, h => by
    have := sum_bd fun x hx => h x (List.mem_cons_of_mem _ hx)
    have h1 := h r (List.mem_cons_self ..)
    have e2 : sumL (r :: S) = r.length + sumL S := by unfold sumL; simp only [List.map_cons, List.sum_cons]
    rw [e2, List.length_cons]; omega
theorem lens_max {S : List (List Fl2)} (h : SOk S) : ∃ m, maxE (lensL S) = .ok m ∧ m ∈ lensL S ∧ 0 ≤ m := by
  obtain ⟨m, e, hm, _⟩ := maxE_ok (xs := lensL S) (fun z => h.ne (List.map_eq_nil_iff.mp z))
  refine ⟨m, e, hm, ?_⟩
  obtain ⟨r, _, rfl⟩ := List.mem_map.mp hm
  omega
theorem turn_ok {S : List (List Fl2)} (h : SOk S) {m : Int} (e : maxE (lensL S) = .ok m) (hm : m ∈ lensL S) (hp : 0 < m) (ts : List Int) (ht : ts.length ≤ 10000) :
    ∃ (i : Nat) (seen : List Fl2), S[i]? = some seen ∧ 0 < seen.length ∧ B_make_tests_1 (S, ts, lensL S) = .ok (nxS S seen, ts ++ [(i : Int)], lensL (nxS S seen)) ∧ B_law_1 S i = .ok (.nx (nxS S seen)) := by
  obtain ⟨i, ei, hi⟩ := idxE_ok hm
  unfold lensL at hi
  rw [List.getElem?_map] at hi
  cases hs : S[i]? with
  | none => rw [hs] at hi; cases hi
  | some seen =>
    rw [hs] at hi
    have hl : (seen.length : Int) = m := Option.some.inj hi
    have hmem := List.mem_of_getElem? hs
    have hlt := (List.getElem?_eq_some_iff.mp hs).1
    obtain ⟨d, ed, hd⟩ := dc_ok seen (by have := h.row seen hmem; omega)
    have ha : appE ts (i : Int) = .ok (ts ++ [(i : Int)]) := appE_ok (by omega)
    have ex := ixE_nat hs
    have f1 := filt_ok h seen (fun f => !(lookD d f).isSome) (fun f => by rw [hd])
    have f2 := filt_ok h seen (fun f => !memB f seen) (fun f => rfl)
    have hn := h.nx seen
    have l1 := lens_ok h.le
    have l2 := lens_ok hn.le
    refine ⟨i, seen, hs, by omega, ?_, ?_⟩
    · unfold B_make_tests_1
      simp only [e, ok_bind, ei, ha, ex, ed, f1, l2]
    · have m0 : ¬ m = 0 := by omega
      have i0 : ¬ ((i : Int) < 0) := by omega
      have i1 : ¬ ((i : Int) ≥ (S.length : Int)) := by omega
      have hint : M_law_is_integer (i : Int) = .ok true := rfl
      unfold B_law_1
      simp only [l1, ok_bind, e, hint, m0, i0, i1, ei, ex, f2, ok_bind, decide_true, decide_false, if_true, if_false, ↓reduceIte, Bool.false_eq_true, Bool.not_true, Bool.not_false, Bool.and_true, Bool.true_and, Bool.and_false, Bool.false_and, Bool.or_true, Bool.true_or, Bool.or_false, Bool.false_or, decide_eq_true_eq, nex_ok, ofO_some, Sum.elim_inl, Sum.elim_inr]
theorem greedy_ok {S0 : List (List Fl2)} (h0 : SOk S0) : ∃ (S' : List (List Fl2)) (ts : List Int), whileE (σ := (List (List (Int × Int))) × (List Int) × (List Int)) C_make_tests_1 B_make_tests_1 fuel (S0, [], lensL S0) = .ok (S', ts, lensL S') ∧ forR B_law_1 ts S0 = .ok (.inl S') ∧ SOk S' ∧ maxE (lensL S') = .ok 0 := by
  have hb := sum_bd h0.row
  have hl := h0.le
  obtain ⟨⟨S', ts, ls⟩, e, ⟨i1, i2, i3, i4⟩, c⟩ := whileE_ok (c := C_make_tests_1) (b := B_make_tests_1) (fun s => SOk s.1 ∧ s.2.2 = lensL s.1 ∧ s.2.1.length + sumL s.1 ≤ sumL S0 ∧ Nxs B_law_1 s.2.1 S0 s.1) (fun s => sumL s.1) (by
    rintro ⟨S, ts, ls⟩ ⟨j1, j2, j3, j4⟩
    dsimp only at j1 j2 j3 j4
    subst j2
    obtain ⟨m, em, hm, hp⟩ := lens_max j1
    have ec : C_make_tests_1 (S, ts, lensL S) = .ok (decide (m > 0)) := by unfold C_make_tests_1; simp only [em, ok_bind]
    by_cases q : m > 0
    · obtain ⟨i, seen, hs, hpos, e1, e2⟩ := turn_ok j1 em hm q ts (by omega)
      have hlt := sum_lt hs hpos
      refine .inr ⟨_, by rw [ec, decide_eq_true q], e1, ⟨j1.nx seen, rfl, ?_, j4.snoc e2⟩, hlt⟩
      dsimp only
      rw [List.length_append, List.length_singleton]
      omega
    · exact .inl (by rw [ec, decide_eq_false q])) fuel (S0, [], lensL S0) ⟨h0, rfl, by simp, .nil⟩ (by show sumL S0 < 1000000; omega)
  dsimp only at i1 i2 i3 i4
  subst i2
  refine ⟨S', ts, e, i4.run, i1, ?_⟩
  obtain ⟨m, em, hm, hp⟩ := lens_max i1
  unfold C_make_tests_1 at c
  simp only [em, ok_bind] at c
  have : ¬ (m > 0) := of_decide_eq_false (by injection c)
  rw [em, show m = 0 by omega]
theorem shown_SOk {n : Nat} {cs : List Cel} {outs h : List Int} (w : CW n cs outs h 6 8 2 6) : SOk (shownL n cs outs) := by
  have w1 := w.n6
  have w2 := w.cl
  have p6 := pow6 w.x
  have pp : 0 < 2 ^ (n + nlat cs) := Nat.pow_pos (by omega)
  refine ⟨fun z => ?_, by unfold shownL; rw [List.length_map, nats_len]; exact p6, fun r hr => ?_⟩
  · have := congrArg List.length z
    unfold shownL at this
    rw [List.length_map, nats_len] at this
    simp at this
  · obtain ⟨x, _, rfl⟩ := List.mem_map.mp hr
    refine Nat.le_trans (List.length_filter_le _ _) ?_
    rw [flawsL_len]; omega
theorem tests_ok {n : Nat} {cs : List Cel} {outs h : List Int} (w : CW n cs outs h 6 8 2 6) : ∃ (S' : List (List Fl2)) (ts : List Int), M_make_tests ((n : Int), cs, outs, h) = .ok ts ∧ forR B_law_1 ts (shownL n cs outs) = .ok (.inl S') ∧ mapE (β := Int) (fun r : List Fl2 => (r.length : Int)) S' = .ok (lensL S') ∧ maxE (lensL S') = .ok 0 := by
  have so := shown_SOk w
  obtain ⟨S', ts, e1, e2, e3, e4⟩ := greedy_ok so
  refine ⟨S', ts, ?_, e2, lens_ok e3.le, e4⟩
  unfold M_make_tests
  simp only [size_ok w, ok_bind, cases_ok w, prog_shown w, lens_ok so.le, e1]
/-! what is too large -/
theorem refuses_ok {c : Circ} (h : M_check_size c = .ex ⟨S "TooLarge", []⟩) : M_law_refuses c = .ok true := by
  have e1 : M_make_tests c = .ex ⟨S "TooLarge", []⟩ := by unfold M_make_tests; simp only [h, ex_bind]
  have e2 : M_hidden_flaws c = .ex ⟨S "TooLarge", []⟩ := by unfold M_hidden_flaws; simp only [h, ex_bind]
  have e3 : ∀ f, M_first_case c f = .ex ⟨S "TooLarge", []⟩ := fun f => by unfold M_first_case; simp only [h, ex_bind]
  have h1 : m_GatesError (S "TooLarge") = some true := by decide +kernel
  have h2 : is_TooLarge (S "TooLarge") = some true := by decide +kernel
  have tj : ∀ (s0 : Int), tryJ (σ := Int) m_GatesError (.ex ⟨S "TooLarge", []⟩ : E Unit) s0 (fun ex_3 => (E.bind (E.bind (E.bind (E.ofO (is_TooLarge ex_3.c)) fun t_5 => (E.ok (b2i t_5))) fun t_6 => (E.ok (s0 + t_6))) fun count_4 => (E.ok count_4))) = .ok (s0 + 1) := fun s0 => by
    unfold tryJ
    simp only [h1, h2]
    rfl
  have tj2 : ∀ {α : Type} (s0 : Int), tryJ (σ := Int) m_GatesError (.ex ⟨S "TooLarge", []⟩ : E α) s0 (fun ex_3 => (E.bind (E.bind (E.bind (E.ofO (is_TooLarge ex_3.c)) fun t_5 => (E.ok (b2i t_5))) fun t_6 => (E.ok (s0 + t_6))) fun count_4 => (E.ok count_4))) = .ok (s0 + 1) := fun s0 => by
    unfold tryJ
    simp only [h1, h2]
    rfl
  unfold M_law_refuses
  rw [e1, e2]
  dsimp only
  rw [e3, ok_bind, tj2, ok_bind, tj2, ok_bind, tj2, ok_bind]
  rfl
theorem large_ok (I Lc : Nat) (hI : I ≤ 6) (hL : Lc ≤ 4) (h7 : 7 ≤ I + Lc) (cs : List Cel) (hc : cs.length = Lc) (hk : ∀ c ∈ cs, c.1 = S "latch") (outs h : List Int) : M_check_size ((I : Int), cs, outs, h) = .ex ⟨S "TooLarge", []⟩ := by
  have hn : nlat cs = Lc := by
    unfold nlat
    have he : cs.filter isLat = cs := List.filter_eq_self.mpr fun c hc => (decide_eq_true (hk c hc) : isLat c = true)
    rw [he, hc]
  have hp : 2 ^ 7 ≤ 2 ^ (I + Lc) := Nat.pow_le_pow_right (by omega) h7
  have hgt : ((2 : Int) ^ (I + Lc) > mk_MOST_CASES) := by
    rw [pow_cast]
    show (64 : Int) < _
    omega
  unfold M_check_size
  simp only [case_count_ok I cs outs h (by omega) (by omega), hn, ok_bind, hgt, ok_bind, decide_true, decide_false, if_true, if_false, ↓reduceIte, Bool.false_eq_true, Bool.not_true, Bool.not_false, Bool.and_true, Bool.true_and, Bool.and_false, Bool.false_and, Bool.or_true, Bool.true_or, Bool.or_false, Bool.false_or, decide_eq_true_eq, nex_ok, ofO_some, Sum.elim_inl, Sum.elim_inr]
end K10
namespace K10
open PySem PV TM
theorem two_ok {k : Str} (hk : k = S "nand2" ∨ k = S "nor2") {a b net total : Int} (ha : 0 ≤ a ∧ a < net) (hb : 0 ≤ b ∧ b < net) : CellOk total (k, [a, b], net) := .inr ⟨.inr (.inr (.inl ⟨hk, rfl⟩)), fun y hy => by
  simp only [List.mem_cons, List.not_mem_nil, or_false] at hy
  rcases hy with rfl | rfl
  · exact ha
  · exact hb⟩
theorem two_nl {k : Str} (hk : k = S "nand2" ∨ k = S "nor2") (l : List Int) (net : Int) : isLat (k, l, net) = false := by
  rcases hk with rfl | rfl
  · exact decide_eq_false (show ¬ (S "nand2" = S "latch") by decide +kernel)
  · exact decide_eq_false (show ¬ (S "nor2" = S "latch") by decide +kernel)
theorem lat_l (l : List Int) (net : Int) : isLat (S "latch", l, net) = true := decide_eq_true rfl
theorem lat_ok {a net total : Int} (h : 0 ≤ a ∧ a < total) : CellOk total (S "latch", [a], net) := .inl ⟨rfl, a, rfl, h⟩
theorem cw1 {k : Str} (hk : k = S "nand2" ∨ k = S "nor2") (p1 p2 : Int) (h1 : 0 ≤ p1 ∧ p1 < 3) (h2 : 0 ≤ p2 ∧ p2 < 6) : CW 6 [(k, [p1, 5 - p1], 6)] [6, p2] [] 6 8 2 6 := by
  have hn : nlat [(k, [p1, 5 - p1], (6 : Int))] = 0 := by unfold nlat; rw [List.filter_cons, two_nl hk]; rfl
  refine ⟨by omega, by simp, by simp, fun i c hc => ?_, by rw [hn]; rfl, by omega, by omega, by simp, by simp, fun o ho => ?_⟩
  · cases i with
    | zero =>
      simp at hc
      subst hc
      exact ⟨rfl, two_ok hk (by omega) (by omega)⟩
    | succ i => simp at hc
  · simp only [List.mem_cons, List.not_mem_nil, or_false] at ho
    simp only [List.length_cons, List.length_nil]
    rcases ho with rfl | rfl <;> omega
theorem cw2 {k : Str} (hk : k = S "nand2" ∨ k = S "nor2") (p1 p2 : Int) (h1 : 0 ≤ p1 ∧ p1 < 3) (h2 : 0 ≤ p2 ∧ p2 < 6) : CW 4 [(S "latch", [p2], 4), (S "latch", [6 - p1], 5), (k, [p1, 5], 6)] [6, p2] [0, 1] 6 8 2 6 := by
  have hn : nlat [(S "latch", [p2], (4 : Int)), (S "latch", [6 - p1], 5), (k, [p1, 5], 6)] = 2 := by unfold nlat; rw [List.filter_cons, lat_l, if_pos rfl, List.filter_cons, lat_l, if_pos rfl, List.filter_cons, two_nl hk]; rfl
  refine ⟨by omega, by simp, by simp, fun i c hc => ?_, by rw [hn]; rfl, by omega, by omega, by simp, by simp, fun o ho => ?_⟩
  · match i, hc with
    | 0, hc => simp at hc; subst hc; exact ⟨rfl, lat_ok (by simp; omega)⟩
    | 1, hc => simp at hc; subst hc; exact ⟨rfl, lat_ok (by simp; omega)⟩
    | 2, hc => simp at hc; subst hc; exact ⟨rfl, two_ok hk (by omega) (by omega)⟩
    | i + 3, hc => simp at hc
  · simp only [List.mem_cons, List.not_mem_nil, or_false] at ho
    simp only [List.length_cons, List.length_nil]
    rcases ho with rfl | rfl <;> omega
theorem cw3 {k : Str} (hk : k = S "nand2" ∨ k = S "nor2") (p1 p2 : Int) (h1 : 0 ≤ p1 ∧ p1 < 3) (h2 : 0 ≤ p2 ∧ p2 < 6) : CW 4 [(S "latch", [p2], 4), (k, [p1, 4], 5), (S "latch", [6 - p1], 6)] [6, p2] [0, 1] 6 8 2 6 := by
  have hn : nlat [(S "latch", [p2], (4 : Int)), (k, [p1, 4], 5), (S "latch", [6 - p1], 6)] = 2 := by unfold nlat; rw [List.filter_cons, lat_l, if_pos rfl, List.filter_cons, two_nl hk, if_neg Bool.false_ne_true, List.filter_cons, lat_l]; rfl
  refine ⟨by omega, by simp, by simp, fun i c hc => ?_, by rw [hn]; rfl, by omega, by omega, by simp, by simp, fun o ho => ?_⟩
  · match i, hc with
    | 0, hc => simp at hc; subst hc; exact ⟨rfl, lat_ok (by simp; omega)⟩
    | 1, hc => simp at hc; subst hc; exact ⟨rfl, two_ok hk (by omega) (by omega)⟩
    | 2, hc => simp at hc; subst hc; exact ⟨rfl, lat_ok (by simp; omega)⟩
    | i + 3, hc => simp at hc
  · simp only [List.mem_cons, List.not_mem_nil, or_false] at ho
    simp only [List.length_cons, List.length_nil]
    rcases ho with rfl | rfl <;> omega
theorem kind4 (p3 : Int) (h : 0 ≤ p3 ∧ p3 < 4) : ∃ k, ixE [(S "nand2"), (S "nor2"), (S "nand2"), (S "nor2")] p3 = .ok k ∧ (k = S "nand2" ∨ k = S "nor2") := by
  have : p3 = 0 ∨ p3 = 1 ∨ p3 = 2 ∨ p3 = 3 := by omega
  rcases this with rfl | rfl | rfl | rfl
  · exact ⟨_, ixE_0, .inl rfl⟩
  · exact ⟨_, ixE_1, .inr rfl⟩
  · exact ⟨_, ixE_2, .inl rfl⟩
  · exact ⟨_, ixE_3, .inr rfl⟩
theorem sizes6 (p2 : Int) (h : 0 ≤ p2 ∧ p2 < 6) : ∃ I Lc : Nat, ixE [((6 : Int), (1 : Int)), (5, 2), (4, 3), (3, 4), (6, 4), (6, 2)] p2 = .ok ((I : Int), (Lc : Int)) ∧ 1 ≤ I ∧ I ≤ 6 ∧ Lc ≤ 4 ∧ 7 ≤ I + Lc := by
  have : p2 = 0 ∨ p2 = 1 ∨ p2 = 2 ∨ p2 = 3 ∨ p2 = 4 ∨ p2 = 5 := by omega
  rcases this with rfl | rfl | rfl | rfl | rfl | rfl
  · exact ⟨6, 1, ixE_0, by omega, by omega, by omega, by omega⟩
  · exact ⟨5, 2, ixE_1, by omega, by omega, by omega, by omega⟩
  · exact ⟨4, 3, ixE_2, by omega, by omega, by omega, by omega⟩
  · exact ⟨3, 4, ixE_3, by omega, by omega, by omega, by omega⟩
  · exact ⟨6, 4, ixE_4, by omega, by omega, by omega, by omega⟩
  · exact ⟨6, 2, ixE_5, by omega, by omega, by omega, by omega⟩
theorem law_mt (ns : List Int) : M_law ns = .ok true := by
  obtain ⟨x, e0⟩ := cell_ok ns 1 (by omega)
  obtain ⟨p0, p1, p2, p3, e1, b0, b1, b2, b3⟩ := parts4 x 6 3 6 4 (by simp)
  by_cases z0 : p0 = 0
  · obtain ⟨I, Lc, e2, i1, i2, i3, i4⟩ := sizes6 p2 b2
    have em : comE (β := (Str × (List Int) × Int)) (fun k_9 => (E.bind (E.bind (E.bind (E.bind (E.bind (ixE [p0, p1, p2, p3] 1) fun t_10 => (E.ok (k_9 + t_10))) fun t_11 => (E.ok t_11)) fun t_12 => (modE t_12 (I : Int))) fun t_13 => (E.ok [t_13])) fun t_14 => (E.ok ((S "latch"), t_14, ((I : Int) + k_9))))) (nats Lc) = .ok ((nats Lc).map fun k => ((S "latch"), [(k + p1) % (I : Int)], ((I : Int) + k))) := comE_ok (by rw [nats_len]; omega) fun k _ => by
      simp only [ixE_1, ok_bind, modE_ok (show (0 : Int) < I by omega)]
    have er : rg1 (Lc : Int) = .ok (nats Lc) := rg1_nat (by omega)
    have el : lrE (Lc : Int) = .ok (nats Lc) := by rw [lrE_ok (by omega) (by omega), Int.toNat_natCast]
    have eq := refuses_ok (large_ok I Lc i2 i3 i4 ((nats Lc).map fun k => ((S "latch"), [(k + p1) % (I : Int)], ((I : Int) + k))) (by rw [List.length_map, nats_len]) (fun c hc => by obtain ⟨k, _, rfl⟩ := List.mem_map.mp hc; rfl) [(I : Int), 0] (nats Lc))
    simp only [ok_bind, ixE_1] at em
    unfold M_law
    simp only [e0, e1, ok_bind, ixE_0, z0, ok_bind, decide_true, decide_false, if_true, if_false, ↓reduceIte, Bool.false_eq_true, Bool.not_true, Bool.not_false, Bool.and_true, Bool.true_and, Bool.and_false, Bool.false_and, Bool.or_true, Bool.true_or, Bool.or_false, Bool.false_or, decide_eq_true_eq, nex_ok, ofO_some, Sum.elim_inl, Sum.elim_inr, ixE_1, ixE_2, e2, er, em, el, eq]
  · have fin : ∀ (n : Nat) (cs : List Cel) (outs h : List Int), CW n cs outs h 6 8 2 6 → ∃ (S' : List (List Fl2)) (ts : List Int), (M_make_tests ((n : Int), cs, outs, h) = .ok ts ∧ M_law_shown ((n : Int), cs, outs, h) = .ok (shownL n cs outs) ∧ M_hidden_flaws ((n : Int), cs, outs, h) = .ok ((flawsL (n + cs.length)).filter (RX (shownL n cs outs))) ∧ M_law_hidden ((n : Int), cs, outs, h) (shownL n cs outs) = .ok ((flawsL (n + cs.length)).filter (RX (shownL n cs outs)))) ∧ forR B_law_1 ts (shownL n cs outs) = .ok (.inl S') ∧ mapE (β := Int) (fun r : List Fl2 => (r.length : Int)) S' = .ok (lensL S') ∧ maxE (lensL S') = .ok 0 := fun n cs outs h w => by
      obtain ⟨S', ts, t1, t2, t3, t4⟩ := tests_ok w
      exact ⟨S', ts, ⟨t1, law_shown_ok w, by rw [hidden_ok w, hidden_same], law_hidden_ok w _ (shown_SOk w).le⟩, t2, t3, t4⟩
    obtain ⟨n, cs0, outs0, h0, c0, w0⟩ := circuit_ok ns
    obtain ⟨cs, outs, h, c1, w⟩ := bare_ok ns w0
    obtain ⟨k, e2, hk⟩ := kind4 p3 b3
    by_cases z1 : p0 = 1
    · obtain ⟨S', ts, ⟨t1, t2, t3, t4⟩, t5, t6, t7⟩ := fin _ _ _ _ (cw1 hk p1 p2 b1 b2)
      have z2 : ¬ p0 = 2 := by omega
      rw [show ((6 : Nat) : Int) = 6 from rfl] at t1 t2 t3 t4
      unfold M_law
      simp only [e0, e1, ok_bind, ixE_0, z0, z1, z2, ok_bind, decide_true, decide_false, if_true, if_false, ↓reduceIte, Bool.false_eq_true, Bool.not_true, Bool.not_false, Bool.and_true, Bool.true_and, Bool.and_false, Bool.false_and, Bool.or_true, Bool.true_or, Bool.or_false, Bool.false_or, decide_eq_true_eq, nex_ok, ofO_some, Sum.elim_inl, Sum.elim_inr, ixE_1, ixE_2, ixE_3, e2, c0, c1, t1, t2, t3, t4, t5, t6, t7, show ¬ ((1 : Int) = 0) by omega, show ¬ ((1 : Int) = 2) by omega]
    · by_cases z2 : p0 = 2
      · by_cases z3 : p3 > 1
        · obtain ⟨S', ts, ⟨t1, t2, t3, t4⟩, t5, t6, t7⟩ := fin _ _ _ _ (cw3 hk p1 p2 b1 b2)
          rw [show ((4 : Nat) : Int) = 4 from rfl] at t1 t2 t3 t4
          unfold M_law
          simp only [e0, e1, ok_bind, ixE_0, z0, z1, z2, z3, ok_bind, decide_true, decide_false, if_true, if_false, ↓reduceIte, Bool.false_eq_true, Bool.not_true, Bool.not_false, Bool.and_true, Bool.true_and, Bool.and_false, Bool.false_and, Bool.or_true, Bool.true_or, Bool.or_false, Bool.false_or, decide_eq_true_eq, nex_ok, ofO_some, Sum.elim_inl, Sum.elim_inr, ixE_1, ixE_2, ixE_3, e2, c0, c1, t1, t2, t3, t4, t5, t6, t7, show ¬ ((2 : Int) = 0) by omega, show ¬ ((2 : Int) = 1) by omega]
        · obtain ⟨S', ts, ⟨t1, t2, t3, t4⟩, t5, t6, t7⟩ := fin _ _ _ _ (cw2 hk p1 p2 b1 b2)
          rw [show ((4 : Nat) : Int) = 4 from rfl] at t1 t2 t3 t4
          unfold M_law
          simp only [e0, e1, ok_bind, ixE_0, z0, z1, z2, z3, ok_bind, decide_true, decide_false, if_true, if_false, ↓reduceIte, Bool.false_eq_true, Bool.not_true, Bool.not_false, Bool.and_true, Bool.true_and, Bool.and_false, Bool.false_and, Bool.or_true, Bool.true_or, Bool.or_false, Bool.false_or, decide_eq_true_eq, nex_ok, ofO_some, Sum.elim_inl, Sum.elim_inr, ixE_1, ixE_2, ixE_3, e2, c0, c1, t1, t2, t3, t4, t5, t6, t7, show ¬ ((2 : Int) = 0) by omega, show ¬ ((2 : Int) = 1) by omega]
      · obtain ⟨S', ts, ⟨t1, t2, t3, t4⟩, t5, t6, t7⟩ := fin _ _ _ _ w
        unfold M_law
        simp only [e0, e1, ok_bind, ixE_0, z0, z1, z2, ok_bind, decide_true, decide_false, if_true, if_false, ↓reduceIte, Bool.false_eq_true, Bool.not_true, Bool.not_false, Bool.and_true, Bool.true_and, Bool.and_false, Bool.false_and, Bool.or_true, Bool.true_or, Bool.or_false, Bool.false_or, decide_eq_true_eq, nex_ok, ofO_some, Sum.elim_inl, Sum.elim_inr, ixE_1, ixE_2, ixE_3, e2, c0, c1, t1, t2, t3, t4, t5, t6, t7]
theorem law_true (ns : List Int) (_ : ns.length ≤ 63) : F_law [scr ns] = .ok (.z, .bool true) := tru_of (sd_law ns) (law_mt ns)
end K10
namespace K10
open PySem PySem.Spec PyProof.Rows L2 PV
theorem law_ok {P : Program} {w : World} {K : PySem.W.Frag} {mg : Str → Option Value} {base : Heap} (T : Tx K mg w) : FnOk P w K mg base (L2.CX P w) 10 T.f_law T.fd_law ["script"] (spTop K) := top_ok (ok_law T) law_true
theorem all_mk {P : Program} {w : World} {K : PySem.W.Frag} {h : Heap} {mg : Str → Option Value} {fa : Addr}
    {f_cell_value : Addr} {od_cell_value an_cell_value : Option Addr} {sl_cell_value : Array (Option Value)} {oc_cell_value kV_cell_value dc_cell_value pm_cell_value cd_cell_value ct_cell_value : Value}
    {f_latch_cells : Addr} {od_latch_cells an_latch_cells : Option Addr} {sl_latch_cells : Array (Option Value)} {oc_latch_cells kV_latch_cells dc_latch_cells pm_latch_cells cd_latch_cells ct_latch_cells : Value}
    {f_settled_values : Addr} {od_settled_values an_settled_values : Option Addr} {sl_settled_values : Array (Option Value)} {oc_settled_values kV_settled_values dc_settled_values pm_settled_values cd_settled_values ct_settled_values : Value}
    {f_bit_count : Addr} {od_bit_count an_bit_count : Option Addr} {sl_bit_count : Array (Option Value)} {oc_bit_count kV_bit_count dc_bit_count pm_bit_count cd_bit_count ct_bit_count : Value}
    {f_case_count : Addr} {od_case_count an_case_count : Option Addr} {sl_case_count : Array (Option Value)} {oc_case_count kV_case_count dc_case_count pm_case_count cd_case_count ct_case_count : Value}
    {f_case_bits : Addr} {od_case_bits an_case_bits : Option Addr} {sl_case_bits : Array (Option Value)} {oc_case_bits kV_case_bits dc_case_bits pm_case_bits cd_case_bits ct_case_bits : Value}
    {f_check_flaw : Addr} {od_check_flaw an_check_flaw : Option Addr} {sl_check_flaw : Array (Option Value)} {oc_check_flaw kV_check_flaw dc_check_flaw pm_check_flaw cd_check_flaw ct_check_flaw : Value}
    {f_answers : Addr} {od_answers an_answers : Option Addr} {sl_answers : Array (Option Value)} {oc_answers kV_answers dc_answers pm_answers cd_answers ct_answers : Value}
    {f_shows : Addr} {od_shows an_shows : Option Addr} {sl_shows : Array (Option Value)} {oc_shows kV_shows dc_shows pm_shows cd_shows ct_shows : Value}
    {f_check_size : Addr} {od_check_size an_check_size : Option Addr} {sl_check_size : Array (Option Value)} {oc_check_size kV_check_size dc_check_size pm_check_size cd_check_size ct_check_size : Value}
    {f_all_flaws : Addr} {od_all_flaws an_all_flaws : Option Addr} {sl_all_flaws : Array (Option Value)} {oc_all_flaws kV_all_flaws dc_all_flaws pm_all_flaws cd_all_flaws ct_all_flaws : Value}
    {f_first_case : Addr} {od_first_case an_first_case : Option Addr} {sl_first_case : Array (Option Value)} {oc_first_case kV_first_case dc_first_case pm_first_case cd_first_case ct_first_case : Value}
    {f_hidden_flaws : Addr} {od_hidden_flaws an_hidden_flaws : Option Addr} {sl_hidden_flaws : Array (Option Value)} {oc_hidden_flaws kV_hidden_flaws dc_hidden_flaws pm_hidden_flaws cd_hidden_flaws ct_hidden_flaws : Value}
    {f_make_tests : Addr} {od_make_tests an_make_tests : Option Addr} {sl_make_tests : Array (Option Value)} {oc_make_tests kV_make_tests dc_make_tests pm_make_tests cd_make_tests ct_make_tests : Value}
    {f_law_cell : Addr} {od_law_cell an_law_cell : Option Addr} {sl_law_cell : Array (Option Value)} {oc_law_cell kV_law_cell dc_law_cell pm_law_cell cd_law_cell ct_law_cell : Value}
    {f_law_parts : Addr} {od_law_parts an_law_parts : Option Addr} {sl_law_parts : Array (Option Value)} {oc_law_parts kV_law_parts dc_law_parts pm_law_parts cd_law_parts ct_law_parts : Value}
    {f_law_is_integer : Addr} {od_law_is_integer an_law_is_integer : Option Addr} {sl_law_is_integer : Array (Option Value)} {oc_law_is_integer kV_law_is_integer dc_law_is_integer pm_law_is_integer cd_law_is_integer ct_law_is_integer : Value}
    {f_law_kind : Addr} {od_law_kind an_law_kind : Option Addr} {sl_law_kind : Array (Option Value)} {oc_law_kind kV_law_kind dc_law_kind pm_law_kind cd_law_kind ct_law_kind : Value}
    {f_law_drawn : Addr} {od_law_drawn an_law_drawn : Option Addr} {sl_law_drawn : Array (Option Value)} {oc_law_drawn kV_law_drawn dc_law_drawn pm_law_drawn cd_law_drawn ct_law_drawn : Value}
    {f_law_circuit : Addr} {od_law_circuit an_law_circuit : Option Addr} {sl_law_circuit : Array (Option Value)} {oc_law_circuit kV_law_circuit dc_law_circuit pm_law_circuit cd_law_circuit ct_law_circuit : Value}
    {f_law_value : Addr} {od_law_value an_law_value : Option Addr} {sl_law_value : Array (Option Value)} {oc_law_value kV_law_value dc_law_value pm_law_value cd_law_value ct_law_value : Value}
    {f_law_answers : Addr} {od_law_answers an_law_answers : Option Addr} {sl_law_answers : Array (Option Value)} {oc_law_answers kV_law_answers dc_law_answers pm_law_answers cd_law_answers ct_law_answers : Value}
    {f_law_cases : Addr} {od_law_cases an_law_cases : Option Addr} {sl_law_cases : Array (Option Value)} {oc_law_cases kV_law_cases dc_law_cases pm_law_cases cd_law_cases ct_law_cases : Value}
    {f_law_refuses : Addr} {od_law_refuses an_law_refuses : Option Addr} {sl_law_refuses : Array (Option Value)} {oc_law_refuses kV_law_refuses dc_law_refuses pm_law_refuses cd_law_refuses ct_law_refuses : Value}
    {f_law_shown : Addr} {od_law_shown an_law_shown : Option Addr} {sl_law_shown : Array (Option Value)} {oc_law_shown kV_law_shown dc_law_shown pm_law_shown cd_law_shown ct_law_shown : Value}
    {f_law_bare : Addr} {od_law_bare an_law_bare : Option Addr} {sl_law_bare : Array (Option Value)} {oc_law_bare kV_law_bare dc_law_bare pm_law_bare cd_law_bare ct_law_bare : Value}
    {f_law_hidden : Addr} {od_law_hidden an_law_hidden : Option Addr} {sl_law_hidden : Array (Option Value)} {oc_law_hidden kV_law_hidden dc_law_hidden pm_law_hidden cd_law_hidden ct_law_hidden : Value}
    {f_law : Addr} {od_law an_law : Option Addr} {sl_law : Array (Option Value)} {oc_law kV_law dc_law pm_law cd_law ct_law : Value}
    {c_GatesError : Addr}
    {c_NoSuchThing : Addr}
    {c_TooLarge : Addr}
    {a_CONSTANTS : Addr} {es_CONSTANTS : Array DictEntry} {n_CONSTANTS : Nat}
    {u0_CONSTANTS : Value}
    {u1_CONSTANTS : Value}
    {u_MOST_CASES : Value}
    {u_NANDS : Value}
    {ta_dv_NANDS : Addr} {to_dv_NANDS : Option Addr} {ts_dv_NANDS : Array Value} {tn_dv_NANDS : Nat} {tl_dv_NANDS : Array (Option Value)} (X : K.In h) (G : h.Ns mainGlobals mg) (hfa : mg "law" = some (.ref fa))
    (a_cell_value : PySem.W.nsIn K mainGlobals "cell_value" = some (some (.ref f_cell_value)))
    (l_cell_value : K.lookup f_cell_value = some ⟨oc_cell_value, od_cell_value, .func (PySem.W.fnOf "cell_value" "cell_value" (defArgs s_cell_value) (defBody s_cell_value) (defScope s_cell_value) .none kV_cell_value dc_cell_value pm_cell_value an_cell_value cd_cell_value ct_cell_value), sl_cell_value⟩)
    (c_cell_value : PySem.W.codeIn K cd_cell_value "cell_value" = true)
    (k_cell_value : PySem.W.keepIn K (.ref f_cell_value) = true)
    (a_latch_cells : PySem.W.nsIn K mainGlobals "latch_cells" = some (some (.ref f_latch_cells)))
    (l_latch_cells : K.lookup f_latch_cells = some ⟨oc_latch_cells, od_latch_cells, .func (PySem.W.fnOf "latch_cells" "latch_cells" (defArgs s_latch_cells) (defBody s_latch_cells) (defScope s_latch_cells) .none kV_latch_cells dc_latch_cells pm_latch_cells an_latch_cells cd_latch_cells ct_latch_cells), sl_latch_cells⟩)
    (c_latch_cells : PySem.W.codeIn K cd_latch_cells "latch_cells" = true)
    (k_latch_cells : PySem.W.keepIn K (.ref f_latch_cells) = true)
    (a_settled_values : PySem.W.nsIn K mainGlobals "settled_values" = some (some (.ref f_settled_values)))
    (l_settled_values : K.lookup f_settled_values = some ⟨oc_settled_values, od_settled_values, .func (PySem.W.fnOf "settled_values" "settled_values" (defArgs s_settled_values) (defBody s_settled_values) (defScope s_settled_values) .none kV_settled_values dc_settled_values pm_settled_values an_settled_values cd_settled_values ct_settled_values), sl_settled_values⟩)
    (c_settled_values : PySem.W.codeIn K cd_settled_values "settled_values" = true)
    (k_settled_values : PySem.W.keepIn K (.ref f_settled_values) = true)
    (a_bit_count : PySem.W.nsIn K mainGlobals "bit_count" = some (some (.ref f_bit_count)))
    (l_bit_count : K.lookup f_bit_count = some ⟨oc_bit_count, od_bit_count, .func (PySem.W.fnOf "bit_count" "bit_count" (defArgs s_bit_count) (defBody s_bit_count) (defScope s_bit_count) .none kV_bit_count dc_bit_count pm_bit_count an_bit_count cd_bit_count ct_bit_count), sl_bit_count⟩)
    (c_bit_count : PySem.W.codeIn K cd_bit_count "bit_count" = true)
    (k_bit_count : PySem.W.keepIn K (.ref f_bit_count) = true)
    (a_case_count : PySem.W.nsIn K mainGlobals "case_count" = some (some (.ref f_case_count)))
    (l_case_count : K.lookup f_case_count = some ⟨oc_case_count, od_case_count, .func (PySem.W.fnOf "case_count" "case_count" (defArgs s_case_count) (defBody s_case_count) (defScope s_case_count) .none kV_case_count dc_case_count pm_case_count an_case_count cd_case_count ct_case_count), sl_case_count⟩)
    (c_case_count : PySem.W.codeIn K cd_case_count "case_count" = true)
    (k_case_count : PySem.W.keepIn K (.ref f_case_count) = true)
    (a_case_bits : PySem.W.nsIn K mainGlobals "case_bits" = some (some (.ref f_case_bits)))
    (l_case_bits : K.lookup f_case_bits = some ⟨oc_case_bits, od_case_bits, .func (PySem.W.fnOf "case_bits" "case_bits" (defArgs s_case_bits) (defBody s_case_bits) (defScope s_case_bits) .none kV_case_bits dc_case_bits pm_case_bits an_case_bits cd_case_bits ct_case_bits), sl_case_bits⟩)
    (c_case_bits : PySem.W.codeIn K cd_case_bits "case_bits" = true)
    (k_case_bits : PySem.W.keepIn K (.ref f_case_bits) = true)
    (a_check_flaw : PySem.W.nsIn K mainGlobals "check_flaw" = some (some (.ref f_check_flaw)))
    (l_check_flaw : K.lookup f_check_flaw = some ⟨oc_check_flaw, od_check_flaw, .func (PySem.W.fnOf "check_flaw" "check_flaw" (defArgs s_check_flaw) (defBody s_check_flaw) (defScope s_check_flaw) .none kV_check_flaw dc_check_flaw pm_check_flaw an_check_flaw cd_check_flaw ct_check_flaw), sl_check_flaw⟩)
    (c_check_flaw : PySem.W.codeIn K cd_check_flaw "check_flaw" = true)
    (k_check_flaw : PySem.W.keepIn K (.ref f_check_flaw) = true)
    (a_answers : PySem.W.nsIn K mainGlobals "answers" = some (some (.ref f_answers)))
    (l_answers : K.lookup f_answers = some ⟨oc_answers, od_answers, .func (PySem.W.fnOf "answers" "answers" (defArgs s_answers) (defBody s_answers) (defScope s_answers) .none kV_answers dc_answers pm_answers an_answers cd_answers ct_answers), sl_answers⟩)
    (c_answers : PySem.W.codeIn K cd_answers "answers" = true)
    (k_answers : PySem.W.keepIn K (.ref f_answers) = true)
    (a_shows : PySem.W.nsIn K mainGlobals "shows" = some (some (.ref f_shows)))
    (l_shows : K.lookup f_shows = some ⟨oc_shows, od_shows, .func (PySem.W.fnOf "shows" "shows" (defArgs s_shows) (defBody s_shows) (defScope s_shows) .none kV_shows dc_shows pm_shows an_shows cd_shows ct_shows), sl_shows⟩)
    (c_shows : PySem.W.codeIn K cd_shows "shows" = true)
    (k_shows : PySem.W.keepIn K (.ref f_shows) = true)
    (a_check_size : PySem.W.nsIn K mainGlobals "check_size" = some (some (.ref f_check_size)))
    (l_check_size : K.lookup f_check_size = some ⟨oc_check_size, od_check_size, .func (PySem.W.fnOf "check_size" "check_size" (defArgs s_check_size) (defBody s_check_size) (defScope s_check_size) .none kV_check_size dc_check_size pm_check_size an_check_size cd_check_size ct_check_size), sl_check_size⟩)
    (c_check_size : PySem.W.codeIn K cd_check_size "check_size" = true)
    (k_check_size : PySem.W.keepIn K (.ref f_check_size) = true)
    (a_all_flaws : PySem.W.nsIn K mainGlobals "all_flaws" = some (some (.ref f_all_flaws)))
    (l_all_flaws : K.lookup f_all_flaws = some ⟨oc_all_flaws, od_all_flaws, .func (PySem.W.fnOf "all_flaws" "all_flaws" (defArgs s_all_flaws) (defBody s_all_flaws) (defScope s_all_flaws) .none kV_all_flaws dc_all_flaws pm_all_flaws an_all_flaws cd_all_flaws ct_all_flaws), sl_all_flaws⟩)
    (c_all_flaws : PySem.W.codeIn K cd_all_flaws "all_flaws" = true)
    (k_all_flaws : PySem.W.keepIn K (.ref f_all_flaws) = true)
    (a_first_case : PySem.W.nsIn K mainGlobals "first_case" = some (some (.ref f_first_case)))
    (l_first_case : K.lookup f_first_case = some ⟨oc_first_case, od_first_case, .func (PySem.W.fnOf "first_case" "first_case" (defArgs s_first_case) (defBody s_first_case) (defScope s_first_case) .none kV_first_case dc_first_case pm_first_case an_first_case cd_first_case ct_first_case), sl_first_case⟩)
    (c_first_case : PySem.W.codeIn K cd_first_case "first_case" = true)
    (k_first_case : PySem.W.keepIn K (.ref f_first_case) = true)
    (a_hidden_flaws : PySem.W.nsIn K mainGlobals "hidden_flaws" = some (some (.ref f_hidden_flaws)))
    (l_hidden_flaws : K.lookup f_hidden_flaws = some ⟨oc_hidden_flaws, od_hidden_flaws, .func (PySem.W.fnOf "hidden_flaws" "hidden_flaws" (defArgs s_hidden_flaws) (defBody s_hidden_flaws) (defScope s_hidden_flaws) .none kV_hidden_flaws dc_hidden_flaws pm_hidden_flaws an_hidden_flaws cd_hidden_flaws ct_hidden_flaws), sl_hidden_flaws⟩)
    (c_hidden_flaws : PySem.W.codeIn K cd_hidden_flaws "hidden_flaws" = true)
    (k_hidden_flaws : PySem.W.keepIn K (.ref f_hidden_flaws) = true)
    (a_make_tests : PySem.W.nsIn K mainGlobals "make_tests" = some (some (.ref f_make_tests)))
    (l_make_tests : K.lookup f_make_tests = some ⟨oc_make_tests, od_make_tests, .func (PySem.W.fnOf "make_tests" "make_tests" (defArgs s_make_tests) (defBody s_make_tests) (defScope s_make_tests) .none kV_make_tests dc_make_tests pm_make_tests an_make_tests cd_make_tests ct_make_tests), sl_make_tests⟩)
    (c_make_tests : PySem.W.codeIn K cd_make_tests "make_tests" = true)
    (k_make_tests : PySem.W.keepIn K (.ref f_make_tests) = true)
    (a_law_cell : PySem.W.nsIn K mainGlobals "_law_cell" = some (some (.ref f_law_cell)))
    (l_law_cell : K.lookup f_law_cell = some ⟨oc_law_cell, od_law_cell, .func (PySem.W.fnOf "_law_cell" "_law_cell" (defArgs s_law_cell) (defBody s_law_cell) (defScope s_law_cell) .none kV_law_cell dc_law_cell pm_law_cell an_law_cell cd_law_cell ct_law_cell), sl_law_cell⟩)
    (c_law_cell : PySem.W.codeIn K cd_law_cell "_law_cell" = true)
    (k_law_cell : PySem.W.keepIn K (.ref f_law_cell) = true)
    (a_law_parts : PySem.W.nsIn K mainGlobals "_law_parts" = some (some (.ref f_law_parts)))
    (l_law_parts : K.lookup f_law_parts = some ⟨oc_law_parts, od_law_parts, .func (PySem.W.fnOf "_law_parts" "_law_parts" (defArgs s_law_parts) (defBody s_law_parts) (defScope s_law_parts) .none kV_law_parts dc_law_parts pm_law_parts an_law_parts cd_law_parts ct_law_parts), sl_law_parts⟩)
    (c_law_parts : PySem.W.codeIn K cd_law_parts "_law_parts" = true)
    (k_law_parts : PySem.W.keepIn K (.ref f_law_parts) = true)
    (a_law_is_integer : PySem.W.nsIn K mainGlobals "_law_is_integer" = some (some (.ref f_law_is_integer)))
    (l_law_is_integer : K.lookup f_law_is_integer = some ⟨oc_law_is_integer, od_law_is_integer, .func (PySem.W.fnOf "_law_is_integer" "_law_is_integer" (defArgs s_law_is_integer) (defBody s_law_is_integer) (defScope s_law_is_integer) .none kV_law_is_integer dc_law_is_integer pm_law_is_integer an_law_is_integer cd_law_is_integer ct_law_is_integer), sl_law_is_integer⟩)
    (c_law_is_integer : PySem.W.codeIn K cd_law_is_integer "_law_is_integer" = true)
    (k_law_is_integer : PySem.W.keepIn K (.ref f_law_is_integer) = true)
    (a_law_kind : PySem.W.nsIn K mainGlobals "_law_kind" = some (some (.ref f_law_kind)))
    (l_law_kind : K.lookup f_law_kind = some ⟨oc_law_kind, od_law_kind, .func (PySem.W.fnOf "_law_kind" "_law_kind" (defArgs s_law_kind) (defBody s_law_kind) (defScope s_law_kind) .none kV_law_kind dc_law_kind pm_law_kind an_law_kind cd_law_kind ct_law_kind), sl_law_kind⟩)
    (c_law_kind : PySem.W.codeIn K cd_law_kind "_law_kind" = true)
    (k_law_kind : PySem.W.keepIn K (.ref f_law_kind) = true)
    (a_law_drawn : PySem.W.nsIn K mainGlobals "_law_drawn" = some (some (.ref f_law_drawn)))
    (l_law_drawn : K.lookup f_law_drawn = some ⟨oc_law_drawn, od_law_drawn, .func (PySem.W.fnOf "_law_drawn" "_law_drawn" (defArgs s_law_drawn) (defBody s_law_drawn) (defScope s_law_drawn) .none kV_law_drawn dc_law_drawn pm_law_drawn an_law_drawn cd_law_drawn ct_law_drawn), sl_law_drawn⟩)
    (c_law_drawn : PySem.W.codeIn K cd_law_drawn "_law_drawn" = true)
    (k_law_drawn : PySem.W.keepIn K (.ref f_law_drawn) = true)
    (a_law_circuit : PySem.W.nsIn K mainGlobals "_law_circuit" = some (some (.ref f_law_circuit)))
    (l_law_circuit : K.lookup f_law_circuit = some ⟨oc_law_circuit, od_law_circuit, .func (PySem.W.fnOf "_law_circuit" "_law_circuit" (defArgs s_law_circuit) (defBody s_law_circuit) (defScope s_law_circuit) .none kV_law_circuit dc_law_circuit pm_law_circuit an_law_circuit cd_law_circuit ct_law_circuit), sl_law_circuit⟩)
    (c_law_circuit : PySem.W.codeIn K cd_law_circuit "_law_circuit" = true)
    (k_law_circuit : PySem.W.keepIn K (.ref f_law_circuit) = true)
    (a_law_value : PySem.W.nsIn K mainGlobals "_law_value" = some (some (.ref f_law_value)))
    (l_law_value : K.lookup f_law_value = some ⟨oc_law_value, od_law_value, .func (PySem.W.fnOf "_law_value" "_law_value" (defArgs s_law_value) (defBody s_law_value) (defScope s_law_value) .none kV_law_value dc_law_value pm_law_value an_law_value cd_law_value ct_law_value), sl_law_value⟩)
    (c_law_value : PySem.W.codeIn K cd_law_value "_law_value" = true)
    (k_law_value : PySem.W.keepIn K (.ref f_law_value) = true)
    (a_law_answers : PySem.W.nsIn K mainGlobals "_law_answers" = some (some (.ref f_law_answers)))
    (l_law_answers : K.lookup f_law_answers = some ⟨oc_law_answers, od_law_answers, .func (PySem.W.fnOf "_law_answers" "_law_answers" (defArgs s_law_answers) (defBody s_law_answers) (defScope s_law_answers) .none kV_law_answers dc_law_answers pm_law_answers an_law_answers cd_law_answers ct_law_answers), sl_law_answers⟩)
    (c_law_answers : PySem.W.codeIn K cd_law_answers "_law_answers" = true)
    (k_law_answers : PySem.W.keepIn K (.ref f_law_answers) = true)
    (a_law_cases : PySem.W.nsIn K mainGlobals "_law_cases" = some (some (.ref f_law_cases)))
    (l_law_cases : K.lookup f_law_cases = some ⟨oc_law_cases, od_law_cases, .func (PySem.W.fnOf "_law_cases" "_law_cases" (defArgs s_law_cases) (defBody s_law_cases) (defScope s_law_cases) .none kV_law_cases dc_law_cases pm_law_cases an_law_cases cd_law_cases ct_law_cases), sl_law_cases⟩)
    (c_law_cases : PySem.W.codeIn K cd_law_cases "_law_cases" = true)
    (k_law_cases : PySem.W.keepIn K (.ref f_law_cases) = true)
    (a_law_refuses : PySem.W.nsIn K mainGlobals "_law_refuses" = some (some (.ref f_law_refuses)))
    (l_law_refuses : K.lookup f_law_refuses = some ⟨oc_law_refuses, od_law_refuses, .func (PySem.W.fnOf "_law_refuses" "_law_refuses" (defArgs s_law_refuses) (defBody s_law_refuses) (defScope s_law_refuses) .none kV_law_refuses dc_law_refuses pm_law_refuses an_law_refuses cd_law_refuses ct_law_refuses), sl_law_refuses⟩)
    (c_law_refuses : PySem.W.codeIn K cd_law_refuses "_law_refuses" = true)
    (k_law_refuses : PySem.W.keepIn K (.ref f_law_refuses) = true)
    (a_law_shown : PySem.W.nsIn K mainGlobals "_law_shown" = some (some (.ref f_law_shown)))
    (l_law_shown : K.lookup f_law_shown = some ⟨oc_law_shown, od_law_shown, .func (PySem.W.fnOf "_law_shown" "_law_shown" (defArgs s_law_shown) (defBody s_law_shown) (defScope s_law_shown) .none kV_law_shown dc_law_shown pm_law_shown an_law_shown cd_law_shown ct_law_shown), sl_law_shown⟩)
    (c_law_shown : PySem.W.codeIn K cd_law_shown "_law_shown" = true)
    (k_law_shown : PySem.W.keepIn K (.ref f_law_shown) = true)
    (a_law_bare : PySem.W.nsIn K mainGlobals "_law_bare" = some (some (.ref f_law_bare)))
    (l_law_bare : K.lookup f_law_bare = some ⟨oc_law_bare, od_law_bare, .func (PySem.W.fnOf "_law_bare" "_law_bare" (defArgs s_law_bare) (defBody s_law_bare) (defScope s_law_bare) .none kV_law_bare dc_law_bare pm_law_bare an_law_bare cd_law_bare ct_law_bare), sl_law_bare⟩)
    (c_law_bare : PySem.W.codeIn K cd_law_bare "_law_bare" = true)
    (k_law_bare : PySem.W.keepIn K (.ref f_law_bare) = true)
    (a_law_hidden : PySem.W.nsIn K mainGlobals "_law_hidden" = some (some (.ref f_law_hidden)))
    (l_law_hidden : K.lookup f_law_hidden = some ⟨oc_law_hidden, od_law_hidden, .func (PySem.W.fnOf "_law_hidden" "_law_hidden" (defArgs s_law_hidden) (defBody s_law_hidden) (defScope s_law_hidden) .none kV_law_hidden dc_law_hidden pm_law_hidden an_law_hidden cd_law_hidden ct_law_hidden), sl_law_hidden⟩)
    (c_law_hidden : PySem.W.codeIn K cd_law_hidden "_law_hidden" = true)
    (k_law_hidden : PySem.W.keepIn K (.ref f_law_hidden) = true)
    (a_law : PySem.W.nsIn K mainGlobals "law" = some (some (.ref f_law)))
    (l_law : K.lookup f_law = some ⟨oc_law, od_law, .func (PySem.W.fnOf "law" "law" (defArgs s_law) (defBody s_law) (defScope s_law) .none kV_law dc_law pm_law an_law cd_law ct_law), sl_law⟩)
    (c_law : PySem.W.codeIn K cd_law "law" = true)
    (k_law : PySem.W.keepIn K (.ref f_law) = true)
    (z_all : PySem.W.nsIn K mainGlobals "all" = some none)
    (z_any : PySem.W.nsIn K mainGlobals "any" = some none)
    (z_bool : PySem.W.nsIn K mainGlobals "bool" = some none)
    (z_enumerate : PySem.W.nsIn K mainGlobals "enumerate" = some none)
    (z_int : PySem.W.nsIn K mainGlobals "int" = some none)
    (z_isinstance : PySem.W.nsIn K mainGlobals "isinstance" = some none)
    (z_len : PySem.W.nsIn K mainGlobals "len" = some none)
    (z_list : PySem.W.nsIn K mainGlobals "list" = some none)
    (z_max : PySem.W.nsIn K mainGlobals "max" = some none)
    (z_min : PySem.W.nsIn K mainGlobals "min" = some none)
    (z_range : PySem.W.nsIn K mainGlobals "range" = some none)
    (z_sum : PySem.W.nsIn K mainGlobals "sum" = some none)
    (z_tuple : PySem.W.nsIn K mainGlobals "tuple" = some none)
    (e1_GatesError : PySem.W.nsIn K mainGlobals "GatesError" = some (some (.ref c_GatesError)))
    (e3_GatesError : PySem.W.keepIn K (.ref c_GatesError) = true)
    (e4_GatesError : PySem.W.subIn K (.ref c_GatesError) (.type "BaseException") = some true)
    (e5_GatesError : PySem.W.typeIn K (.ref c_GatesError) = some (.type "type"))
    (e6_GatesError : PySem.W.isClsIn K c_GatesError = true)
    (e7_GatesError : PySem.W.subIn K (.ref c_GatesError) (.ref c_GatesError) = some true)
    (e1_NoSuchThing : PySem.W.nsIn K mainGlobals "NoSuchThing" = some (some (.ref c_NoSuchThing)))
    (e2_NoSuchThing : PySem.W.excIn K c_NoSuchThing [.type "ValueError", .type "Exception", .type "BaseException", .type "object"] "ValueError.__new__" = true)
    (e3_NoSuchThing : PySem.W.keepIn K (.ref c_NoSuchThing) = true)
    (e4_NoSuchThing : PySem.W.subIn K (.ref c_NoSuchThing) (.type "BaseException") = some true)
    (e5_NoSuchThing : PySem.W.typeIn K (.ref c_NoSuchThing) = some (.type "type"))
    (e6_NoSuchThing : PySem.W.isClsIn K c_NoSuchThing = true)
    (e7_NoSuchThing : PySem.W.subIn K (.ref c_NoSuchThing) (.ref c_NoSuchThing) = some true)
    (e1_TooLarge : PySem.W.nsIn K mainGlobals "TooLarge" = some (some (.ref c_TooLarge)))
    (e2_TooLarge : PySem.W.excIn K c_TooLarge [.type "ValueError", .type "Exception", .type "BaseException", .type "object"] "ValueError.__new__" = true)
    (e3_TooLarge : PySem.W.keepIn K (.ref c_TooLarge) = true)
    (e4_TooLarge : PySem.W.subIn K (.ref c_TooLarge) (.type "BaseException") = some true)
    (e5_TooLarge : PySem.W.typeIn K (.ref c_TooLarge) = some (.type "type"))
    (e6_TooLarge : PySem.W.isClsIn K c_TooLarge = true)
    (e7_TooLarge : PySem.W.subIn K (.ref c_TooLarge) (.ref c_TooLarge) = some true)
    (es_GatesError_NoSuchThing : PySem.W.subIn K (.ref c_NoSuchThing) (.ref c_GatesError) = some true)
    (es_GatesError_TooLarge : PySem.W.subIn K (.ref c_TooLarge) (.ref c_GatesError) = some true)
    (es_TooLarge_NoSuchThing : PySem.W.subIn K (.ref c_NoSuchThing) (.ref c_TooLarge) = some false)
    (xa_NoSuchThing : PySem.W.findIn K (.ref c_NoSuchThing) "__getattribute__" = some (some (.builtin "BaseException.__getattribute__")))
    (xb_NoSuchThing : PySem.W.findIn K (.ref c_NoSuchThing) "__getattr__" = some none)
    (xd_NoSuchThing : PySem.W.hasDictIn K c_NoSuchThing = true)
    (xe_NoSuchThing : PySem.W.findIn K (.ref c_NoSuchThing) "__class__" = some (some (.builtin "object.__class__")))
    (xm_NoSuchThing : PySem.W.mroIn K c_NoSuchThing (.type "object") = some true)
    (xa_TooLarge : PySem.W.findIn K (.ref c_TooLarge) "__getattribute__" = some (some (.builtin "BaseException.__getattribute__")))
    (xb_TooLarge : PySem.W.findIn K (.ref c_TooLarge) "__getattr__" = some none)
    (xd_TooLarge : PySem.W.hasDictIn K c_TooLarge = true)
    (xe_TooLarge : PySem.W.findIn K (.ref c_TooLarge) "__class__" = some (some (.builtin "object.__class__")))
    (xm_TooLarge : PySem.W.mroIn K c_TooLarge (.type "object") = some true)
    (xn : PySem.W.specialIn K (.builtin "object.__class__") "__get__" = some (some (.builtin "getset_descriptor.__get__")))
    (xt : PySem.W.takesIn K (.builtin "object.__class__") = some true)
    (d1_CONSTANTS : PySem.W.nsIn K mainGlobals "CONSTANTS" = some (some (.ref a_CONSTANTS)))
    (d2_CONSTANTS : K.lookup a_CONSTANTS = some ⟨.type "dict", none, .dict es_CONSTANTS n_CONSTANTS, #[]⟩)
    (d3_CONSTANTS : PySem.W.KeysLit w.params es_CONSTANTS.toList)
    (d4_CONSTANTS : (a_CONSTANTS == sysModules) = false)
    (dn0_CONSTANTS : PySem.W.nsIn K a_CONSTANTS "not" = some none)
    (dn1_CONSTANTS : PySem.W.nsIn K a_CONSTANTS "nand2" = some none)
    (dn2_CONSTANTS : PySem.W.nsIn K a_CONSTANTS "nand3" = some none)
    (dn3_CONSTANTS : PySem.W.nsIn K a_CONSTANTS "nor2" = some none)
    (dn4_CONSTANTS : PySem.W.nsIn K a_CONSTANTS "nor3" = some none)
    (dy0_CONSTANTS : PySem.W.nsIn K a_CONSTANTS "tie0" = some (some u0_CONSTANTS))
    (r_dv0_CONSTANTS : RelV (.int 0) u0_CONSTANTS)
    (dy1_CONSTANTS : PySem.W.nsIn K a_CONSTANTS "tie1" = some (some u1_CONSTANTS))
    (r_dv1_CONSTANTS : RelV (.int 1) u1_CONSTANTS)
    (d1_MOST_CASES : PySem.W.nsIn K mainGlobals "MOST_CASES" = some (some u_MOST_CASES))
    (r_dv_MOST_CASES : RelV (.int 64) u_MOST_CASES)
    (d1_NANDS : PySem.W.nsIn K mainGlobals "NANDS" = some (some u_NANDS))
    (r_dv_NANDS : RelV (.ref ta_dv_NANDS) u_NANDS)
    (tk_dv_NANDS : K.lookup ta_dv_NANDS = some ⟨.type "tuple", to_dv_NANDS, .seq ts_dv_NANDS tn_dv_NANDS, tl_dv_NANDS⟩)
    (tv_dv_NANDS : Vals [V.str (S "not"), V.str (S "nand2"), V.str (S "nand3")] ts_dv_NANDS.toList)
    (tz_dv_NANDS : ts_dv_NANDS.size ≤ sizeLine) :
    ∃ fd : FuncData, (∀ (s : Shared) (v : Value), BindsTo s fd ⟨[v], []⟩ [("script", v)]) ∧ ∀ base : Heap, K.In base → base.Ns mainGlobals mg → FnOk P w K mg base (L2.CX P w) 10 fa fd ["script"] (spTop K) := by
  have e := hfa.symm.trans (PySem.W.mg_of X G a_law)
  cases e
  have F_cell_value := fun_mk (st := s_cell_value) l_cell_value c_cell_value k_cell_value
  have b_cell_value := F_cell_value.binds (ps := ["kind", "values"]) fun _ _ _ _ _ _ us hl => match us, hl with | [_, _], _ => rfl
  have F_latch_cells := fun_mk (st := s_latch_cells) l_latch_cells c_latch_cells k_latch_cells
  have b_latch_cells := F_latch_cells.binds (ps := ["circuit"]) fun _ _ _ _ _ _ us hl => match us, hl with | [_], _ => rfl
  have F_settled_values := fun_mk (st := s_settled_values) l_settled_values c_settled_values k_settled_values
  have b_settled_values := F_settled_values.binds (ps := ["circuit", "inputs", "states", "stuck"]) fun _ _ _ _ _ _ us hl => match us, hl with | [_, _, _, _], _ => rfl
  have F_bit_count := fun_mk (st := s_bit_count) l_bit_count c_bit_count k_bit_count
  have b_bit_count := F_bit_count.binds (ps := ["circuit"]) fun _ _ _ _ _ _ us hl => match us, hl with | [_], _ => rfl
  have F_case_count := fun_mk (st := s_case_count) l_case_count c_case_count k_case_count
  have b_case_count := F_case_count.binds (ps := ["circuit"]) fun _ _ _ _ _ _ us hl => match us, hl with | [_], _ => rfl
  have F_case_bits := fun_mk (st := s_case_bits) l_case_bits c_case_bits k_case_bits
  have b_case_bits := F_case_bits.binds (ps := ["circuit", "case"]) fun _ _ _ _ _ _ us hl => match us, hl with | [_, _], _ => rfl
  have F_check_flaw := fun_mk (st := s_check_flaw) l_check_flaw c_check_flaw k_check_flaw
  have b_check_flaw := F_check_flaw.binds (ps := ["circuit", "flaw"]) fun _ _ _ _ _ _ us hl => match us, hl with | [_, _], _ => rfl
  have F_answers := fun_mk (st := s_answers) l_answers c_answers k_answers
  have b_answers := F_answers.binds (ps := ["circuit", "case", "stuck"]) fun _ _ _ _ _ _ us hl => match us, hl with | [_, _, _], _ => rfl
  have F_shows := fun_mk (st := s_shows) l_shows c_shows k_shows
  have b_shows := F_shows.binds (ps := ["circuit", "flaw", "case"]) fun _ _ _ _ _ _ us hl => match us, hl with | [_, _, _], _ => rfl
  have F_check_size := fun_mk (st := s_check_size) l_check_size c_check_size k_check_size
  have b_check_size := F_check_size.binds (ps := ["circuit"]) fun _ _ _ _ _ _ us hl => match us, hl with | [_], _ => rfl
  have F_all_flaws := fun_mk (st := s_all_flaws) l_all_flaws c_all_flaws k_all_flaws
  have b_all_flaws := F_all_flaws.binds (ps := ["circuit"]) fun _ _ _ _ _ _ us hl => match us, hl with | [_], _ => rfl
  have F_first_case := fun_mk (st := s_first_case) l_first_case c_first_case k_first_case
  have b_first_case := F_first_case.binds (ps := ["circuit", "flaw"]) fun _ _ _ _ _ _ us hl => match us, hl with | [_, _], _ => rfl
  have F_hidden_flaws := fun_mk (st := s_hidden_flaws) l_hidden_flaws c_hidden_flaws k_hidden_flaws
  have b_hidden_flaws := F_hidden_flaws.binds (ps := ["circuit"]) fun _ _ _ _ _ _ us hl => match us, hl with | [_], _ => rfl
  have F_make_tests := fun_mk (st := s_make_tests) l_make_tests c_make_tests k_make_tests
  have b_make_tests := F_make_tests.binds (ps := ["circuit"]) fun _ _ _ _ _ _ us hl => match us, hl with | [_], _ => rfl
  have F_law_cell := fun_mk (st := s_law_cell) l_law_cell c_law_cell k_law_cell
  have b_law_cell := F_law_cell.binds (ps := ["script", "k"]) fun _ _ _ _ _ _ us hl => match us, hl with | [_, _], _ => rfl
  have F_law_parts := fun_mk (st := s_law_parts) l_law_parts c_law_parts k_law_parts
  have b_law_parts := F_law_parts.binds (ps := ["cell", "sizes"]) fun _ _ _ _ _ _ us hl => match us, hl with | [_, _], _ => rfl
  have F_law_is_integer := fun_mk (st := s_law_is_integer) l_law_is_integer c_law_is_integer k_law_is_integer
  have b_law_is_integer := F_law_is_integer.binds (ps := ["actual"]) fun _ _ _ _ _ _ us hl => match us, hl with | [_], _ => rfl
  have F_law_kind := fun_mk (st := s_law_kind) l_law_kind c_law_kind k_law_kind
  have b_law_kind := F_law_kind.binds (ps := ["parts", "nets", "latches"]) fun _ _ _ _ _ _ us hl => match us, hl with | [_, _, _], _ => rfl
  have F_law_drawn := fun_mk (st := s_law_drawn) l_law_drawn c_law_drawn k_law_drawn
  have b_law_drawn := F_law_drawn.binds (ps := ["parts", "count", "nets"]) fun _ _ _ _ _ _ us hl => match us, hl with | [_, _, _], _ => rfl
  have F_law_circuit := fun_mk (st := s_law_circuit) l_law_circuit c_law_circuit k_law_circuit
  have b_law_circuit := F_law_circuit.binds (ps := ["script", "most"]) fun _ _ _ _ _ _ us hl => match us, hl with | [_, _], _ => rfl
  have F_law_value := fun_mk (st := s_law_value) l_law_value c_law_value k_law_value
  have b_law_value := F_law_value.binds (ps := ["kind", "bits"]) fun _ _ _ _ _ _ us hl => match us, hl with | [_, _], _ => rfl
  have F_law_answers := fun_mk (st := s_law_answers) l_law_answers c_law_answers k_law_answers
  have b_law_answers := F_law_answers.binds (ps := ["circuit", "case", "net", "value"]) fun _ _ _ _ _ _ us hl => match us, hl with | [_, _, _, _], _ => rfl
  have F_law_cases := fun_mk (st := s_law_cases) l_law_cases c_law_cases k_law_cases
  have b_law_cases := F_law_cases.binds (ps := ["circuit"]) fun _ _ _ _ _ _ us hl => match us, hl with | [_], _ => rfl
  have F_law_refuses := fun_mk (st := s_law_refuses) l_law_refuses c_law_refuses k_law_refuses
  have b_law_refuses := F_law_refuses.binds (ps := ["circuit"]) fun _ _ _ _ _ _ us hl => match us, hl with | [_], _ => rfl
  have F_law_shown := fun_mk (st := s_law_shown) l_law_shown c_law_shown k_law_shown
  have b_law_shown := F_law_shown.binds (ps := ["circuit"]) fun _ _ _ _ _ _ us hl => match us, hl with | [_], _ => rfl
  have F_law_bare := fun_mk (st := s_law_bare) l_law_bare c_law_bare k_law_bare
  have b_law_bare := F_law_bare.binds (ps := ["script", "circuit"]) fun _ _ _ _ _ _ us hl => match us, hl with | [_, _], _ => rfl
  have F_law_hidden := fun_mk (st := s_law_hidden) l_law_hidden c_law_hidden k_law_hidden
  have b_law_hidden := F_law_hidden.binds (ps := ["circuit", "shown"]) fun _ _ _ _ _ _ us hl => match us, hl with | [_, _], _ => rfl
  have F_law := fun_mk (st := s_law) l_law c_law k_law
  have b_law := F_law.binds (ps := ["script"]) fun _ _ _ _ _ _ us hl => match us, hl with | [_], _ => rfl
  have T : ∃ T : Tx K mg w, T.f_law = fa ∧ T.fd_law = PySem.W.fnOf "law" "law" (defArgs s_law) (defBody s_law) (defScope s_law) .none kV_law dc_law pm_law an_law cd_law ct_law := ⟨{
    f_cell_value := f_cell_value,
    fd_cell_value := _,
    F_cell_value := F_cell_value,
    g_cell_value := PySem.W.mg_of X G a_cell_value,
    kp_cell_value := k_cell_value,
    b_cell_value := b_cell_value,
    f_latch_cells := f_latch_cells,
    fd_latch_cells := _,
    F_latch_cells := F_latch_cells,
    g_latch_cells := PySem.W.mg_of X G a_latch_cells,
    kp_latch_cells := k_latch_cells,
    b_latch_cells := b_latch_cells,
    f_settled_values := f_settled_values,
    fd_settled_values := _,
    F_settled_values := F_settled_values,
    g_settled_values := PySem.W.mg_of X G a_settled_values,
    kp_settled_values := k_settled_values,
    b_settled_values := b_settled_values,
    f_bit_count := f_bit_count,
    fd_bit_count := _,
    F_bit_count := F_bit_count,
    g_bit_count := PySem.W.mg_of X G a_bit_count,
    kp_bit_count := k_bit_count,
    b_bit_count := b_bit_count,
    f_case_count := f_case_count,
    fd_case_count := _,
    F_case_count := F_case_count,
    g_case_count := PySem.W.mg_of X G a_case_count,
    kp_case_count := k_case_count,
    b_case_count := b_case_count,
    f_case_bits := f_case_bits,
    fd_case_bits := _,
    F_case_bits := F_case_bits,
    g_case_bits := PySem.W.mg_of X G a_case_bits,
    kp_case_bits := k_case_bits,
    b_case_bits := b_case_bits,
    f_check_flaw := f_check_flaw,
    fd_check_flaw := _,
    F_check_flaw := F_check_flaw,
    g_check_flaw := PySem.W.mg_of X G a_check_flaw,
    kp_check_flaw := k_check_flaw,
    b_check_flaw := b_check_flaw,
    f_answers := f_answers,
    fd_answers := _,
    F_answers := F_answers,
    g_answers := PySem.W.mg_of X G a_answers,
    kp_answers := k_answers,
    b_answers := b_answers,
    f_shows := f_shows,
    fd_shows := _,
    F_shows := F_shows,
    g_shows := PySem.W.mg_of X G a_shows,
    kp_shows := k_shows,
    b_shows := b_shows,
    f_check_size := f_check_size,
    fd_check_size := _,
    F_check_size := F_check_size,
    g_check_size := PySem.W.mg_of X G a_check_size,
    kp_check_size := k_check_size,
    b_check_size := b_check_size,
    f_all_flaws := f_all_flaws,
    fd_all_flaws := _,
    F_all_flaws := F_all_flaws,
    g_all_flaws := PySem.W.mg_of X G a_all_flaws,
    kp_all_flaws := k_all_flaws,
    b_all_flaws := b_all_flaws,
    f_first_case := f_first_case,
    fd_first_case := _,
    F_first_case := F_first_case,
    g_first_case := PySem.W.mg_of X G a_first_case,
    kp_first_case := k_first_case,
    b_first_case := b_first_case,
    f_hidden_flaws := f_hidden_flaws,
    fd_hidden_flaws := _,
    F_hidden_flaws := F_hidden_flaws,
    g_hidden_flaws := PySem.W.mg_of X G a_hidden_flaws,
    kp_hidden_flaws := k_hidden_flaws,
    b_hidden_flaws := b_hidden_flaws,
    f_make_tests := f_make_tests,
    fd_make_tests := _,
    F_make_tests := F_make_tests,
    g_make_tests := PySem.W.mg_of X G a_make_tests,
    kp_make_tests := k_make_tests,
    b_make_tests := b_make_tests,
    f_law_cell := f_law_cell,
    fd_law_cell := _,
    F_law_cell := F_law_cell,
    g_law_cell := PySem.W.mg_of X G a_law_cell,
    kp_law_cell := k_law_cell,
    b_law_cell := b_law_cell,
    f_law_parts := f_law_parts,
    fd_law_parts := _,
    F_law_parts := F_law_parts,
    g_law_parts := PySem.W.mg_of X G a_law_parts,
    kp_law_parts := k_law_parts,
    b_law_parts := b_law_parts,
    f_law_is_integer := f_law_is_integer,
    fd_law_is_integer := _,
    F_law_is_integer := F_law_is_integer,
    g_law_is_integer := PySem.W.mg_of X G a_law_is_integer,
    kp_law_is_integer := k_law_is_integer,
    b_law_is_integer := b_law_is_integer,
    f_law_kind := f_law_kind,
    fd_law_kind := _,
    F_law_kind := F_law_kind,
    g_law_kind := PySem.W.mg_of X G a_law_kind,
    kp_law_kind := k_law_kind,
    b_law_kind := b_law_kind,
    f_law_drawn := f_law_drawn,
    fd_law_drawn := _,
    F_law_drawn := F_law_drawn,
    g_law_drawn := PySem.W.mg_of X G a_law_drawn,
    kp_law_drawn := k_law_drawn,
    b_law_drawn := b_law_drawn,
    f_law_circuit := f_law_circuit,
    fd_law_circuit := _,
    F_law_circuit := F_law_circuit,
    g_law_circuit := PySem.W.mg_of X G a_law_circuit,
    kp_law_circuit := k_law_circuit,
    b_law_circuit := b_law_circuit,
    f_law_value := f_law_value,
    fd_law_value := _,
    F_law_value := F_law_value,
    g_law_value := PySem.W.mg_of X G a_law_value,
    kp_law_value := k_law_value,
    b_law_value := b_law_value,
    f_law_answers := f_law_answers,
    fd_law_answers := _,
    F_law_answers := F_law_answers,
    g_law_answers := PySem.W.mg_of X G a_law_answers,
    kp_law_answers := k_law_answers,
    b_law_answers := b_law_answers,
    f_law_cases := f_law_cases,
    fd_law_cases := _,
    F_law_cases := F_law_cases,
    g_law_cases := PySem.W.mg_of X G a_law_cases,
    kp_law_cases := k_law_cases,
    b_law_cases := b_law_cases,
    f_law_refuses := f_law_refuses,
    fd_law_refuses := _,
    F_law_refuses := F_law_refuses,
    g_law_refuses := PySem.W.mg_of X G a_law_refuses,
    kp_law_refuses := k_law_refuses,
    b_law_refuses := b_law_refuses,
    f_law_shown := f_law_shown,
    fd_law_shown := _,
    F_law_shown := F_law_shown,
    g_law_shown := PySem.W.mg_of X G a_law_shown,
    kp_law_shown := k_law_shown,
    b_law_shown := b_law_shown,
    f_law_bare := f_law_bare,
    fd_law_bare := _,
    F_law_bare := F_law_bare,
    g_law_bare := PySem.W.mg_of X G a_law_bare,
    kp_law_bare := k_law_bare,
    b_law_bare := b_law_bare,
    f_law_hidden := f_law_hidden,
    fd_law_hidden := _,
    F_law_hidden := F_law_hidden,
    g_law_hidden := PySem.W.mg_of X G a_law_hidden,
    kp_law_hidden := k_law_hidden,
    b_law_hidden := b_law_hidden,
    f_law := fa,
    fd_law := _,
    F_law := F_law,
    g_law := PySem.W.mg_of X G a_law,
    kp_law := k_law,
    b_law := b_law,
    m_all := PySem.W.mg_none_of X G z_all,
    m_any := PySem.W.mg_none_of X G z_any,
    m_bool := PySem.W.mg_none_of X G z_bool,
    m_enumerate := PySem.W.mg_none_of X G z_enumerate,
    m_int := PySem.W.mg_none_of X G z_int,
    m_isinstance := PySem.W.mg_none_of X G z_isinstance,
    m_len := PySem.W.mg_none_of X G z_len,
    m_list := PySem.W.mg_none_of X G z_list,
    m_max := PySem.W.mg_none_of X G z_max,
    m_min := PySem.W.mg_none_of X G z_min,
    m_range := PySem.W.mg_none_of X G z_range,
    m_sum := PySem.W.mg_none_of X G z_sum,
    m_tuple := PySem.W.mg_none_of X G z_tuple,
    c_GatesError := c_GatesError,
    g_GatesError := PySem.W.mg_of X G e1_GatesError,
    kp_GatesError := e3_GatesError,
    sb_GatesError := e4_GatesError,
    ty_GatesError := e5_GatesError,
    x_NoSuchThing := e2_NoSuchThing,
    c_NoSuchThing := c_NoSuchThing,
    g_NoSuchThing := PySem.W.mg_of X G e1_NoSuchThing,
    kp_NoSuchThing := e3_NoSuchThing,
    sb_NoSuchThing := e4_NoSuchThing,
    ty_NoSuchThing := e5_NoSuchThing,
    x_TooLarge := e2_TooLarge,
    c_TooLarge := c_TooLarge,
    g_TooLarge := PySem.W.mg_of X G e1_TooLarge,
    kp_TooLarge := e3_TooLarge,
    sb_TooLarge := e4_TooLarge,
    ty_TooLarge := e5_TooLarge,
    em_GatesError_NoSuchThing := exm_of2 e4_GatesError e6_GatesError e5_GatesError es_GatesError_NoSuchThing,
    em_GatesError_TooLarge := exm_of2 e4_GatesError e6_GatesError e5_GatesError es_GatesError_TooLarge,
    ki_TooLarge_NoSuchThing := kit_of2 e7_NoSuchThing e6_TooLarge e5_TooLarge es_TooLarge_NoSuchThing,
    ki_TooLarge_TooLarge := kit_of2 e7_TooLarge e6_TooLarge e5_TooLarge e7_TooLarge,
    xc_NoSuchThing := ⟨xa_NoSuchThing, xb_NoSuchThing, e4_NoSuchThing, xd_NoSuchThing, xe_NoSuchThing, xn, xt, xm_NoSuchThing⟩,
    xc_TooLarge := ⟨xa_TooLarge, xb_TooLarge, e4_TooLarge, xd_TooLarge, xe_TooLarge, xn, xt, xm_TooLarge⟩,
    a_CONSTANTS := a_CONSTANTS,
    g_CONSTANTS := PySem.W.mg_of X G d1_CONSTANTS,
    t_CONSTANTS := ktab_mk ⟨_, _, d2_CONSTANTS, d3_CONSTANTS, d4_CONSTANTS⟩ (⟨⟨_, _, dy0_CONSTANTS, r_dv0_CONSTANTS, fun _ => .int _⟩, ⟨⟨_, _, dy1_CONSTANTS, r_dv1_CONSTANTS, fun _ => .int _⟩, ⟨dn0_CONSTANTS, ⟨dn1_CONSTANTS, ⟨dn2_CONSTANTS, ⟨dn3_CONSTANTS, ⟨dn4_CONSTANTS, trivial⟩⟩⟩⟩⟩⟩⟩),
    a_MOST_CASES := .int 64,
    u_MOST_CASES := _,
    g_MOST_CASES := PySem.W.mg_of X G d1_MOST_CASES,
    r_MOST_CASES := r_dv_MOST_CASES,
    k_MOST_CASES := fun _ => .int _,
    a_NANDS := .ref ta_dv_NANDS,
    u_NANDS := _,
    g_NANDS := PySem.W.mg_of X G d1_NANDS,
    r_NANDS := r_dv_NANDS,
    k_NANDS := fun _ => .kt (.inr ⟨_, _, _, tk_dv_NANDS, rfl, rfl, tz_dv_NANDS, tv_dv_NANDS⟩) (.cons (.str _) (.cons (.str _) (.cons (.str _) (.nil)))) }, rfl, rfl⟩
  obtain ⟨T, e1, e2⟩ := T
  refine ⟨PySem.W.fnOf "law" "law" (defArgs s_law) (defBody s_law) (defScope s_law) .none kV_law dc_law pm_law an_law cd_law ct_law, fun s v => .of_eq rfl, fun base _ _ => ?_⟩
  have z := law_ok (P := P) (base := base) T
  rw [e1, e2] at z
  exact z
end K10
open PySem PySem.W PyProof.Rows
set_option maxHeartbeats 0 in
theorem PySem.Challenge.cw_pinsalone_k10_tests_show_all_flaws_holds : PySem.Challenge.rw_pinsalone_k10_tests_show_all_flaws.Holds := by
  w_on; o_law; k_head; (case hw => w_witness2)
  k_fill
  refine L2.walk_of (l := PySem.Challenge.rw_pinsalone_k10_tests_show_all_flaws) (n := 63) (k := 10) (x := "script") (CX := fun w => L2.CX PySem.Challenge.rw_pinsalone_k10_tests_show_all_flaws.prog w) (sp := fun w => PV.spTop _) rfl (by decide) rfl ⟨rfl, by decide, by decide⟩ (fun w h Y => PySem.W.kIn_of Y) ?F (fun _ _ a ns hl _ hS => ⟨a, ns, rfl, hS, hl, fun _ => rfl⟩) (fun w H s e s' h => PV.cx_false h)
  case F =>
    intro w mg fa h KX G hmg
    refine' K10.all_mk KX G hmg ?a_cell_value ?l_cell_value ?c_cell_value ?k_cell_value ?a_latch_cells ?l_latch_cells ?c_latch_cells ?k_latch_cells ?a_settled_values ?l_settled_values ?c_settled_values ?k_settled_values ?a_bit_count ?l_bit_count ?c_bit_count ?k_bit_count ?a_case_count ?l_case_count ?c_case_count ?k_case_count ?a_case_bits ?l_case_bits ?c_case_bits ?k_case_bits ?a_check_flaw ?l_check_flaw ?c_check_flaw ?k_check_flaw ?a_answers ?l_answers ?c_answers ?k_answers ?a_shows ?l_shows ?c_shows ?k_shows ?a_check_size ?l_check_size ?c_check_size ?k_check_size ?a_all_flaws ?l_all_flaws ?c_all_flaws ?k_all_flaws ?a_first_case ?l_first_case ?c_first_case ?k_first_case ?a_hidden_flaws ?l_hidden_flaws ?c_hidden_flaws ?k_hidden_flaws ?a_make_tests ?l_make_tests ?c_make_tests ?k_make_tests ?a_law_cell ?l_law_cell ?c_law_cell ?k_law_cell ?a_law_parts ?l_law_parts ?c_law_parts ?k_law_parts ?a_law_is_integer ?l_law_is_integer ?c_law_is_integer ?k_law_is_integer ?a_law_kind ?l_law_kind ?c_law_kind ?k_law_kind ?a_law_drawn ?l_law_drawn ?c_law_drawn ?k_law_drawn ?a_law_circuit ?l_law_circuit ?c_law_circuit ?k_law_circuit ?a_law_value ?l_law_value ?c_law_value ?k_law_value ?a_law_answers ?l_law_answers ?c_law_answers ?k_law_answers ?a_law_cases ?l_law_cases ?c_law_cases ?k_law_cases ?a_law_refuses ?l_law_refuses ?c_law_refuses ?k_law_refuses ?a_law_shown ?l_law_shown ?c_law_shown ?k_law_shown ?a_law_bare ?l_law_bare ?c_law_bare ?k_law_bare ?a_law_hidden ?l_law_hidden ?c_law_hidden ?k_law_hidden ?a_law ?l_law ?c_law ?k_law ?z_all ?z_any ?z_bool ?z_enumerate ?z_int ?z_isinstance ?z_len ?z_list ?z_max ?z_min ?z_range ?z_sum ?z_tuple ?e1_GatesError ?e3_GatesError ?e4_GatesError ?e5_GatesError ?e6_GatesError ?e7_GatesError ?e1_NoSuchThing ?e2_NoSuchThing ?e3_NoSuchThing ?e4_NoSuchThing ?e5_NoSuchThing ?e6_NoSuchThing ?e7_NoSuchThing ?e1_TooLarge ?e2_TooLarge ?e3_TooLarge ?e4_TooLarge ?e5_TooLarge ?e6_TooLarge ?e7_TooLarge ?es_GatesError_NoSuchThing ?es_GatesError_TooLarge ?es_TooLarge_NoSuchThing ?xa_NoSuchThing ?xb_NoSuchThing ?xd_NoSuchThing ?xe_NoSuchThing ?xm_NoSuchThing ?xa_TooLarge ?xb_TooLarge ?xd_TooLarge ?xe_TooLarge ?xm_TooLarge ?xn ?xt ?d1_CONSTANTS ?d2_CONSTANTS ?d3_CONSTANTS ?d4_CONSTANTS ?dn0_CONSTANTS ?dn1_CONSTANTS ?dn2_CONSTANTS ?dn3_CONSTANTS ?dn4_CONSTANTS ?dy0_CONSTANTS ?r_dv0_CONSTANTS ?dy1_CONSTANTS ?r_dv1_CONSTANTS ?d1_MOST_CASES ?r_dv_MOST_CASES ?d1_NANDS ?r_dv_NANDS ?tk_dv_NANDS ?tv_dv_NANDS ?tz_dv_NANDS
    (case a_cell_value => k_is)
    (case l_cell_value => k_is)
    (case c_cell_value => k_is)
    (case k_cell_value => k_is)
    (case a_latch_cells => k_is)
    (case l_latch_cells => k_is)
    (case c_latch_cells => k_is)
    (case k_latch_cells => k_is)
    (case a_settled_values => k_is)
    (case l_settled_values => k_is)
    (case c_settled_values => k_is)
    (case k_settled_values => k_is)
    (case a_bit_count => k_is)
    (case l_bit_count => k_is)
    (case c_bit_count => k_is)
    (case k_bit_count => k_is)
    (case a_case_count => k_is)
    (case l_case_count => k_is)
    (case c_case_count => k_is)
    (case k_case_count => k_is)
    (case a_case_bits => k_is)
    (case l_case_bits => k_is)
    (case c_case_bits => k_is)
    (case k_case_bits => k_is)
    (case a_check_flaw => k_is)
    (case l_check_flaw => k_is)
    (case c_check_flaw => k_is)
    (case k_check_flaw => k_is)
    (case a_answers => k_is)
    (case l_answers => k_is)
    (case c_answers => k_is)
    (case k_answers => k_is)
    (case a_shows => k_is)
    (case l_shows => k_is)
    (case c_shows => k_is)
    (case k_shows => k_is)
    (case a_check_size => k_is)
    (case l_check_size => k_is)
    (case c_check_size => k_is)
    (case k_check_size => k_is)
    (case a_all_flaws => k_is)
    (case l_all_flaws => k_is)
    (case c_all_flaws => k_is)
    (case k_all_flaws => k_is)
    (case a_first_case => k_is)
    (case l_first_case => k_is)
    (case c_first_case => k_is)
    (case k_first_case => k_is)
    (case a_hidden_flaws => k_is)
    (case l_hidden_flaws => k_is)
    (case c_hidden_flaws => k_is)
    (case k_hidden_flaws => k_is)
    (case a_make_tests => k_is)
    (case l_make_tests => k_is)
    (case c_make_tests => k_is)
    (case k_make_tests => k_is)
    (case a_law_cell => k_is)
    (case l_law_cell => k_is)
    (case c_law_cell => k_is)
    (case k_law_cell => k_is)
    (case a_law_parts => k_is)
    (case l_law_parts => k_is)
    (case c_law_parts => k_is)
    (case k_law_parts => k_is)
    (case a_law_is_integer => k_is)
    (case l_law_is_integer => k_is)
    (case c_law_is_integer => k_is)
    (case k_law_is_integer => k_is)
    (case a_law_kind => k_is)
    (case l_law_kind => k_is)
    (case c_law_kind => k_is)
    (case k_law_kind => k_is)
    (case a_law_drawn => k_is)
    (case l_law_drawn => k_is)
    (case c_law_drawn => k_is)
    (case k_law_drawn => k_is)
    (case a_law_circuit => k_is)
    (case l_law_circuit => k_is)
    (case c_law_circuit => k_is)
    (case k_law_circuit => k_is)
    (case a_law_value => k_is)
    (case l_law_value => k_is)
    (case c_law_value => k_is)
    (case k_law_value => k_is)
    (case a_law_answers => k_is)
    (case l_law_answers => k_is)
    (case c_law_answers => k_is)
    (case k_law_answers => k_is)
    (case a_law_cases => k_is)
    (case l_law_cases => k_is)
    (case c_law_cases => k_is)
    (case k_law_cases => k_is)
    (case a_law_refuses => k_is)
    (case l_law_refuses => k_is)
    (case c_law_refuses => k_is)
    (case k_law_refuses => k_is)
    (case a_law_shown => k_is)
    (case l_law_shown => k_is)
    (case c_law_shown => k_is)
    (case k_law_shown => k_is)
    (case a_law_bare => k_is)
    (case l_law_bare => k_is)
    (case c_law_bare => k_is)
    (case k_law_bare => k_is)
    (case a_law_hidden => k_is)
    (case l_law_hidden => k_is)
    (case c_law_hidden => k_is)
    (case k_law_hidden => k_is)
    (case a_law => k_is)
    (case l_law => k_is)
    (case c_law => k_is)
    (case k_law => k_is)
    (case z_all => k_is)
    (case z_any => k_is)
    (case z_bool => k_is)
    (case z_enumerate => k_is)
    (case z_int => k_is)
    (case z_isinstance => k_is)
    (case z_len => k_is)
    (case z_list => k_is)
    (case z_max => k_is)
    (case z_min => k_is)
    (case z_range => k_is)
    (case z_sum => k_is)
    (case z_tuple => k_is)
    (case e1_GatesError => k_is)
    (case e3_GatesError => k_is)
    (case e4_GatesError => k_is)
    (case e5_GatesError => k_is)
    (case e6_GatesError => k_is)
    (case e7_GatesError => first | rfl | k_is)
    (case e1_NoSuchThing => k_is)
    (case e2_NoSuchThing => k_exc)
    (case e3_NoSuchThing => k_is)
    (case e4_NoSuchThing => k_is)
    (case e5_NoSuchThing => k_is)
    (case e6_NoSuchThing => k_is)
    (case e7_NoSuchThing => first | rfl | k_is)
    (case e1_TooLarge => k_is)
    (case e2_TooLarge => k_exc)
    (case e3_TooLarge => k_is)
    (case e4_TooLarge => k_is)
    (case e5_TooLarge => k_is)
    (case e6_TooLarge => k_is)
    (case e7_TooLarge => first | rfl | k_is)
    (case es_GatesError_NoSuchThing => first | rfl | k_is)
    (case es_GatesError_TooLarge => first | rfl | k_is)
    (case es_TooLarge_NoSuchThing => first | rfl | k_is)
    (case xa_NoSuchThing => k_is)
    (case xb_NoSuchThing => k_is)
    (case xd_NoSuchThing => k_is)
    (case xe_NoSuchThing => k_is)
    (case xm_NoSuchThing => k_is)
    (case xa_TooLarge => k_is)
    (case xb_TooLarge => k_is)
    (case xd_TooLarge => k_is)
    (case xe_TooLarge => k_is)
    (case xm_TooLarge => k_is)
    (case xn => k_is)
    (case xt => k_is)
    (case d1_CONSTANTS => k_is)
    (case d2_CONSTANTS => k_is)
    (case d3_CONSTANTS => k_keys)
    (case d4_CONSTANTS => decide)
    (case dn0_CONSTANTS => k_is)
    (case dn1_CONSTANTS => k_is)
    (case dn2_CONSTANTS => k_is)
    (case dn3_CONSTANTS => k_is)
    (case dn4_CONSTANTS => k_is)
    (case dy0_CONSTANTS => k_is)
    (case r_dv0_CONSTANTS => exact ⟨_, rfl⟩)
    (case dy1_CONSTANTS => k_is)
    (case r_dv1_CONSTANTS => exact ⟨_, rfl⟩)
    (case d1_MOST_CASES => k_is)
    (case r_dv_MOST_CASES => exact ⟨_, rfl⟩)
    (case d1_NANDS => k_is)
    (case r_dv_NANDS => rfl)
    (case tk_dv_NANDS => k_is)
    (case tv_dv_NANDS => exact .cons ⟨_, rfl⟩ (.cons ⟨_, rfl⟩ (.cons ⟨_, rfl⟩ (.nil))))
    (case tz_dv_NANDS => decide)
