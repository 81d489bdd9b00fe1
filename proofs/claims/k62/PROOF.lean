import PyProof.Rows.All
import HandS.ForMost
import HandS.Exc
import HandS.TryOnly
import HandS.ExcOwn
import HandS.WordsExc
import HandS.TupAny
import HandS.IsInst
import HandS.Deep
import HandS.Wide
import HandS.More
import KE.KeyNested
import HandS.Conv
import HandS.ExcIs
import HandS.DictComp
import HandS.Zip
import PyProof.Draws
import PyProof.EnumMake
import HandS.Sort
import PyProof.DictMoreH
import PySem.Challenge.RW_pinsalone_k62_telling_words_of_states
set_option Elab.async false
set_option linter.all false
set_option maxRecDepth 100000
set_option maxHeartbeats 4000000
namespace PV
open PySem PySem.Spec PyProof.Rows L2

abbrev D := PyData
/-- a reference, nothing more -/
def rawD (a : Addr) : PyData := .dict [(.none, .int (a : Nat))]
abbrev Hp := L2.Hp
abbrev St := L2.St

def kD : Key → D
  | .inl i => .int i
  | .inr x => .str x
def kT (ks : List Key) : D := .tuple (ks.map kD)
/-- the rows of a dict whose keys are tuples -/
def tRows (kvs : List (List Key × V)) (ds : List D) : List (D × D) := (.bool true, .none) :: (kvs.map fun p => kT p.1).zip ds

/-! ### keys of any depth -/
mutual
def nkD : D → Option NestedKey
  | .int i => some (.num i)
  | .tuple ds => (nkA ds).map .tup
  | _ => none
def nkA : List D → Option (List NestedKey)
  | [] => some []
  | d :: ds => (nkD d).bind fun k => (nkA ds).map fun ks => k :: ks
end
abbrev NEs := List (NestedKey × Addr × V)
/-- at a stands a dict with such keys: each key, where it stands, its value -/
def NdIs (a : Addr) (us : NEs) (h : Heap) : Prop :=
  (a == sysModules) = false ∧ us.length ≤ sizeLine ∧ (∀ p ∈ us, p.1.depth ≤ 8) ∧ ∃ xs : List (NestedKey × Addr × Value), Paired (fun (p : NestedKey × Addr × V) (q : NestedKey × Addr × Value) => p.1 = q.1 ∧ p.2.1 = q.2.1 ∧ RelV p.2.2 q.2.2) us xs ∧
    ∃ o es ep, h.get? a = some o ∧ o.ExactDict ∧ o.data = .dict es ep ∧ (∀ (P : Program) (w : World), es.toList = xs.map (entryOfKey (nestedKind P w))) ∧ (xs.map (·.1)).Nodup
def ND (a : Addr) (us : NEs) : HO := .ext (NdIs a us)
/-- its rows -/
def nRows (ks ds : List D) : List (D × D) := (.bool false, .none) :: ks.zip ds

/-! ### data that stands still -/
mutual
inductive Fz (K : PySem.W.Frag) (H : Hp) : V → D → Prop
  | non : Fz K H .non .none
  | bl (b : Bool) : Fz K H (.bl b) (.bool b)
  | int (i : Int) : Fz K H (.int i) (.int i)
  | str (x : Str) : Fz K H (.str x) (.str x)
  | lst {a : Addr} {xs : List V} {ds : List D} : H a = some (.lst xs) → FzAll K H xs ds → Fz K H (.ref a) (.list ds)
  /-- the script -/
  | scr {a : Addr} (ns : List Int) : SqL K H a (ns.map V.int) → Fz K H (.ref a) (.dict [(.none, .list (ns.map .int))])
  | tup {a : Addr} {xs : List V} {ds : List D} : H a = some (.tup xs) → FzAll K H xs ds → Fz K H (.ref a) (.tuple ds)
  /-- a tuple that the module has written -/
  | kt {a : Addr} {xs : List V} {ds : List D} : SqT K H a xs → FzAll K H xs ds → Fz K H (.ref a) (.dict [(.none, .tuple ds)])
  | raw (a : Addr) : Fz K H (.ref a) (rawD a)
  | dK {a : Addr} {kvs : List (Key × V)} {ds : List D} : Rd H a (.dK kvs) → FzAll K H (kvs.map (·.2)) ds → Fz K H (.ref a) (.dict ((kvs.map fun p => kD p.1).zip ds))
  | dT {a : Addr} {kvs : List (List Key × V)} {ds : List D} : Rd H a (.dT kvs) → FzAll K H (kvs.map (·.2)) ds → Fz K H (.ref a) (.dict (tRows kvs ds))
  | dN {a : Addr} {us : NEs} {ks ds : List D} : H a = some (ND a us) → FzAll K H (us.map fun p => .ref p.2.1) ks → FzAll K H (us.map (·.2.2)) ds → us.map (fun p => some p.1) = ks.map nkD → Fz K H (.ref a) (.dict (nRows ks ds))
  /-- a range; an object -/
  | rng {a : Addr} (lo hi : Int) : H a = some (.rng lo hi) → Fz K H (.ref a) (.dict [(.none, .dict [(.int lo, .int hi)])])
  | ob {p C dx : Addr} {fs : List (Str × V)} {ds : List D} : H p = some (.ins C dx fs) → FzAll K H (fs.map (·.2)) ds → Fz K H (.ref p) (.dict [(.none, .dict [(.none, .tuple ds)])])
inductive FzAll (K : PySem.W.Frag) (H : Hp) : List V → List D → Prop
  | nil : FzAll K H [] []
  | cons {v : V} {vs : List V} {d : D} {ds : List D} : Fz K H v d → FzAll K H vs ds → FzAll K H (v :: vs) (d :: ds)
end

theorem Same.rd {H H' : Hp} {a : Addr} {u : HO} (e : Same H H') (h : Rd H a u) : Rd H' a u := by
  rcases h with h | ⟨o, h⟩
  · exact .inl (e _ _ h)
  · exact .inr ⟨o, e _ _ h⟩
theorem Same.seqT {K : PySem.W.Frag} {H H' : Hp} {a : Addr} {xs : List V} (e : Same H H') (h : SqT K H a xs) : SqT K H' a xs := by
  rcases h with (h | ⟨o, h⟩) | h
  · exact .inl (.inl (e _ _ h))
  · exact .inl (.inr ⟨o, e _ _ h⟩)
  · exact .inr h
mutual
theorem Fz.mono {K : PySem.W.Frag} {H H' : Hp} (s : Same H H') : ∀ {v : V} {d : D}, Fz K H v d → Fz K H' v d
  | _, _, .non => .non
  | _, _, .bl b => .bl b
  | _, _, .int i => .int i
  | _, _, .str x => .str x
  | _, _, .lst h r => .lst (s _ _ h) (FzAll.mono s r)
  | _, _, .scr ns h => .scr ns (s.seq h)
  | _, _, .tup h r => .tup (s _ _ h) (FzAll.mono s r)
  | _, _, .kt h r => .kt (Same.seqT s h) (FzAll.mono s r)
  | _, _, .raw a => .raw a
  | _, _, .dK h r => .dK (Same.rd s h) (FzAll.mono s r)
  | _, _, .dT h r => .dT (Same.rd s h) (FzAll.mono s r)
  | _, _, .dN h r r' e => .dN (s _ _ h) (FzAll.mono s r) (FzAll.mono s r') e
  | _, _, .rng lo hi h => .rng lo hi (s _ _ h)
  | _, _, .ob h r => .ob (s _ _ h) (FzAll.mono s r)
theorem FzAll.mono {K : PySem.W.Frag} {H H' : Hp} (s : Same H H') : ∀ {v : List V} {d : List D}, FzAll K H v d → FzAll K H' v d
  | _, _, .nil => .nil
  | _, _, .cons h r => .cons (Fz.mono s h) (FzAll.mono s r)
end
theorem FzAll.of_get {K : PySem.W.Frag} {H : Hp} : ∀ {vs : List V} {ds : List D}, vs.length = ds.length → (∀ (j : Nat) v d, vs[j]? = some v → ds[j]? = some d → Fz K H v d) → FzAll K H vs ds
  | [], [], _, _ => .nil
  | v :: vs, d :: ds, e, h => .cons (h 0 v d rfl rfl) (FzAll.of_get (Nat.succ.inj e) fun j w c hw hc => h (j + 1) w c hw hc)
theorem FzAll.length {K : PySem.W.Frag} {H : Hp} : ∀ {vs : List V} {ds : List D}, FzAll K H vs ds → vs.length = ds.length
  | _, _, .nil => rfl
  | _, _, .cons _ r => congrArg (· + 1) r.length
theorem FzAll.get {K : PySem.W.Frag} {H : Hp} : ∀ {vs : List V} {ds : List D} {i : Nat} {d : D}, FzAll K H vs ds → ds[i]? = some d → ∃ v, vs[i]? = some v ∧ Fz K H v d
  | _, _, _, _, .nil, e => by simp at e
  | _, _, 0, _, .cons h _, e => by
    simp at e
    subst e
    exact ⟨_, rfl, h⟩
  | _, _, i + 1, _, .cons _ r, e => r.get (i := i) (by simpa using e)
theorem FzAll.append {K : PySem.W.Frag} {H : Hp} : ∀ {vs ws : List V} {ds es : List D}, FzAll K H vs ds → FzAll K H ws es → FzAll K H (vs ++ ws) (ds ++ es)
  | _, _, _, _, .nil, s => s
  | _, _, _, _, .cons h r, s => .cons h (r.append s)
theorem FzAll.take {K : PySem.W.Frag} {H : Hp} : ∀ {vs : List V} {ds : List D} (n : Nat), FzAll K H vs ds → FzAll K H (vs.take n) (ds.take n)
  | _, _, 0, _ => .nil
  | _, _, _ + 1, .nil => .nil
  | _, _, n + 1, .cons h r => .cons h (r.take n)
theorem FzAll.drop {K : PySem.W.Frag} {H : Hp} : ∀ {vs : List V} {ds : List D} (n : Nat), FzAll K H vs ds → FzAll K H (vs.drop n) (ds.drop n)
  | _, _, 0, r => r
  | _, _, _ + 1, .nil => .nil
  | _, _, n + 1, .cons _ r => r.drop n
theorem FzAll.eraseIdx {K : PySem.W.Frag} {H : Hp} : ∀ {vs : List V} {ds : List D} (i : Nat), FzAll K H vs ds → FzAll K H (vs.eraseIdx i) (ds.eraseIdx i)
  | _, _, _, .nil => .nil
  | _, _, 0, .cons _ t => t
  | _, _, i + 1, .cons r t => .cons r (t.eraseIdx i)
theorem FzAll.set {K : PySem.W.Frag} {H : Hp} {v : V} {d : D} (h : Fz K H v d) : ∀ {vs : List V} {ds : List D} (i : Nat), FzAll K H vs ds → FzAll K H (vs.set i v) (ds.set i d)
  | _, _, _, .nil => .nil
  | _, _, 0, .cons _ t => .cons h t
  | _, _, i + 1, .cons r t => .cons r (FzAll.set h i t)
theorem FzAll.reverse {K : PySem.W.Frag} {H : Hp} {vs : List V} {ds : List D} (h : FzAll K H vs ds) : FzAll K H vs.reverse ds.reverse := by
  induction vs generalizing ds with
  | nil => cases h; exact .nil
  | cons v vs ih =>
    cases h with
    | cons h r => rw [List.reverse_cons, List.reverse_cons]; exact (ih r).append (.cons h .nil)
theorem FzAll.ints {K : PySem.W.Frag} {H : Hp} : ∀ {vs : List V} {ns : List Int}, FzAll K H vs (ns.map .int) → vs = ns.map V.int
  | _, [], .nil => rfl
  | _, _ :: _, .cons (.int _) r => by rw [List.map_cons, r.ints]
theorem FzAll.of_ints {K : PySem.W.Frag} {H : Hp} : ∀ (ns : List Int), FzAll K H (ns.map V.int) (ns.map .int)
  | [] => .nil
  | n :: ns => .cons (.int n) (of_ints ns)
theorem FzAll.bools {K : PySem.W.Frag} {H : Hp} : ∀ {vs : List V} {ns : List Bool}, FzAll K H vs (ns.map .bool) → vs = ns.map V.bl
  | _, [], .nil => rfl
  | _, _ :: _, .cons (.bl _) r => by rw [List.map_cons, r.bools]
theorem FzAll.strs {K : PySem.W.Frag} {H : Hp} : ∀ {vs : List V} {ns : List Str}, FzAll K H vs (ns.map .str) → vs = ns.map V.str
  | _, [], .nil => rfl
  | _, _ :: _, .cons (.str _) r => by rw [List.map_cons, r.strs]
mutual
theorem Fz.dp {K : PySem.W.Frag} {H : Hp} : ∀ {v : V} {d : D}, Fz K H v d → d.canLay0 = true → Dp K H v d
  | _, _, .non, _ => .non
  | _, _, .bl b, _ => .bl b
  | _, _, .int i, _ => .int i
  | _, _, .str x, _ => .str x
  | _, _, .lst h r, c => .lst (.inl (.inl h)) (FzAll.dp r c)
  | _, _, .scr _ _, c => nomatch c
  | _, _, .tup h r, c => .tup (SqT.of h) (FzAll.dp r c)
  | _, _, .kt _ _, c => nomatch c
  | _, _, .raw _, c => nomatch c
  | _, _, .dK _ _, c => nomatch c
  | _, _, .dT _ _, c => nomatch c
  | _, _, .dN _ _ _ _, c => nomatch c
  | _, _, .rng _ _ _, c => nomatch c
  | _, _, .ob _ _, c => nomatch c
theorem FzAll.dp {K : PySem.W.Frag} {H : Hp} : ∀ {v : List V} {d : List D}, FzAll K H v d → PyData.canLayAll0 d = true → DpAll K H v d
  | _, _, .nil, _ => .nil
  | _, _, .cons h r, c => by
    have c' := Bool.and_eq_true_iff.mp (show (_ && _) = true from c)
    exact .cons (Fz.dp h c'.1) (FzAll.dp r c'.2)
end

/-! ### owned data -/
/-- who owns what: z frozen; l a list, d a dict with plain keys, e with tuple keys, of items of one shape; kd, ke: such a dict of frozen items that is being walked; n: nothing of it, or all; t a tuple, its items by c s r (the first, the others) and u (the rest frozen);
o an object of the class C with the fields xs; w: at the address a -/
inductive Sh where
  | z | l (s : Sh) | d (s : Sh) | e (s : Sh) | n (s : Sh) | t (r : Sh) | c (s r : Sh) | u | kd | ke | q | o (C : Addr) (xs : List Str) (r : Sh) | w (a : Addr) (s : Sh)
  deriving DecidableEq
inductive OwnL (R : V → D → List Addr → Prop) : List V → List D → List Addr → Prop
  | nil : OwnL R [] [] []
  | cons {v : V} {d : D} {A : List Addr} {vs : List V} {ds : List D} {B : List Addr} : R v d A → OwnL R vs ds B → OwnL R (v :: vs) (d :: ds) (A ++ B)
def flatD : D → Bool
  | .none => true
  | .bool _ => true
  | .int _ => true
  | .str _ => true
  | .dict [(.none, .int _)] => true
  | _ => false
def objD (ds : List D) : D := .dict [(.none, .dict [(.none, .tuple ds)])]
mutual
def Own (K : PySem.W.Frag) (Hf H : Hp) : Sh → V → D → List Addr → Prop
  | .z, v, d, A => A = [] ∧ Fz K Hf v d
  | .l s, v, d, A => ∃ a vs ds B, v = .ref a ∧ d = .list ds ∧ H a = some (.lst vs) ∧ OwnL (Own K Hf H s) vs ds B ∧ A = a :: B
  | .d s, v, d, A => ∃ a kvs ds B, v = .ref a ∧ d = .dict ((kvs.map fun p => kD p.1).zip ds) ∧ H a = some (.dK kvs) ∧ OwnL (Own K Hf H s) (kvs.map (·.2)) ds B ∧ A = a :: B
  | .e s, v, d, A => ∃ a kvs ds B, v = .ref a ∧ d = .dict (tRows kvs ds) ∧ H a = some (.dT kvs) ∧ OwnL (Own K Hf H s) (kvs.map (·.2)) ds B ∧ A = a :: B
  | .n s, v, d, A => (A = [] ∧ flatD d = true ∧ Fz K Hf v d) ∨ Own K Hf H s v d A
  | .t r, v, d, A => ∃ a vs ds, v = .ref a ∧ d = .tuple ds ∧ Hf a = some (.tup vs) ∧ OwnC K Hf H r vs ds A
  | .o C xs r, v, d, A => ∃ p dx fs ds B, v = .ref p ∧ d = objD ds ∧ H p = some (.ins C dx fs) ∧ H dx = some (.own p) ∧ fs.map (·.1) = xs ∧ OwnC K Hf H r (fs.map (·.2)) ds B ∧ A = p :: dx :: B
  | .w a s, v, d, A => v = .ref a ∧ Own K Hf H s v d A
  | .kd, v, d, A => ∃ a o kvs ds, v = .ref a ∧ d = .dict ((kvs.map fun p => kD p.1).zip ds) ∧ H a = some (.frz o (.dK kvs)) ∧ FzAll K Hf (kvs.map (·.2)) ds ∧ A = [a]
  | .ke, v, d, A => ∃ a o kvs ds, v = .ref a ∧ d = .dict (tRows kvs ds) ∧ H a = some (.frz o (.dT kvs)) ∧ FzAll K Hf (kvs.map (·.2)) ds ∧ A = [a]
  | .q, v, d, A => ∃ a us ks ds, v = .ref a ∧ d = .dict (nRows ks ds) ∧ H a = some (ND a us) ∧ FzAll K Hf (us.map fun p => .ref p.2.1) ks ∧ FzAll K Hf (us.map (·.2.2)) ds ∧ us.map (fun p => some p.1) = ks.map nkD ∧ A = [a]
  | .c _ _, _, _, _ => False
  | .u, _, _, _ => False
/-- the items of a tuple, the fields of an object -/
def OwnC (K : PySem.W.Frag) (Hf H : Hp) : Sh → List V → List D → List Addr → Prop
  | .c s r, vs, ds, A => ∃ v vs' d ds' A1 A2, vs = v :: vs' ∧ ds = d :: ds' ∧ Own K Hf H s v d A1 ∧ OwnC K Hf H r vs' ds' A2 ∧ A = A1 ++ A2
  | .u, vs, ds, A => A = [] ∧ FzAll K Hf vs ds
  | _, _, _, _ => False
end
section
variable {K : PySem.W.Frag} {Hf Hf' H H' : Hp}
theorem OwnL.imp {R R' : V → D → List Addr → Prop} : ∀ {vs : List V} {ds : List D} {A : List Addr}, OwnL R vs ds A → (∀ v d B, (∀ a ∈ B, a ∈ A) → R v d B → R' v d B) → OwnL R' vs ds A
  | _, _, _, .nil, _ => .nil
  | _, _, _, .cons h r, f => .cons (f _ _ _ (fun a ha => List.mem_append_left _ ha) h) (r.imp fun v d B hB => f v d B fun a ha => List.mem_append_right _ (hB a ha))
theorem OwnL.append {R : V → D → List Addr → Prop} : ∀ {vs ws : List V} {ds es : List D} {A B : List Addr}, OwnL R vs ds A → OwnL R ws es B → OwnL R (vs ++ ws) (ds ++ es) (A ++ B)
  | _, _, _, _, _, _, .nil, s => s
  | _, _, _, _, _, _, .cons h r, s => by rw [List.append_assoc]; exact .cons h (r.append s)
theorem OwnL.length {R : V → D → List Addr → Prop} : ∀ {vs : List V} {ds : List D} {A : List Addr}, OwnL R vs ds A → vs.length = ds.length
  | _, _, _, .nil => rfl
  | _, _, _, .cons _ r => congrArg (· + 1) r.length
mutual
/-- what is owned stands as long as its footprint does -/
theorem Own.keep (sf : Same Hf Hf') : ∀ {s : Sh} {v : V} {d : D} {A : List Addr}, Own K Hf H s v d A → (∀ a ∈ A, H' a = H a) → Own K Hf' H' s v d A
  | .z, _, _, _, h, _ => ⟨h.1, h.2.mono sf⟩
  | .l s, _, _, _, ⟨a, vs, ds, B, e1, e2, e3, r, e4⟩, k =>
    ⟨a, vs, ds, B, e1, e2, (k a (by rw [e4]; exact List.mem_cons_self)).trans e3, r.imp fun v d C hC h => Own.keep sf h fun b hb => k b (by rw [e4]; exact List.mem_cons_of_mem _ (hC b hb)), e4⟩
  | .d s, _, _, _, ⟨a, kvs, ds, B, e1, e2, e3, r, e4⟩, k =>
    ⟨a, kvs, ds, B, e1, e2, (k a (by rw [e4]; exact List.mem_cons_self)).trans e3, r.imp fun v d C hC h => Own.keep sf h fun b hb => k b (by rw [e4]; exact List.mem_cons_of_mem _ (hC b hb)), e4⟩
  | .e s, _, _, _, ⟨a, kvs, ds, B, e1, e2, e3, r, e4⟩, k =>
    ⟨a, kvs, ds, B, e1, e2, (k a (by rw [e4]; exact List.mem_cons_self)).trans e3, r.imp fun v d C hC h => Own.keep sf h fun b hb => k b (by rw [e4]; exact List.mem_cons_of_mem _ (hC b hb)), e4⟩
  | .n s, _, _, _, .inl ⟨e, f, h⟩, _ => .inl ⟨e, f, h.mono sf⟩
  | .n s, _, _, _, .inr h, k => .inr (Own.keep sf h k)
  | .t r, _, _, _, ⟨a, vs, ds, e1, e2, e3, h⟩, k => ⟨a, vs, ds, e1, e2, sf _ _ e3, OwnC.keep sf h k⟩
  | .o C xs r, _, _, _, ⟨p, dx, fs, ds, B, e1, e2, e3, e4, e5, h, e6⟩, k =>
    ⟨p, dx, fs, ds, B, e1, e2, (k p (by rw [e6]; exact List.mem_cons_self)).trans e3, (k dx (by rw [e6]; exact List.mem_cons_of_mem _ List.mem_cons_self)).trans e4, e5, OwnC.keep sf h fun b hb => k b (by rw [e6]; exact List.mem_cons_of_mem _ (List.mem_cons_of_mem _ hb)), e6⟩
  | .w a s, _, _, _, ⟨e, h⟩, k => ⟨e, Own.keep sf h k⟩
  | .kd, _, _, _, ⟨a, o, kvs, ds, e1, e2, e3, r, e4⟩, k => ⟨a, o, kvs, ds, e1, e2, (k a (by rw [e4]; exact List.mem_cons_self)).trans e3, r.mono sf, e4⟩
  | .ke, _, _, _, ⟨a, o, kvs, ds, e1, e2, e3, r, e4⟩, k => ⟨a, o, kvs, ds, e1, e2, (k a (by rw [e4]; exact List.mem_cons_self)).trans e3, r.mono sf, e4⟩
  | .q, _, _, _, ⟨a, us, ks, ds, e1, e2, e3, r, r', e5, e4⟩, k => ⟨a, us, ks, ds, e1, e2, (k a (by rw [e4]; exact List.mem_cons_self)).trans e3, r.mono sf, r'.mono sf, e5, e4⟩
  | .c _ _, _, _, _, h, _ => h.elim
  | .u, _, _, _, h, _ => h.elim
theorem OwnC.keep (sf : Same Hf Hf') : ∀ {s : Sh} {v : List V} {d : List D} {A : List Addr}, OwnC K Hf H s v d A → (∀ a ∈ A, H' a = H a) → OwnC K Hf' H' s v d A
  | .c s r, _, _, _, ⟨v, vs, d, ds, A1, A2, e1, e2, h1, h2, e3⟩, k =>
    ⟨v, vs, d, ds, A1, A2, e1, e2, Own.keep sf h1 fun b hb => k b (by rw [e3]; exact List.mem_append_left _ hb), OwnC.keep sf h2 fun b hb => k b (by rw [e3]; exact List.mem_append_right _ hb), e3⟩
  | .u, _, _, _, h, _ => ⟨h.1, h.2.mono sf⟩
  | .z, _, _, _, h, _ => h.elim
  | .l _, _, _, _, h, _ => h.elim
  | .d _, _, _, _, h, _ => h.elim
  | .e _, _, _, _, h, _ => h.elim
  | .n _, _, _, _, h, _ => h.elim
  | .t _, _, _, _, h, _ => h.elim
  | .o _ _ _, _, _, _, h, _ => h.elim
  | .w _ _, _, _, _, h, _ => h.elim
  | .kd, _, _, _, h, _ => h.elim
  | .ke, _, _, _, h, _ => h.elim
  | .q, _, _, _, h, _ => h.elim
end
theorem OwnL.fz (sf : Same Hf Hf') {R : V → D → List Addr → Prop} (f : ∀ {v : V} {d : D} {A : List Addr}, R v d A → (∀ a ∈ A, Hf' a = H a) → Fz K Hf' v d) : ∀ {vs : List V} {ds : List D} {A : List Addr}, OwnL R vs ds A → (∀ a ∈ A, Hf' a = H a) → FzAll K Hf' vs ds
  | _, _, _, .nil, _ => .nil
  | _, _, _, .cons h r, k => .cons (f h fun a ha => k a (List.mem_append_left _ ha)) (OwnL.fz sf f r fun a ha => k a (List.mem_append_right _ ha))
mutual
/-- frozen -/
theorem Own.fz (sf : Same Hf Hf') : ∀ {s : Sh} {v : V} {d : D} {A : List Addr}, Own K Hf H s v d A → (∀ a ∈ A, Hf' a = H a) → Fz K Hf' v d
  | .z, _, _, _, h, _ => h.2.mono sf
  | .l s, _, _, _, ⟨a, vs, ds, B, e1, e2, e3, r, e4⟩, k => by
    subst e1 e2
    exact .lst ((k a (by rw [e4]; exact List.mem_cons_self)).trans e3) (OwnL.fz sf (fun h q => Own.fz sf (s := s) h q) r fun b hb => k b (by rw [e4]; exact List.mem_cons_of_mem _ hb))
  | .d s, _, _, _, ⟨a, kvs, ds, B, e1, e2, e3, r, e4⟩, k => by
    subst e1 e2
    exact .dK (.inl ((k a (by rw [e4]; exact List.mem_cons_self)).trans e3)) (OwnL.fz sf (fun h q => Own.fz sf (s := s) h q) r fun b hb => k b (by rw [e4]; exact List.mem_cons_of_mem _ hb))
  | .e s, _, _, _, ⟨a, kvs, ds, B, e1, e2, e3, r, e4⟩, k => by
    subst e1 e2
    exact .dT (.inl ((k a (by rw [e4]; exact List.mem_cons_self)).trans e3)) (OwnL.fz sf (fun h q => Own.fz sf (s := s) h q) r fun b hb => k b (by rw [e4]; exact List.mem_cons_of_mem _ hb))
  | .n s, _, _, _, .inl ⟨_, _, h⟩, _ => h.mono sf
  | .n s, _, _, _, .inr h, k => Own.fz sf h k
  | .t r, _, _, _, ⟨a, vs, ds, e1, e2, e3, h⟩, k => by
    subst e1 e2
    exact .tup (sf _ _ e3) (OwnC.fz sf h k)
  | .o C xs r, _, _, _, ⟨p, dx, fs, ds, B, e1, e2, e3, e4, e5, h, e6⟩, k => by
    subst e1 e2
    exact .ob ((k p (by rw [e6]; exact List.mem_cons_self)).trans e3) (OwnC.fz sf h fun b hb => k b (by rw [e6]; exact List.mem_cons_of_mem _ (List.mem_cons_of_mem _ hb)))
  | .w a s, _, _, _, ⟨e, h⟩, k => Own.fz sf h k
  | .kd, _, _, _, ⟨a, o, kvs, ds, e1, e2, e3, r, e4⟩, k => by
    subst e1 e2
    exact .dK (.inr ⟨o, (k a (by rw [e4]; exact List.mem_cons_self)).trans e3⟩) (r.mono sf)
  | .ke, _, _, _, ⟨a, o, kvs, ds, e1, e2, e3, r, e4⟩, k => by
    subst e1 e2
    exact .dT (.inr ⟨o, (k a (by rw [e4]; exact List.mem_cons_self)).trans e3⟩) (r.mono sf)
  | .q, _, _, _, ⟨a, us, ks, ds, e1, e2, e3, r, r', e5, e4⟩, k => by
    subst e1 e2
    exact .dN ((k a (by rw [e4]; exact List.mem_cons_self)).trans e3) (r.mono sf) (r'.mono sf) e5
  | .c _ _, _, _, _, h, _ => h.elim
  | .u, _, _, _, h, _ => h.elim
theorem OwnC.fz (sf : Same Hf Hf') : ∀ {s : Sh} {v : List V} {d : List D} {A : List Addr}, OwnC K Hf H s v d A → (∀ a ∈ A, Hf' a = H a) → FzAll K Hf' v d
  | .c s r, _, _, _, ⟨v, vs, d, ds, A1, A2, e1, e2, h1, h2, e3⟩, k => by
    subst e1 e2
    exact .cons (Own.fz sf h1 fun b hb => k b (by rw [e3]; exact List.mem_append_left _ hb)) (OwnC.fz sf h2 fun b hb => k b (by rw [e3]; exact List.mem_append_right _ hb))
  | .u, _, _, _, h, _ => h.2.mono sf
  | .z, _, _, _, h, _ => h.elim
  | .l _, _, _, _, h, _ => h.elim
  | .d _, _, _, _, h, _ => h.elim
  | .e _, _, _, _, h, _ => h.elim
  | .n _, _, _, _, h, _ => h.elim
  | .t _, _, _, _, h, _ => h.elim
  | .o _ _ _, _, _, _, h, _ => h.elim
  | .w _ _, _, _, _, h, _ => h.elim
  | .kd, _, _, _, h, _ => h.elim
  | .ke, _, _, _, h, _ => h.elim
  | .q, _, _, _, h, _ => h.elim
end
theorem OwnL.zs : ∀ {vs : List V} {ds : List D} {A : List Addr}, OwnL (Own K Hf H .z) vs ds A → A = [] ∧ FzAll K Hf vs ds
  | _, _, _, .nil => ⟨rfl, .nil⟩
  | _, _, _, .cons h r => by
    obtain ⟨e, q⟩ := OwnL.zs r
    refine ⟨?_, .cons h.2 q⟩
    rw [h.1, e]
    rfl
theorem OwnL.of_zs : ∀ {vs : List V} {ds : List D}, FzAll K Hf vs ds → OwnL (Own K Hf H .z) vs ds []
  | _, _, .nil => .nil
  | _, _, .cons h r => .cons (A := []) ⟨rfl, h⟩ (OwnL.of_zs r)
theorem OwnL.thereL {R : V → D → List Addr → Prop} (hR : ∀ {v : V} {d : D} {A : List Addr}, R v d A → ∀ a ∈ A, H a ≠ none) : ∀ {vs : List V} {ds : List D} {A : List Addr}, OwnL R vs ds A → ∀ b ∈ A, H b ≠ none
  | _, _, _, .nil, _, hb => nomatch hb
  | _, _, _, .cons h r, b, hb => (List.mem_append.mp hb).elim (hR h b) (OwnL.thereL hR r b)
mutual
theorem Own.there : ∀ {s : Sh} {v : V} {d : D} {A : List Addr}, Own K Hf H s v d A → ∀ a ∈ A, H a ≠ none
  | .z, _, _, _, h, a, ha => by rw [h.1] at ha; cases ha
  | .l s, _, _, _, ⟨a, vs, ds, B, e1, e2, e3, r, e4⟩, b, hb => by
    rw [e4] at hb
    rcases List.mem_cons.mp hb with rfl | hb
    · rw [e3]; exact fun z => by cases z
    · exact OwnL.thereL (fun h => Own.there h) r b hb
  | .d s, _, _, _, ⟨a, vs, ds, B, e1, e2, e3, r, e4⟩, b, hb => by
    rw [e4] at hb
    rcases List.mem_cons.mp hb with rfl | hb
    · rw [e3]; exact fun z => by cases z
    · exact OwnL.thereL (fun h => Own.there h) r b hb
  | .e s, _, _, _, ⟨a, vs, ds, B, e1, e2, e3, r, e4⟩, b, hb => by
    rw [e4] at hb
    rcases List.mem_cons.mp hb with rfl | hb
    · rw [e3]; exact fun z => by cases z
    · exact OwnL.thereL (fun h => Own.there h) r b hb
  | .n s, _, _, _, .inl ⟨e, _⟩, b, hb => by rw [e] at hb; cases hb
  | .n s, _, _, _, .inr h, b, hb => Own.there h b hb
  | .t r, _, _, _, ⟨a, vs, ds, e1, e2, e3, h⟩, b, hb => OwnC.there h b hb
  | .o C xs r, _, _, _, ⟨p, dx, fs, ds, B, e1, e2, e3, e4, e5, h, e6⟩, b, hb => by
    rw [e6] at hb
    rcases List.mem_cons.mp hb with rfl | hb
    · rw [e3]; exact fun z => by cases z
    · rcases List.mem_cons.mp hb with rfl | hb
      · rw [e4]; exact fun z => by cases z
      · exact OwnC.there h b hb
  | .w a s, _, _, _, ⟨e, h⟩, b, hb => Own.there h b hb
  | .kd, _, _, _, ⟨a, o, kvs, ds, e1, e2, e3, r, e4⟩, b, hb => by
    rw [e4] at hb
    rw [List.mem_singleton.mp hb, e3]; exact fun z => by cases z
  | .ke, _, _, _, ⟨a, o, kvs, ds, e1, e2, e3, r, e4⟩, b, hb => by
    rw [e4] at hb
    rw [List.mem_singleton.mp hb, e3]; exact fun z => by cases z
  | .q, _, _, _, ⟨a, us, ks, ds, e1, e2, e3, r, r', e5, e4⟩, b, hb => by
    rw [e4] at hb
    rw [List.mem_singleton.mp hb, e3]; exact fun z => by cases z
  | .c _ _, _, _, _, h, _, _ => h.elim
  | .u, _, _, _, h, _, _ => h.elim
theorem OwnC.there : ∀ {s : Sh} {v : List V} {d : List D} {A : List Addr}, OwnC K Hf H s v d A → ∀ a ∈ A, H a ≠ none
  | .c s r, _, _, _, ⟨v, vs, d, ds, A1, A2, e1, e2, h1, h2, e3⟩, b, hb => by
    rw [e3] at hb
    rcases List.mem_append.mp hb with hb | hb
    · exact Own.there h1 b hb
    · exact OwnC.there h2 b hb
  | .u, _, _, _, h, _, hb => by rw [h.1] at hb; cases hb
  | .z, _, _, _, h, _, _ => h.elim
  | .l _, _, _, _, h, _, _ => h.elim
  | .d _, _, _, _, h, _, _ => h.elim
  | .e _, _, _, _, h, _, _ => h.elim
  | .n _, _, _, _, h, _, _ => h.elim
  | .t _, _, _, _, h, _, _ => h.elim
  | .o _ _ _, _, _, _, h, _, _ => h.elim
  | .w _ _, _, _, _, h, _, _ => h.elim
  | .kd, _, _, _, h, _, _ => h.elim
  | .ke, _, _, _, h, _, _ => h.elim
  | .q, _, _, _, h, _, _ => h.elim
end
end

/-! ### the state of a def -/
abbrev Va := Sh × D
abbrev Ev := List (Option Va)
structure Exc where
  c : Str
  fs : List (Str × D)
inductive Out (α : Type) where
  | ok (a : α) (Γ : Ev)
  | ex (e : Exc) (Γ : Ev)
  | st
inductive SO where
  | nx (Γ : Ev)
  | rt (x : Va) (Γ : Ev)
  | bk (Γ : Ev)
  | ct (Γ : Ev)
  | ex (e : Exc) (Γ : Ev)
  | st
inductive Res where
  | ok (x : Va)
  | ex (e : Exc)
  | st
/-- what is fixed while a def runs: what stood frozen and what was tracked at its entry, the wish about exceptions -/
structure Gh where
  K : PySem.W.Frag
  f0 : Hp
  h0 : Hp
abbrev Ow := Addr → Option (Nat ⊕ Nat)
def Has (g : Gh) (Hf H : Hp) (ω : Ow) (i : Nat ⊕ Nat) (v : V) (x : Va) : Prop := ∃ A, Own g.K Hf H x.1 v x.2 A ∧ A.Nodup ∧ ∀ a ∈ A, ω a = some i
def FrOk (g : Gh) (Hf H : Hp) (ω : Ow) : List (V × Va) → Prop
  | [] => True
  | p :: fr => Has g Hf H ω (.inr fr.length) p.1 p.2 ∧ FrOk g Hf H ω fr
structure StW (g : Gh) (Hf H : Hp) (σ : St) (Γ : Ev) (fr : List (V × Va)) (ω : Ow) : Prop where
  base : Same g.h0 H
  sub : Same Hf H
  old : Same g.f0 Hf
  new : ∀ a, Hf a ≠ none → g.f0 a ≠ none ∨ g.h0 a = none
  own : ∀ a i, ω a = some i → g.h0 a = none ∧ Hf a = none ∧ H a ≠ none
  len : Γ.length = σ.length
  slots : ∀ i x, Γ[i]? = some (some x) → ∃ v, σ[i]? = some (some v) ∧ Has g Hf H ω (.inl i) v x
  fr : FrOk g Hf H ω fr
def StOk (g : Gh) (Hf H : Hp) (σ : St) (Γ : Ev) (fr : List (V × Va)) : Prop := ∃ ω, StW g Hf H σ Γ fr ω
section
variable {g : Gh} {Hf Hf' H H' : Hp} {σ : St} {Γ : Ev} {fr : List (V × Va)} {ω ω' : Ow}
theorem Has.mono {i : Nat ⊕ Nat} {v : V} {x : Va} (h : Has g Hf H ω i v x) (sf : Same Hf Hf') (k : ∀ a, ω a = some i → H' a = H a ∧ ω' a = some i) : Has g Hf' H' ω' i v x := by
  obtain ⟨A, o, nd, q⟩ := h
  exact ⟨A, o.keep sf fun a ha => (k a (q a ha)).1, nd, fun a ha => (k a (q a ha)).2⟩
theorem FrOk.mono : ∀ {fr : List (V × Va)}, FrOk g Hf H ω fr → Same Hf Hf' → (∀ a j, j < fr.length → ω a = some (.inr j) → H' a = H a ∧ ω' a = some (.inr j)) → FrOk g Hf' H' ω' fr
  | [], _, _, _ => trivial
  | p :: fr, h, sf, k => ⟨h.1.mono sf fun a => k a _ (Nat.lt_succ_self _), FrOk.mono h.2 sf fun a j hj => k a j (Nat.lt_succ_of_lt hj)⟩
theorem FrOk.pop : ∀ {fr fr' : List (V × Va)}, FrOk g Hf H ω (fr ++ fr') → FrOk g Hf H ω fr'
  | [], _, h => h
  | _ :: fr, _, h => FrOk.pop (fr := fr) h.2
theorem StOk.pop {p : V × Va} (h : StOk g Hf H σ Γ (p :: fr)) : StOk g Hf H σ Γ fr := by
  obtain ⟨ω, h⟩ := h
  exact ⟨ω, { h with fr := h.fr.2 }⟩
theorem StOk.sub (h : StOk g Hf H σ Γ fr) : Same Hf H := h.choose_spec.sub
/-- the heap has grown -/
theorem StOk.grow (h : StOk g Hf H σ Γ fr) (s : Same H H') : StOk g Hf H' σ Γ fr := by
  obtain ⟨ω, h⟩ := h
  have k : ∀ a i, ω a = some i → H' a = H a := fun a i e => by
    have n := (h.own a i e).2.2
    cases q : H a with
    | none => exact absurd q n
    | some o => exact s a o q
  refine ⟨ω, fun b o e => s b o (h.base b o e), fun b o e => s b o (h.sub b o e), h.old, h.new, fun a i e => ⟨(h.own a i e).1, (h.own a i e).2.1, by rw [k a i e]; exact (h.own a i e).2.2⟩, h.len, fun i x e => ?_, h.fr.mono (Same.refl _) fun a j _ e => ⟨k a _ e, e⟩⟩
  obtain ⟨v, e1, q⟩ := h.slots i x e
  exact ⟨v, e1, q.mono (Same.refl _) fun a e => ⟨k a _ e, e⟩⟩
/-- the frozen part has grown by something new -/
theorem StOk.freeze (h : StOk g Hf H σ Γ fr) (s : Same H H') (f1 : Same Hf Hf') (f2 : Same Hf' H') (f3 : ∀ a, Hf' a ≠ none → Hf a ≠ none ∨ H a = none) : StOk g Hf' H' σ Γ fr := by
  obtain ⟨ω, h⟩ := h
  have k : ∀ a i, ω a = some i → H' a = H a := fun a i e => by
    have n := (h.own a i e).2.2
    cases q : H a with
    | none => exact absurd q n
    | some o => exact s a o q
  have kf : ∀ a i, ω a = some i → Hf' a = none := fun a i e => by
    cases q : Hf' a with
    | none => rfl
    | some o =>
      rcases f3 a (by rw [q]; exact fun z => nomatch z) with z | z
      · exact absurd (h.own a i e).2.1 z
      · exact absurd z (h.own a i e).2.2
  refine ⟨ω, fun b o e => s b o (h.base b o e), f2, fun b o e => f1 b o (h.old b o e), fun a n => ?_, fun a i e => ⟨(h.own a i e).1, kf a i e, by rw [k a i e]; exact (h.own a i e).2.2⟩, h.len, fun i x e => ?_, h.fr.mono f1 fun a j _ e => ⟨k a _ e, e⟩⟩
  · rcases f3 a n with z | z
    · exact h.new a z
    · exact .inr (Same.free h.base z)
  · obtain ⟨v, e1, q⟩ := h.slots i x e
    exact ⟨v, e1, q.mono f1 fun a e => ⟨k a _ e, e⟩⟩
/-- a value that stands frozen is pushed -/
theorem StOk.push (h : StOk g Hf H σ Γ fr) {v : V} {d : D} (q : Fz g.K Hf v d) : StOk g Hf H σ Γ ((v, .z, d) :: fr) := by
  obtain ⟨ω, h⟩ := h
  exact ⟨ω, { h with fr := ⟨⟨[], ⟨rfl, q⟩, List.nodup_nil, fun _ z => nomatch z⟩, h.fr⟩ }⟩
/-- the top of the frame is frozen data -/
theorem StOk.top (h : StOk g Hf H σ Γ ((v, .z, d) :: fr)) : Fz g.K Hf v d := by
  obtain ⟨ω, h⟩ := h
  obtain ⟨A, o, _⟩ := h.fr.1
  exact o.2
/-- what a value needs to be new: its owned part is new, its frozen part stands -/
structure NewV (K : PySem.W.Frag) (Hf H H' : Hp) (Hf' : Hp) (v : V) (x : Va) : Prop where
  s : Same H H'
  f1 : Same Hf Hf'
  f2 : Same Hf' H'
  f3 : ∀ a, Hf' a ≠ none → Hf a ≠ none ∨ H a = none
  o : ∃ A, Own K Hf' H' x.1 v x.2 A ∧ A.Nodup ∧ ∀ a ∈ A, H a = none ∧ Hf' a = none
/-- a new value is pushed -/
theorem StOk.pushN (h0 : StOk g Hf H σ Γ fr) {v : V} {x : Va} (n : NewV g.K Hf H H' Hf' v x) : StOk g Hf' H' σ Γ ((v, x) :: fr) := by
  obtain ⟨A, o, nd, hA⟩ := n.o
  have h1 : Same g.h0 H := by
    obtain ⟨ω, h⟩ := h0
    exact h.base
  obtain ⟨ω0, k0⟩ := id h0
  obtain ⟨ω, h⟩ := h0.freeze n.s n.f1 n.f2 n.f3
  have nA : ∀ a ∈ A, ω0 a = none := fun a ha => by
    cases q : ω0 a with
    | none => rfl
    | some i => exact absurd (hA a ha).1 (k0.own a i q).2.2
  have hw : StW g Hf' H' σ Γ fr ω0 := by
    have k : ∀ a i, ω0 a = some i → H' a = H a := fun a i e => by
      have z := (k0.own a i e).2.2
      cases q : H a with
      | none => exact absurd q z
      | some o => exact n.s a o q
    have kf : ∀ a i, ω0 a = some i → Hf' a = none := fun a i e => by
      cases q : Hf' a with
      | none => rfl
      | some o =>
        rcases n.f3 a (by rw [q]; exact fun z => nomatch z) with z | z
        · exact absurd (k0.own a i e).2.1 z
        · exact absurd z (k0.own a i e).2.2
    refine ⟨h.base, h.sub, h.old, h.new, fun a i e => ⟨(k0.own a i e).1, kf a i e, by rw [k a i e]; exact (k0.own a i e).2.2⟩, h.len, fun i x e => ?_, k0.fr.mono n.f1 fun a j _ e => ⟨k a _ e, e⟩⟩
    obtain ⟨v, e1, q⟩ := k0.slots i x e
    exact ⟨v, e1, q.mono n.f1 fun a e => ⟨k a _ e, e⟩⟩
  classical
  refine ⟨fun a => if a ∈ A then some (.inr fr.length) else ω0 a, hw.base, hw.sub, hw.old, hw.new, fun a i e => ?_, hw.len, fun i x e => ?_, ⟨⟨A, o, nd, fun a ha => if_pos ha⟩, hw.fr.mono (Same.refl _) fun a j _ e => ⟨rfl, ?_⟩⟩⟩
  · by_cases ha : a ∈ A
    · exact ⟨Same.free h1 (hA a ha).1, (hA a ha).2, o.there a ha⟩
    · simp only [if_neg ha] at e
      exact hw.own a i e
  · obtain ⟨v, e1, q⟩ := hw.slots i x e
    refine ⟨v, e1, q.mono (Same.refl _) fun a e => ⟨rfl, ?_⟩⟩
    by_cases ha : a ∈ A
    · rw [nA a ha] at e; cases e
    · simp only [if_neg ha]; exact e
  · by_cases ha : a ∈ A
    · rw [nA a ha] at e; cases e
    · simp only [if_neg ha]; exact e
/-- owner i is frozen -/
theorem StW.freezeAt (h : StW g Hf H σ Γ fr ω) (i : Nat ⊕ Nat) : ∃ (Hf' : Hp) (ω' : Ow), Same Hf Hf' ∧ (∀ a, ω a = some i → Hf' a = H a) ∧ Same Hf' H ∧ Same g.f0 Hf' ∧ (∀ a, Hf' a ≠ none → g.f0 a ≠ none ∨ g.h0 a = none) ∧ (∀ a j, ω' a = some j → g.h0 a = none ∧ Hf' a = none ∧ H a ≠ none) ∧ (∀ a j, j ≠ i → ω a = some j → ω' a = some j) := by
  classical
  refine ⟨fun a => if ω a = some i then H a else Hf a, fun a => if ω a = some i then none else ω a, fun a o e => ?_, fun a e => if_pos e, fun a o e => ?_, fun a o e => ?_, fun a n => ?_, fun a j e => ?_, fun a j hj e => ?_⟩
  · by_cases z : ω a = some i
    · rw [(h.own a i z).2.1] at e; cases e
    · simp only [if_neg z]; exact e
  · by_cases z : ω a = some i
    · simp only [if_pos z] at e; exact e
    · simp only [if_neg z] at e; exact h.sub a o e
  · by_cases z : ω a = some i
    · have := h.old a o e
      rw [(h.own a i z).2.1] at this; cases this
    · simp only [if_neg z]; exact h.old a o e
  · by_cases z : ω a = some i
    · exact .inr (h.own a i z).1
    · simp only [if_neg z] at n; exact h.new a n
  · by_cases z : ω a = some i
    · simp only [if_pos z] at e; cases e
    · simp only [if_neg z] at e
      simp only [if_neg z]
      exact h.own a j e
  · have z : ¬ ω a = some i := fun z => hj (Option.some.inj (e.symm.trans z))
    simp only [if_neg z]; exact e
/-- the top of the frame is frozen -/
theorem StOk.frz {v : V} {x : Va} (h : StOk g Hf H σ Γ ((v, x) :: fr)) : ∃ Hf', Same Hf Hf' ∧ StOk g Hf' H σ Γ ((v, .z, x.2) :: fr) := by
  obtain ⟨ω, h⟩ := h
  obtain ⟨Hf', ω', f1, f2, f3, f4, f5, f6, f7⟩ := h.freezeAt (.inr fr.length)
  obtain ⟨⟨A, o, nd, hA⟩, hr⟩ := h.fr
  refine ⟨Hf', f1, ω', h.base, f3, f4, f5, f6, h.len, fun i x e => ?_, ⟨⟨[], ⟨rfl, o.fz f1 fun a ha => f2 a (hA a ha)⟩, List.nodup_nil, fun _ z => nomatch z⟩, hr.mono f1 fun a j hj e => ⟨rfl, f7 a _ (fun z => by cases z; exact absurd hj (Nat.lt_irrefl _)) e⟩⟩⟩
  obtain ⟨v, e1, q⟩ := h.slots i x e
  exact ⟨v, e1, q.mono f1 fun a e => ⟨rfl, f7 a _ (fun z => nomatch z) e⟩⟩
/-- a slot is frozen -/
theorem StOk.frzSlot {i : Nat} {x : Va} (h : StOk g Hf H σ Γ fr) (hi : Γ[i]? = some (some x)) : ∃ Hf' v, Same Hf Hf' ∧ σ[i]? = some (some v) ∧ StOk g Hf' H σ (Γ.set i (some (.z, x.2))) ((v, .z, x.2) :: fr) := by
  obtain ⟨ω, h⟩ := h
  obtain ⟨Hf', ω', f1, f2, f3, f4, f5, f6, f7⟩ := h.freezeAt (.inl i)
  obtain ⟨v, e1, A, o, nd, hA⟩ := h.slots i x hi
  have fz : Fz g.K Hf' v x.2 := o.fz f1 fun a ha => f2 a (hA a ha)
  refine ⟨Hf', v, f1, e1, ω', h.base, f3, f4, f5, f6, by rw [List.length_set]; exact h.len, fun j y e => ?_, ⟨⟨[], ⟨rfl, fz⟩, List.nodup_nil, fun _ z => nomatch z⟩, h.fr.mono f1 fun a j _ e => ⟨rfl, f7 a _ (fun z => nomatch z) e⟩⟩⟩
  by_cases hj : i = j
  · subst hj
    rw [List.getElem?_set_self (List.getElem?_eq_some_iff.mp hi).1] at e
    cases e
    exact ⟨v, e1, [], ⟨rfl, fz⟩, List.nodup_nil, fun _ z => nomatch z⟩
  · rw [List.getElem?_set_ne hj] at e
    obtain ⟨w, e2, q⟩ := h.slots j y e
    exact ⟨w, e2, q.mono f1 fun a e => ⟨rfl, f7 a _ (fun z => by cases z; exact hj rfl) e⟩⟩
/-- the top of the frame is stored -/
theorem StOk.store {v : V} {x : Va} (h : StOk g Hf H σ Γ ((v, x) :: fr)) (i : Nat) : StOk g Hf H (σ.set i (some v)) (Γ.set i (some x)) fr := by
  obtain ⟨ω, h⟩ := h
  obtain ⟨⟨A, o, nd, hA⟩, hr⟩ := h.fr
  classical
  refine ⟨fun a => if ω a = some (.inr fr.length) then some (.inl i) else ω a, h.base, h.sub, h.old, h.new, fun a j e => ?_, by rw [List.length_set, List.length_set]; exact h.len, fun j y e => ?_, hr.mono (Same.refl _) fun a j hj e => ⟨rfl, ?_⟩⟩
  · by_cases z : ω a = some (.inr fr.length)
    · exact h.own a _ z
    · simp only [if_neg z] at e; exact h.own a j e
  · by_cases hj : i = j
    · subst hj
      have hi : i < Γ.length := by
        have := (List.getElem?_eq_some_iff.mp e).1
        simpa using this
      rw [List.getElem?_set_self hi] at e
      cases e
      refine ⟨v, List.getElem?_set_self (by rw [← h.len]; exact hi), A, o, nd, fun a ha => if_pos (hA a ha)⟩
    · rw [List.getElem?_set_ne hj] at e
      obtain ⟨w, e2, q⟩ := h.slots j y e
      refine ⟨w, by rw [List.getElem?_set_ne hj]; exact e2, q.mono (Same.refl _) fun a e => ⟨rfl, ?_⟩⟩
      have z : ¬ ω a = some (.inr fr.length) := fun z => by rw [e] at z; cases z
      simp only [if_neg z]; exact e
  · have z : ¬ ω a = some (.inr fr.length) := fun z => by
      rw [e] at z
      cases z
      exact absurd hj (Nat.lt_irrefl _)
    simp only [if_neg z]; exact e
/-- slots forgotten -/
theorem StOk.weak {σ' : St} {Γ' : Ev} (h : StOk g Hf H σ Γ fr) (hl : Γ'.length = σ'.length) (k : ∀ (i : Nat) (x : Va), Γ'[i]? = some (some x) → Γ[i]? = some (some x) ∧ σ'[i]? = σ[i]?) : StOk g Hf H σ' Γ' fr := by
  obtain ⟨ω, h⟩ := h
  refine ⟨ω, h.base, h.sub, h.old, h.new, h.own, hl, fun i x e => ?_, h.fr⟩
  obtain ⟨e1, e2⟩ := k i x e
  obtain ⟨v, q1, q2⟩ := h.slots i x e1
  exact ⟨v, by rw [e2]; exact q1, q2⟩
/-- what stands at a slot, frozen -/
theorem StOk.getZ {i : Nat} {d : D} (h : StOk g Hf H σ Γ fr) (hi : Γ[i]? = some (some (.z, d))) : ∃ v, σ[i]? = some (some v) ∧ Fz g.K Hf v d := by
  obtain ⟨ω, h⟩ := h
  obtain ⟨v, e, A, o, _⟩ := h.slots i _ hi
  exact ⟨v, e, o.2⟩
/-- the owned list at a slot -/
theorem StOk.getL {i : Nat} {s : Sh} {ds : List D} (h : StOk g Hf H σ Γ fr) (hi : Γ[i]? = some (some (.l s, .list ds))) : ∃ a vs, σ[i]? = some (some (.ref a)) ∧ H a = some (.lst vs) ∧ vs.length = ds.length := by
  obtain ⟨ω, h⟩ := h
  obtain ⟨v, e, A, o, _⟩ := h.slots i _ hi
  obtain ⟨a, vs, ds', B, e1, e2, e3, r, e4⟩ := o
  cases e2
  subst e1
  exact ⟨a, vs, e, e3, r.length⟩
/-- the owned list of frozen items at a slot is rewritten with frozen items -/
theorem StOk.mut {i : Nat} {ds ds' : List D} {a : Addr} {vs' : List V} (h : StOk g Hf H σ Γ fr) (hi : Γ[i]? = some (some (.l .z, .list ds))) (ha : σ[i]? = some (some (.ref a))) (hv : FzAll g.K Hf vs' ds') :
    StOk g Hf (upd H a (.lst vs')) σ (Γ.set i (some (.l .z, .list ds'))) fr := by
  obtain ⟨ω, h⟩ := h
  obtain ⟨v, e, A, o, nd, hA⟩ := h.slots i _ hi
  obtain ⟨a', vs, ds0, B, e1, e2, e3, r, e4⟩ := o
  rw [e] at ha
  cases ha
  cases e1
  have wa : ω a = some (.inl i) := hA a (by rw [e4]; exact List.mem_cons_self)
  have ow := h.own a _ wa
  have k : ∀ b j, j ≠ Sum.inl i → ω b = some j → upd H a (.lst vs') b = H b := fun b j hj e => upd_ne (fun z => hj (by rw [z, wa] at e; exact (Option.some.inj e).symm))
  refine ⟨ω, fun b o e => ?_, fun b o e => ?_, h.old, h.new, fun b j e => ⟨(h.own b j e).1, (h.own b j e).2.1, ?_⟩, by rw [List.length_set]; exact h.len, fun j y e' => ?_, h.fr.mono (Same.refl _) fun b j _ e => ⟨k b (.inr j) (fun z => nomatch z) e, e⟩⟩
  · rw [upd_ne (ne_of_none e ow.1)]; exact h.base b o e
  · rw [upd_ne (ne_of_none e ow.2.1)]; exact h.sub b o e
  · by_cases z : b = a
    · subst z; rw [upd_same]; exact fun z => nomatch z
    · rw [upd_ne z]; exact (h.own b j e).2.2
  · by_cases hj : i = j
    · subst hj
      rw [List.getElem?_set_self (List.getElem?_eq_some_iff.mp hi).1] at e'
      cases e'
      exact ⟨.ref a, e, [a], ⟨a, vs', ds', [], rfl, rfl, upd_same, OwnL.of_zs hv, rfl⟩, by simp, fun b hb => by rw [List.mem_singleton.mp hb]; exact wa⟩
    · rw [List.getElem?_set_ne hj] at e'
      obtain ⟨w, e2, q⟩ := h.slots j y e'
      exact ⟨w, e2, q.mono (Same.refl _) fun b e => ⟨k b _ (fun z => by cases z; exact hj rfl) e, e⟩⟩
end

/-! ### new values -/
section
variable {K : PySem.W.Frag} {Hf H : Hp}
theorem NewV.z {v : V} {d : D} (s : Same Hf H) (h : Fz K Hf v d) : NewV K Hf H H Hf v (.z, d) := ⟨Same.refl _, Same.refl _, s, fun _ n => .inl n, [], ⟨rfl, h⟩, List.nodup_nil, fun _ z => nomatch z⟩
theorem same_new {H : Hp} {p : Addr} {o : HO} (n : H p = none) : Same H (upd H p o) := fun b u e => by rw [upd_ne (ne_of_none e n)]; exact e
theorem NewV.lst {p : Addr} {vs : List V} {ds : List D} (s : Same Hf H) (n : H p = none) (h : FzAll K Hf vs ds) : NewV K Hf H (upd H p (.lst vs)) Hf (.ref p) (.l .z, .list ds) :=
  ⟨same_new n, Same.refl _, s.trans (same_new n), fun _ n => .inl n, [p], ⟨p, vs, ds, [], rfl, rfl, upd_same, OwnL.of_zs h, rfl⟩, by simp, fun a ha => by rw [List.mem_singleton.mp ha]; exact ⟨n, Same.free s n⟩⟩
theorem NewV.tup {p : Addr} {vs : List V} {ds : List D} (s : Same Hf H) (n : H p = none) (h : FzAll K Hf vs ds) : NewV K Hf H (upd H p (.tup vs)) (upd Hf p (.tup vs)) (.ref p) (.z, .tuple ds) := by
  have nf : Hf p = none := Same.free s n
  refine ⟨same_new n, same_new nf, fun b o e => ?_, fun b e => ?_, [], ⟨rfl, .tup upd_same (h.mono (same_new nf))⟩, List.nodup_nil, fun _ z => nomatch z⟩
  · by_cases z : b = p
    · subst z; rw [upd_same] at e ⊢; exact e
    · rw [upd_ne z] at e ⊢; exact s b o e
  · by_cases z : b = p
    · subst z; exact .inr n
    · rw [upd_ne z] at e; exact .inl e
end
end PV
namespace PV
open PySem PySem.Spec PyProof.Rows L2

/-! ### what a def computes, as plain functions -/
def Out.bind {α β : Type} (o : Out α) (k : α → Ev → Out β) : Out β := match o with
  | .ok a Γ => k a Γ
  | .ex e Γ => .ex e Γ
  | .st => .st
def Out.of {α : Type} (o : Option α) (Γ : Ev) : Out α := match o with
  | some a => .ok a Γ
  | none => .st
/-- an operand: what it gives when it is asked, and what stands there when it is used -/
structure Opn where
  f : Ev → Out D
  l : Ev → D → Option D
structure Opns where
  f : Ev → Out (List D)
  l : Ev → List D → Option (List D)
/-- the top node is read in H, what is below stands frozen -/
def Fz1 (K : PySem.W.Frag) (Hf H : Hp) (v : V) (d : D) : Prop := Fz K Hf v d ∨ ∃ a vs ds, v = .ref a ∧ d = .list ds ∧ H a = some (.lst vs) ∧ FzAll K Hf vs ds
inductive Fz1All (K : PySem.W.Frag) (Hf H : Hp) : List V → List D → Prop
  | nil : Fz1All K Hf H [] []
  | cons {v : V} {vs : List V} {d : D} {ds : List D} : Fz1 K Hf H v d → Fz1All K Hf H vs ds → Fz1All K Hf H (v :: vs) (d :: ds)
/-- .. and the module's names, the wish about exceptions -/
structure GW where
  h : Gh
  mg : Str → Option Value
  W : WX
def ExOk (g : GW) (Hf : Hp) (e : Exc) (cls : Value) (dx : Option Addr) : Prop :=
  g.mg e.c = some cls ∧ ((e.fs = [] ∧ dx = none) ∨ ∃ a fv, dx = some a ∧ Hf a = some (.xd fv) ∧ fv.map (·.1) = e.fs.map (·.1) ∧ FzAll g.h.K Hf (fv.map (·.2)) (e.fs.map (·.2)) ∧ e.fs ≠ [])
def PEx (g : GW) (Hf : Hp) (σ : St) (fr : List (V × Va)) (e : Exc) (Γ' : Ev) : Prop :=
  ∀ cls dx H' Hf', Same Hf Hf' → ExOk g Hf' e cls dx → StOk g.h Hf' H' σ Γ' fr → g.W cls dx σ H'
def Late (g : GW) (Hf : Hp) (σ : St) (v : V) (L : Ev → Option D) : Prop :=
  ∀ Γ2 Hf2 H2 fr2, Same Hf Hf2 → StOk g.h Hf2 H2 σ Γ2 fr2 → ∀ d, L Γ2 = some d → Fz1 g.h.K Hf2 H2 v d
def Lates (g : GW) (Hf : Hp) (σ : St) (v : List V) (L : Ev → Option (List D)) : Prop :=
  ∀ Γ2 Hf2 H2 fr2, Same Hf Hf2 → StOk g.h Hf2 H2 σ Γ2 fr2 → ∀ d, L Γ2 = some d → Fz1All g.h.K Hf2 H2 v d
/-- generic ends -/
def Post {α β : Type} (g : GW) (σ : St) (fr : List (V × Va)) (R : Hp → Hp → α → Ev → β → Prop) (Hf : Hp) (Q : β → Hp → Prop) : Out α → Prop
  | .ok a Γ' => ∀ b H' Hf', Same Hf Hf' → R Hf' H' a Γ' b → Q b H'
  | .ex e Γ' => PEx g Hf σ fr e Γ'
  | .st => False
def RV (g : GW) (σ : St) (fr : List (V × Va)) : Hp → Hp → Va → Ev → V → Prop := fun Hf H x Γ v => StOk g.h Hf H σ Γ ((v, x) :: fr)
def RO (g : GW) (σ : St) (fr : List (V × Va)) (l : Ev → D → Option D) : Hp → Hp → D → Ev → V → Prop := fun Hf H d Γ v => StOk g.h Hf H σ Γ fr ∧ Late g Hf σ v fun Γ2 => l Γ2 d
def RA (g : GW) (σ : St) (fr : List (V × Va)) (l : Ev → List D → Option (List D)) : Hp → Hp → List D → Ev → List V → Prop := fun Hf H d Γ v => StOk g.h Hf H σ Γ fr ∧ Lates g Hf σ v fun Γ2 => l Γ2 d
def RT (g : GW) (σ : St) (fr : List (V × Va)) : Hp → Hp → Bool → Ev → Bool → Prop := fun Hf H b Γ c => StOk g.h Hf H σ Γ fr ∧ c = b
def tV (g : GW) (f : Ev → Out Va) : TE := fun σ H Q => ∃ Hf Γ fr, StOk g.h Hf H σ Γ fr ∧ Post g σ fr (RV g σ fr) Hf Q (f Γ)
def tO (g : GW) (o : Opn) : TE := fun σ H Q => ∃ Hf Γ fr, StOk g.h Hf H σ Γ fr ∧ Post g σ fr (RO g σ fr o.l) Hf Q (o.f Γ)
def tA (g : GW) (o : Opns) : TA := fun σ H Q => ∃ Hf Γ fr, StOk g.h Hf H σ Γ fr ∧ Post g σ fr (RA g σ fr o.l) Hf Q (o.f Γ)
def tT (g : GW) (c : Ev → Out Bool) : TT := fun σ H Q => ∃ Hf Γ fr, StOk g.h Hf H σ Γ fr ∧ Post g σ fr (RT g σ fr) Hf Q (c Γ)
abbrev gh (X : Cx) (W : WX) (f0 h0 : Hp) : GW := ⟨⟨X.K, f0, h0⟩, X.mg, W⟩
structure PV (X : Cx) (W : WX) (e : Expr) (f : Ev → Out Va) : Prop where
  run : ∀ f0 h0, PE X e (tV (gh X W f0 h0) f)
structure PZ (X : Cx) (W : WX) (e : Expr) (o : Opn) : Prop where
  run : ∀ f0 h0, PE X e (tO (gh X W f0 h0) o)
structure PZs (X : Cx) (W : WX) (es : List Expr) (o : Opns) : Prop where
  run : ∀ f0 h0, PA X es (tA (gh X W f0 h0) o)
structure PB (X : Cx) (W : WX) (e : Expr) (c : Ev → Out Bool) : Prop where
  run : ∀ f0 h0, PT X e (tT (gh X W f0 h0) c)
/-- and, or: a test whatever its whole is -/
structure PBw (X : Cx) (W : WX) (e : Expr) (c : Ev → Out Bool) : Prop where
  run : ∀ f0 h0, L2.PW X e (tT (gh X W f0 h0) c)

theorem _root_.L2.PE.imp {X : Cx} {e : Expr} {t t' : TE} (h : PE X e t) (k : ∀ σ H Q, t' σ H Q → t σ H Q) : PE X e t' := ⟨fun pins s σ H Q I q => h.run pins s σ H Q I (k σ H Q q)⟩
theorem _root_.L2.PT.imp {X : Cx} {e : Expr} {t t' : TT} (h : PT X e t) (k : ∀ σ H Q, t' σ H Q → t σ H Q) : PT X e t' := ⟨fun pins s σ H Q I q => h.run pins s σ H Q I (k σ H Q q)⟩
theorem _root_.L2.PW.imp {X : Cx} {e : Expr} {t t' : TT} (h : L2.PW X e t) (k : ∀ σ H Q, t' σ H Q → t σ H Q) : L2.PW X e t' := ⟨fun wh pins s σ H Q I q => h.run wh pins s σ H Q I (k σ H Q q)⟩
theorem _root_.L2.PA.imp {X : Cx} {e : List Expr} {t t' : TA} (h : PA X e t) (k : ∀ σ H Q, t' σ H Q → t σ H Q) : PA X e t' := ⟨fun p pins s σ H Q I q => h.run p pins s σ H Q I (k σ H Q q)⟩
theorem _root_.L2.PS.imp {X : Cx} {e : Stmt} {t t' : TS} (h : PS X e t) (k : ∀ D σ H, t' D σ H → t D σ H) : PS X e t' := ⟨fun pins s σ H Q I q => h.run pins s σ H Q I (k Q σ H q)⟩
theorem _root_.L2.PSs.imp {X : Cx} {e : List Stmt} {t t' : TS} (h : PSs X e t) (k : ∀ D σ H, t' D σ H → t D σ H) : PSs X e t' := ⟨fun pins s σ H Q I q => h.run pins s σ H Q I (k Q σ H q)⟩

section
variable {g : GW} {Hf Hf' H H' : Hp} {σ : St} {Γ Γ' : Ev} {fr fr' : List (V × Va)} {α β γ δ : Type}
theorem PEx.mono {e : Exc} (h : PEx g Hf σ fr e Γ) (s : Same Hf Hf') : PEx g Hf' σ fr e Γ := fun cls dx H1 Hf1 s1 x st => h cls dx H1 Hf1 (s.trans s1) x st
theorem PEx.pop {e : Exc} {p : V × Va} (h : PEx g Hf σ fr e Γ) : PEx g Hf σ (p :: fr) e Γ := fun cls dx H1 Hf1 s1 x st => h cls dx H1 Hf1 s1 x st.pop
theorem Post.mono {R : Hp → Hp → α → Ev → β → Prop} {Q : β → Hp → Prop} {o : Out α} (h : Post g σ fr R Hf Q o) (s : Same Hf Hf') : Post g σ fr R Hf' Q o := by
  cases o with
  | ok a Γ' => exact fun b H1 Hf1 s1 r => h b H1 Hf1 (s.trans s1) r
  | ex e Γ' => exact PEx.mono h s
  | st => exact h
theorem Post.pop {R : Hp → Hp → α → Ev → β → Prop} {Q : β → Hp → Prop} {p : V × Va} {o : Out α} {R' : Hp → Hp → α → Ev → β → Prop} (h : Post g σ fr R Hf Q o) (hr : ∀ Hf H a Γ b, R' Hf H a Γ b → R Hf H a Γ b) : Post g σ (p :: fr) R' Hf Q o := by
  cases o with
  | ok a Γ' => exact fun b H1 Hf1 s1 r => h b H1 Hf1 s1 (hr _ _ _ _ _ r)
  | ex e Γ' => exact PEx.pop h
  | st => exact h
/-- the first of two steps -/
theorem Post.bind {o : Out α} {k : α → Ev → Out γ} {R : Hp → Hp → γ → Ev → δ → Prop} {Q : δ → Hp → Prop} {R1 : Hp → Hp → α → Ev → β → Prop} {Q1 : β → Hp → Prop} (h : Post g σ fr R Hf Q (o.bind k))
    (h1 : ∀ a Γ1, o = .ok a Γ1 → ∀ b H1 Hf1, Same Hf Hf1 → R1 Hf1 H1 a Γ1 b → Post g σ fr R Hf1 Q (k a Γ1) → Q1 b H1) : Post g σ fr R1 Hf Q1 o := by
  cases o with
  | ok a Γ1 => exact fun b H1 Hf1 s1 r => h1 a Γ1 rfl b H1 Hf1 s1 r (Post.mono (show Post g σ fr R Hf Q (k a Γ1) from h) s1)
  | ex e Γ1 => exact h
  | st => exact h
theorem Post.of {R : Hp → Hp → α → Ev → β → Prop} {Q : β → Hp → Prop} {o : Option α} (h : Post g σ fr R Hf Q (.of o Γ)) : ∃ a, o = some a ∧ ∀ b H' Hf', Same Hf Hf' → R Hf' H' a Γ b → Q b H' := by
  cases o with
  | none => exact h.elim
  | some a => exact ⟨a, rfl, h⟩
theorem Late.mono {v : V} {L : Ev → Option D} (h : Late g Hf σ v L) (s : Same Hf Hf') : Late g Hf' σ v L := fun Γ2 Hf2 H2 fr2 s2 => h Γ2 Hf2 H2 fr2 (s.trans s2)
theorem Late.fz {v : V} {d : D} (h : Fz g.h.K Hf v d) : Late g Hf σ v fun _ => some d := fun Γ2 Hf2 H2 fr2 s2 st d' e => by
  cases e
  exact .inl (h.mono s2)
theorem Fz1All.length {K : PySem.W.Frag} : ∀ {vs : List V} {ds : List D}, Fz1All K Hf H vs ds → vs.length = ds.length
  | _, _, .nil => rfl
  | _, _, .cons _ r => congrArg (· + 1) r.length
end

/-! ### operands -/
def RF (g : GW) (σ : St) (fr : List (V × Va)) : Hp → Hp → D → Ev → V → Prop := fun Hf H d Γ v => StOk g.h Hf H σ Γ fr ∧ Fz g.h.K Hf v d
def tF (g : GW) (f : Ev → Out D) : TE := fun σ H Q => ∃ Hf Γ fr, StOk g.h Hf H σ Γ fr ∧ Post g σ fr (RF g σ fr) Hf Q (f Γ)
/-- frozen data -/
structure PF (X : Cx) (W : WX) (e : Expr) (f : Ev → Out D) : Prop where
  run : ∀ f0 h0, PE X e (tF (gh X W f0 h0) f)
def fC (d : D) : Ev → Out D := fun Γ => .ok d Γ
def fN (i : Nat) : Ev → Out D := fun Γ => match Γ[i]? with | some (some (.z, d)) => .ok d Γ | _ => .st
def fZ (i : Nat) : Ev → Out D := fun Γ => match Γ[i]? with | some (some x) => .ok x.2 (Γ.set i (some (.z, x.2))) | _ => .st
def fV (f : Ev → Out Va) : Ev → Out D := fun Γ => (f Γ).bind fun x Γ1 => .ok x.2 Γ1
def vF (f : Ev → Out D) : Ev → Out Va := fun Γ => (f Γ).bind fun d Γ1 => .ok (.z, d) Γ1
def oF (f : Ev → Out D) : Opn := ⟨f, fun _ d => some d⟩
/-- a slot whose list is read when it is used -/
def oB (i : Nat) : Opn := ⟨fun Γ => match Γ[i]? with | some (some _) => .ok .none Γ | _ => .st, fun Γ _ => match Γ[i]? with | some (some (.l .z, .list ds)) => some (.list ds) | some (some (.z, d)) => some d | _ => none⟩
def osN : Opns := ⟨fun Γ => .ok [] Γ, fun _ ds => some ds⟩
def osC (o : Opn) (os : Opns) : Opns := ⟨fun Γ => (o.f Γ).bind fun d Γ1 => (os.f Γ1).bind fun ds Γ2 => .ok (d :: ds) Γ2, fun Γ ds => match ds with | d :: ds => (o.l Γ d).bind fun d => (os.l Γ ds).bind fun ds => some (d :: ds) | [] => none⟩
section
variable {X : Cx} {W : WX} {e : Expr} {pos : Pos}
theorem pf_c {v : V} {d : D} (h : PE X e (tC v)) (q : ∀ K Hf, Fz K Hf v d) : PF X W e (fC d) := ⟨fun f0 h0 => h.imp fun σ H Q ⟨Hf, Γ, fr, st, p⟩ => p v H Hf (Same.refl _) ⟨st, q _ _⟩⟩
theorem pf_int {i j} : PF X W (.Constant (.int i) j pos) (fC (.int i)) := pf_c pe_int fun _ _ => .int i
theorem pf_bl {b j} : PF X W (.Constant (.bool b) j pos) (fC (.bool b)) := pf_c pe_bl fun _ _ => .bl b
theorem pf_non {j} : PF X W (.Constant .none j pos) (fC .none) := pf_c pe_non fun _ _ => .non
theorem pf_str {x j} : PF X W (.Constant (.str x) j pos) (fC (.str x)) := pf_c pe_str fun _ _ => .str x
theorem pf_v {f : Ev → Out Va} (h : PV X W e f) : PF X W e (fV f) := ⟨fun f0 h0 => (h.run f0 h0).imp fun σ H Q ⟨Hf, Γ, fr, st, p⟩ => ⟨Hf, Γ, fr, st, Post.bind p fun x Γ1 _ v H1 Hf1 s1 st1 q => by
  obtain ⟨Hf2, s2, st2⟩ := StOk.frz st1
  exact q v H1 Hf2 s2 ⟨st2.pop, st2.top⟩⟩⟩
theorem pv_f {f : Ev → Out D} (h : PF X W e f) : PV X W e (vF f) := ⟨fun f0 h0 => (h.run f0 h0).imp fun σ H Q ⟨Hf, Γ, fr, st, p⟩ => ⟨Hf, Γ, fr, st, Post.bind p fun x Γ1 _ v H1 Hf1 s1 ⟨st1, z⟩ q => q v H1 Hf1 (Same.refl _) (st1.push z)⟩⟩
theorem pz_f {f : Ev → Out D} (h : PF X W e f) : PZ X W e (oF f) := ⟨fun f0 h0 => (h.run f0 h0).imp fun σ H Q ⟨Hf, Γ, fr, st, p⟩ => by
  refine ⟨Hf, Γ, fr, st, ?_⟩
  have p' : Post (gh X W f0 h0) σ fr (RO (gh X W f0 h0) σ fr (oF f).l) Hf Q (f Γ) := p
  cases hf : f Γ with
  | ok d Γ1 =>
    rw [hf] at p'
    exact fun v H1 Hf1 s1 ⟨st1, z⟩ => p' v H1 Hf1 s1 ⟨st1, .fz z⟩
  | ex e Γ1 => rw [hf] at p'; exact p'
  | st => rw [hf] at p'; exact p'⟩
theorem pf_n (i : Nat) {x : Str} (hN : X.N[i]? = some x := by rfl) (hv : Vis X.env.scope x := by first | exact Or.inl rfl | exact Or.inr (Or.inl rfl) | exact Or.inr (Or.inr rfl)) (hd : (x == ("__debug__" : Str)) = false := by decide)
    (hcd : (x == ("__classdict__" : Str)) = false := by decide) : PF X W (.Name x pos) (fN i) := ⟨fun f0 h0 => (pe_var hN hv hd hcd).imp fun σ H Q ⟨Hf, Γ, fr, st, p⟩ => by
  unfold fN at p
  split at p
  · rename_i d e'
    obtain ⟨v, e1, fz⟩ := st.getZ e'
    exact ⟨v, e1, p v H Hf (Same.refl _) ⟨st, fz⟩⟩
  · exact p.elim⟩
theorem pf_z (i : Nat) {x : Str} (hN : X.N[i]? = some x := by rfl) (hv : Vis X.env.scope x := by first | exact Or.inl rfl | exact Or.inr (Or.inl rfl) | exact Or.inr (Or.inr rfl)) (hd : (x == ("__debug__" : Str)) = false := by decide)
    (hcd : (x == ("__classdict__" : Str)) = false := by decide) : PF X W (.Name x pos) (fZ i) := ⟨fun f0 h0 => (pe_var hN hv hd hcd).imp fun σ H Q ⟨Hf, Γ, fr, st, p⟩ => by
  unfold fZ at p
  split at p
  · rename_i x e
    obtain ⟨Hf1, v, s1, e1, st1⟩ := st.frzSlot e
    exact ⟨v, e1, p v H Hf1 s1 ⟨st1.pop, st1.top⟩⟩
  · exact p.elim⟩
theorem pz_b (i : Nat) {x : Str} (hN : X.N[i]? = some x := by rfl) (hv : Vis X.env.scope x := by first | exact Or.inl rfl | exact Or.inr (Or.inl rfl) | exact Or.inr (Or.inr rfl)) (hd : (x == ("__debug__" : Str)) = false := by decide)
    (hcd : (x == ("__classdict__" : Str)) = false := by decide) : PZ X W (.Name x pos) (oB i) := ⟨fun f0 h0 => (pe_var hN hv hd hcd).imp fun σ H Q ⟨Hf, Γ, fr, st, p⟩ => by
  unfold oB at p
  dsimp only at p
  split at p
  · rename_i x e
    have : ∃ v, σ[i]? = some (some v) := by
      obtain ⟨ω, st⟩ := st
      obtain ⟨v, e, _⟩ := st.slots i _ e
      exact ⟨v, e⟩
    obtain ⟨v, e1⟩ := this
    refine ⟨v, e1, p v H Hf (Same.refl _) ⟨st, fun Γ2 Hf2 H2 fr2 s2 st2 d h => ?_⟩⟩
    dsimp only at h
    split at h
    · rename_i ds q
      cases h
      obtain ⟨ω, st2⟩ := st2
      obtain ⟨v', e2, A, o, _⟩ := st2.slots i _ q
      rw [e1] at e2
      cases e2
      obtain ⟨a, vs, ds', B, rfl, e4, e5, e6, _⟩ := o
      cases e4
      exact .inr ⟨a, vs, ds, rfl, rfl, e5, e6.zs.2⟩
    · rename_i d' q
      cases h
      obtain ⟨v', e2, fz⟩ := st2.getZ q
      rw [e1] at e2
      cases e2
      exact .inl fz
    · cases h
  · exact p.elim⟩
theorem pzs_n : PZs X W [] osN := ⟨fun f0 h0 => pa_nil.imp fun σ H Q ⟨Hf, Γ, fr, st, p⟩ => p [] H Hf (Same.refl _) ⟨st, fun Γ2 Hf2 H2 fr2 s2 st2 d e => by
  cases e
  exact .nil⟩⟩
theorem pzs_c {es : List Expr} {o : Opn} {os : Opns} (h : PZ X W e o) (hs : PZs X W es os) (hst : starEach (e :: es) X.env = (false, eval e X.env) :: starEach es X.env := by rfl) : PZs X W (e :: es) (osC o os) :=
  ⟨fun f0 h0 => (pa_cons (h.run f0 h0) (hs.run f0 h0) hst).imp fun σ H Q ⟨Hf, Γ, fr, st, p⟩ => ⟨Hf, Γ, fr, st, Post.bind p fun d Γ1 _ v H1 Hf1 s1 ⟨st1, l1⟩ q => ⟨Hf1, Γ1, fr, st1, Post.bind q fun ds Γ2 _ vs H2 Hf2 s2 ⟨st2, l2⟩ q => q (v :: vs) H2 Hf2 (Same.refl _)
    ⟨st2, fun Γ3 Hf3 H3 fr3 s3 st3 r e => by
      cases h1 : o.l Γ3 d with
      | none => simp [osC, h1] at e
      | some d1 =>
        cases h2 : os.l Γ3 ds with
        | none => simp [osC, h1, h2] at e
        | some ds1 =>
          have e' : d1 :: ds1 = r := by simpa [osC, h1, h2] using e
          subst e'
          exact .cons (l1 Γ3 Hf3 H3 fr3 (s2.trans s3) st3 d1 h1) (l2 Γ3 Hf3 H3 fr3 s3 st3 ds1 h2)⟩⟩⟩⟩
end

/-! ### operators -/
/-- what a two-place operation gives, by the data -/
def OpS (K : PySem.W.Frag) (r : R2) (op : D → D → Option Va) : Prop := ∀ (Hf H : Hp) (x y : V) (dx dy : D) (z : Va) (Q : VK), Same Hf H → Fz1 K Hf H x dx → Fz1 K Hf H y dy → op dx dy = some z → (∀ v H' Hf', NewV K Hf H H' Hf' v z → Q v H') → r x y H Q
def o2 (op : D → D → Option Va) (a b : Opn) : Ev → Out Va := fun Γ => (a.f Γ).bind fun x Γ1 => (b.f Γ1).bind fun y Γ2 => .of ((a.l Γ2 x).bind fun x => (b.l Γ2 y).bind fun y => op x y) Γ2
theorem OpS.or {K : PySem.W.Frag} {r r' : R2} {op : D → D → Option Va} (h : OpS K r op) : OpS K (fun x y H Q => r x y H Q ∨ r' x y H Q) op := fun Hf H x y dx dy z Q s h1 h2 e q => .inl (h Hf H x y dx dy z Q s h1 h2 e q)
section
variable {X : Cx} {W : WX} {a b : Expr} {oa ob : Opn} {pos : Pos}
theorem bind2 {α β γ : Type} {x : Option α} {y : Option β} {f : α → β → Option γ} {z : γ} (h : (x.bind fun x => y.bind fun y => f x y) = some z) : ∃ a b, x = some a ∧ y = some b ∧ f a b = some z := by
  cases x with
  | none => cases h
  | some a =>
    cases y with
    | none => cases h
    | some b => exact ⟨a, b, rfl, rfl, h⟩
theorem tOp_of {g : GW} {r : R2} {op : D → D → Option Va} (hs : OpS g.h.K r op) {σ : St} {H : Hp} {Q : VK} (h : tV g (o2 op oa ob) σ H Q) : tOp r (tO g oa) (tO g ob) σ H Q := by
  obtain ⟨Hf, Γ, fr, st, p⟩ := h
  refine ⟨Hf, Γ, fr, st, Post.bind p fun x Γ1 _ v H1 Hf1 s1 ⟨st1, l1⟩ q => ⟨Hf1, Γ1, fr, st1, Post.bind q fun y Γ2 _ u H2 Hf2 s2 ⟨st2, l2⟩ q => ?_⟩⟩
  obtain ⟨z, e, q⟩ := Post.of q
  obtain ⟨x', y', e1, e2, e3⟩ := bind2 e
  exact hs Hf2 H2 v u x' y' z Q st2.sub (l1 Γ2 Hf2 H2 fr s2 st2 x' e1) (l2 Γ2 Hf2 H2 fr (Same.refl _) st2 y' e2) e3 fun v' H' Hf' n => q v' H' Hf' n.f1 (st2.pushN n)
theorem pv_bin {op : Operator} {r : R2} {f : D → D → Option Va} (ho : OpR X (binaryOp op) r) (hs : OpS X.K r f) (ha : PZ X W a oa) (hb : PZ X W b ob) : PV X W (.BinOp a op b pos) (o2 f oa ob) :=
  ⟨fun f0 h0 => (pe_op ho (ha.run f0 h0) (hb.run f0 h0)).imp fun σ H Q h => tOp_of hs h⟩
theorem pv_cmp {op : CmpOp} {r : R2} {f : D → D → Option Va} (ho : OpR X (compareOp op) r) (hs : OpS X.K r f) (ha : PZ X W a oa) (hb : PZ X W b ob) (hm : behindInMarks op b = false) : PV X W (.Compare a [op] [b] pos) (o2 f oa ob) :=
  ⟨fun f0 h0 => (pe_cmpR ho (ha.run f0 h0) (hb.run f0 h0) hm).imp fun σ H Q h => tOp_of hs h⟩
theorem pv_ix {r : R2} {f : D → D → Option Va} (ho : IxR X r) (hs : OpS X.K r f) (ha : PZ X W a oa) (hb : PZ X W b ob) (hp : PlainIx b) : PV X W (.Subscript a b pos) (o2 f oa ob) :=
  ⟨fun f0 h0 => (pe_ix ho (ha.run f0 h0) (hb.run f0 h0) hp).imp fun σ H Q h => tOp_of hs h⟩
/-- a value as a test -/
def bV (f : Ev → Out Va) : Ev → Out Bool := fun Γ => (f Γ).bind fun x Γ1 => .of (match x.2 with | .bool c => some c | _ => none) Γ1
theorem tTest_of {g : GW} {t : TE} {f : Ev → Out Va} {σ : St} {H : Hp} {Q : Bool → Hp → Prop} (hv : ∀ Q, tV g f σ H Q → t σ H Q) (h : tT g (bV f) σ H Q) : tTest t σ H Q := by
  obtain ⟨Hf, Γ, fr, st, p⟩ := h
  refine hv _ ⟨Hf, Γ, fr, st, Post.bind p fun x Γ1 _ v H1 Hf1 s1 st1 q => ?_⟩
  obtain ⟨c, e, q⟩ := Post.of q
  obtain ⟨s, d⟩ := x
  cases d with
  | bool k =>
    have e' : k = c := Option.some.inj e
    subst e'
    obtain ⟨Hf2, s2, st2⟩ := StOk.frz st1
    have z := st2.top
    cases z
    exact ⟨k, rfl, q k H1 Hf2 s2 ⟨st2.pop, rfl⟩⟩
  | _ => cases e
theorem pb_cmp {op : CmpOp} {r : R2} {f : D → D → Option Va} (ho : OpR X (compareOp op) r) (hs : OpS X.K r f) (ha : PZ X W a oa) (hb : PZ X W b ob) (hm : behindInMarks op b = false) : PB X W (.Compare a [op] [b] pos) (bV (o2 f oa ob)) :=
  ⟨fun f0 h0 => (pt_cmpR ho (ha.run f0 h0) (hb.run f0 h0) hm).imp fun σ H Q h => tTest_of (f := o2 f oa ob) (fun Q h => tOp_of hs h) h⟩
end
/-! ### the data's own operations -/
def b2 (o : Option Bool) : Option Va := o.map fun b => (.z, .bool b)
def mulOk (i j : Int) : Bool := decide (i.natAbs < 2 ^ 64) || decide (j.natAbs < 2 ^ 64)
def dAdd : D → D → Option Va
  | .int i, .int j => some (.z, .int (i + j))
  | .str i, .str j => if i.length + j.length ≤ 16777216 then some (.z, .str (i ++ j)) else none
  | .list i, .list j => if i.length + j.length ≤ 16777216 then some (.l .z, .list (i ++ j)) else none
  | .tuple i, .tuple j => if i.length + j.length ≤ 16777216 then some (.z, .tuple (i ++ j)) else none
  | _, _ => none
def dSub : D → D → Option Va
  | .int i, .int j => some (.z, .int (i - j))
  | _, _ => none
def dMul : D → D → Option Va
  | .int i, .int j => if mulOk i j then some (.z, .int (i * j)) else none
  | .list i, .int j => if 0 ≤ j ∧ j < 2 ^ 63 ∧ i.length * j.toNat ≤ 16777216 then some (.l .z, .list (List.replicate j.toNat i).flatten) else none
  | _, _ => none
def dDiv : D → D → Option Va
  | .int i, .int j => if 0 < j ∧ j < 2 ^ 64 then some (.z, .int (i / j)) else none
  | _, _ => none
def dMod : D → D → Option Va
  | .int i, .int j => if 0 < j then some (.z, .int (i % j)) else none
  | _, _ => none
def dPow : D → D → Option Va
  | .int i, .int j => if 0 ≤ j ∧ j ≤ 1000000 ∧ i.natAbs < 2 ^ 64 then some (.z, .int (i ^ j.toNat)) else none
  | _, _ => none
def dShl : D → D → Option Va
  | .int i, .int j => if 0 ≤ j ∧ j ≤ 1000000 ∧ i.natAbs < 2 ^ 64 then some (.z, .int (i * 2 ^ j.toNat)) else none
  | _, _ => none
def dShr : D → D → Option Va
  | .int i, .int j => if 0 ≤ j then some (.z, .int (i / 2 ^ j.toNat)) else none
  | _, _ => none
def dAnd : D → D → Option Va
  | .int i, .int j => some (.z, .int (Builtin.bitAnd i j))
  | _, _ => none
def dFlat : D → Bool
  | .none => true
  | .bool _ => true
  | .int _ => true
  | .str _ => true
  | _ => false
/-- == : of flat data, of data of a kind -/
def dEqv (a b : D) : Option Bool := if SeqAt.shaped a && SeqAt.shaped b then some (PyData.eqv a b) else none
def dSc : D → D → Option Bool
  | .none, .none => some true | .none, .int _ => some false | .int _, .none => some false | .none, .bool _ => some false | .bool _, .none => some false | .none, .str _ => some false | .str _, .none => some false
  | .int i, .int j => some (decide (i = j)) | .bool i, .bool j => some (decide (i = j)) | .str i, .str j => some (decide (i = j))
  | .int _, .str _ => some false | .str _, .int _ => some false | .bool _, .str _ => some false | .str _, .bool _ => some false
  | a, b => dEqv a b
def dEq (a b : D) : Option Va := b2 (dSc a b)
def dNe (a b : D) : Option Va := b2 ((dSc a b).map not)
def dLt : D → D → Option Va
  | .int i, .int j => some (.z, .bool (decide (i < j)))
  | .str i, .str j => some (.z, .bool (decide (i.cps.toList < j.cps.toList)))
  | _, _ => none
def dLe : D → D → Option Va
  | .int i, .int j => some (.z, .bool (decide (i ≤ j)))
  | _, _ => none
def dGt (a b : D) : Option Va := dLt b a
def dGe (a b : D) : Option Va := dLe b a
def dIs : D → D → Option Va
  | a, .none => some (.z, .bool (match a with | .none => true | _ => false))
  | _, _ => none
def dIsnt : D → D → Option Va
  | a, .none => some (.z, .bool (match a with | .none => false | _ => true))
  | _, _ => none
def dAt : D → D → Option Va
  | .list ds, .int i => (atI ds i).map fun d => (.z, d)
  | .tuple ds, .int i => (atI ds i).map fun d => (.z, d)
  | .str z, .int i => if z.length ≤ 16777216 then (atI z.cps.toList i).map fun c => (.z, .str ⟨#[c]⟩) else none
  | .dict [(.none, .list ds)], .int i => (atI ds i).map fun d => (.z, d)
  | .dict [(.none, .tuple ds)], .int i => (atI ds i).map fun d => (.z, d)
  | _, _ => none
section
variable {K : PySem.W.Frag} {Hf H : Hp}
theorem atI_map {α β : Type} (f : α → β) (xs : List α) (i : Int) : atI (xs.map f) i = (atI xs i).map f := by
  unfold atI
  rw [List.length_map]
  cases ixN xs.length i with
  | none => rfl
  | some j => simp
theorem FzAll.at {vs : List V} {ds : List D} {i : Int} {d : D} (h : FzAll K H vs ds) (e : atI ds i = some d) : ∃ v, atI vs i = some v ∧ Fz K H v d := by
  unfold atI at e ⊢
  rw [h.length]
  cases q : ixN ds.length i with
  | none => rw [q] at e; cases e
  | some j =>
    rw [q] at e
    exact h.get e
theorem Fz1.list {v : V} {ds : List D} (h : Fz1 K Hf H v (.list ds)) (s : Same Hf H) : ∃ a vs, v = .ref a ∧ H a = some (.lst vs) ∧ FzAll K Hf vs ds := by
  rcases h with h | ⟨a, vs, ds', rfl, e, h, r⟩
  · cases h with
    | lst h r => exact ⟨_, _, rfl, s _ _ h, r⟩
  · cases e
    exact ⟨a, vs, rfl, h, r⟩
theorem Fz1.tup {v : V} {ds : List D} (h : Fz1 K Hf H v (.tuple ds)) : ∃ a vs, v = .ref a ∧ SqT K Hf a vs ∧ FzAll K Hf vs ds := by
  rcases h with h | ⟨a, vs, ds', rfl, e, h, r⟩
  · cases h with
    | tup h r => exact ⟨_, _, rfl, SqT.of h, r⟩
  · cases e
/-- a tuple that was made while the program ran -/
theorem Fz1.tupZ {v : V} {ds : List D} (h : Fz1 K Hf H v (.tuple ds)) : ∃ a vs, v = .ref a ∧ Hf a = some (.tup vs) ∧ FzAll K Hf vs ds := by
  rcases h with h | ⟨a, vs, ds', rfl, e, h, r⟩
  · cases h with
    | tup h r => exact ⟨_, _, rfl, h, r⟩
  · cases e
theorem fz_kt {v : V} {ds : List D} (h : Fz K H v (.dict [(.none, .tuple ds)])) : ∃ a vs, v = .ref a ∧ SqT K H a vs ∧ FzAll K H vs ds := by
  generalize hd : PyData.dict [(.none, .tuple ds)] = d at h
  cases h with
  | kt h r =>
    injection hd with hd
    injection hd with hd _
    injection hd with _ hd
    injection hd with hd
    subst hd
    exact ⟨_, _, rfl, h, r⟩
  | @dK a kvs ds' h r =>
    injection hd with hd
    cases kvs with
    | nil => cases ds' <;> cases hd
    | cons p kvs =>
      cases ds' with
      | nil => cases hd
      | cons d' ds' =>
        rw [List.map_cons, List.zip_cons_cons] at hd
        injection hd with hd _
        injection hd with hd _
        obtain ⟨k, w⟩ := p
        cases k <;> cases hd
  | _ => cases hd
theorem Fz1.kt {v : V} {ds : List D} (h : Fz1 K Hf H v (.dict [(.none, .tuple ds)])) : ∃ a vs, v = .ref a ∧ SqT K Hf a vs ∧ FzAll K Hf vs ds := by
  rcases h with h | ⟨a, vs, ds', rfl, e, h, r⟩
  · exact fz_kt h
  · cases e
theorem Fz1.int {v : V} {i : Int} (h : Fz1 K Hf H v (.int i)) : v = .int i := by
  rcases h with h | ⟨a, vs, ds', rfl, e, h, r⟩
  · cases h; rfl
  · cases e
theorem Fz1.str {v : V} {i : Str} (h : Fz1 K Hf H v (.str i)) : v = .str i := by
  rcases h with h | ⟨a, vs, ds', rfl, e, h, r⟩
  · cases h; rfl
  · cases e
theorem Fz1.bool {v : V} {i : Bool} (h : Fz1 K Hf H v (.bool i)) : v = .bl i := by
  rcases h with h | ⟨a, vs, ds', rfl, e, h, r⟩
  · cases h; rfl
  · cases e
theorem Fz1.none {v : V} (h : Fz1 K Hf H v .none) : v = .non := by
  rcases h with h | ⟨a, vs, ds', rfl, e, h, r⟩
  · cases h; rfl
  · cases e
theorem Fz1.non_iff {v : V} {d : D} (h : Fz1 K Hf H v d) : decide (v = .non) = (match d with | .none => true | _ => false) := by
  rcases h with h | ⟨a, vs, ds', rfl, rfl, h, r⟩
  · cases h <;> rfl
  · rfl
theorem Fz1.scr {v : V} {ds : List D} (h : Fz1 K Hf H v (.dict [(.none, .list ds)])) (s : Same Hf H) : ∃ (a : Addr) (ns : List Int), v = .ref a ∧ SqL K H a (ns.map V.int) ∧ ds = ns.map .int := by
  rcases h with h | ⟨a, vs, ds', rfl, e, h, r⟩
  · generalize hd : PyData.dict [(.none, .list ds)] = d at h
    cases h with
    | scr ns h =>
      have hd' : ds = ns.map .int := by
        injection hd with hd
        injection hd with hd _
        injection hd with _ hd
        injection hd
      exact ⟨_, ns, rfl, s.seq h, hd'⟩
    | @dK a kvs ds' h r =>
      injection hd with hd
      cases kvs with
      | nil => cases ds' <;> cases hd
      | cons p kvs =>
        cases ds' with
        | nil => cases hd
        | cons d' ds' =>
          rw [List.map_cons, List.zip_cons_cons] at hd
          injection hd with hd _
          injection hd with hd _
          obtain ⟨k, w⟩ := p
          cases k <;> cases hd
    | _ => cases hd
  · cases e
theorem Fz1.dp {v : V} {d : D} (h : Fz1 K Hf H v d) (s : Same Hf H) (c : d.canLay0 = true) : Dp K H v d := by
  rcases h with h | ⟨a, vs, ds', rfl, rfl, h, r⟩
  · exact (h.mono s).dp c
  · exact .lst (.inl (.inl h)) ((r.mono s).dp c)
end
end PV
namespace PV
open PySem PySem.Spec PyProof.Rows L2

section
variable {X : Cx} {K : PySem.W.Frag}
def rI' (C : Int → Int → Prop) (g : Int → Int → V) : R2 := rI C g
/-- ints -/
theorem ops_int {C : Int → Int → Prop} {g : Int → Int → Int} {op : D → D → Option Va} (h : ∀ dx dy z, op dx dy = some z → ∃ i j, dx = .int i ∧ dy = .int j ∧ C i j ∧ z = (.z, .int (g i j))) : OpS K (rI C fun i j => .int (g i j)) op := fun Hf H x y dx dy z Q s h1 h2 e q => by
  obtain ⟨i, j, rfl, rfl, c, rfl⟩ := h dx dy z e
  exact ⟨i, j, h1.int, h2.int, c, q _ H Hf (.z s (.int _))⟩
theorem ops_int0 {g : Int → Int → Int} {op : D → D → Option Va} (h : ∀ dx dy z, op dx dy = some z → ∃ i j, dx = .int i ∧ dy = .int j ∧ z = (.z, .int (g i j))) : OpS K (rI0 fun i j => .int (g i j)) op := fun Hf H x y dx dy z Q s h1 h2 e q => by
  obtain ⟨i, j, rfl, rfl, rfl⟩ := h dx dy z e
  exact ⟨i, j, h1.int, h2.int, q _ H Hf (.z s (.int _))⟩
def rAddV (K : PySem.W.Frag) : R2 := fun x y H Q => (rI0 (fun i j => .int (i + j)) x y H Q ∨ ∃ i j, x = .str i ∧ y = .str j ∧ i.length + j.length ≤ sizeLine ∧ Q (.str (i ++ j)) H) ∨ rCat x y H Q ∨ rCatA K x y H Q
theorem op_addV : OpR X (binaryOp .Add) (rAddV X.K) := (op_add.or op_add_str).or (op_cat.or op_catA)
theorem ops_add : OpS K (rAddV K) dAdd := fun Hf H x y dx dy z Q s h1 h2 e q => by
  cases dx <;> cases dy <;> first
    | (cases e; done)
    | (cases e; exact .inl (.inl ⟨_, _, h1.int, h2.int, q _ H Hf (.z s (.int _))⟩))
    | (simp only [dAdd] at e; split at e <;> cases e <;> first
        | exact .inl (.inr ⟨_, _, h1.str, h2.str, ‹_›, q _ H Hf (.z s (.str _))⟩)
        | (obtain ⟨a, vs, rfl, r1, f1⟩ := h1.list s
           obtain ⟨b, ws, rfl, r2, f2⟩ := h2.list s
           exact .inr (.inl ⟨a, b, vs, ws, rfl, rfl, r1, r2, by rw [f1.length, f2.length]; assumption, fun p n => q _ _ Hf (.lst s n (f1.append f2))⟩))
        | (obtain ⟨a, vs, rfl, r1, f1⟩ := h1.tupZ
           obtain ⟨b, ws, rfl, r2, f2⟩ := h2.tupZ
           refine .inr (.inr ⟨a, b, vs, ws, rfl, rfl, Same.seqT s (SqT.of r1), Same.seqT s (SqT.of r2), by rw [f1.length, f2.length]; assumption, fun e => ?_, fun _ e => ?_, fun _ _ p n => q _ _ _ (.tup s n (f1.append f2))⟩)
           · subst e
             cases f1
             exact q _ H Hf (.z s (.tup r2 f2))
           · subst e
             cases f2
             rw [List.append_nil] at q
             exact q _ H Hf (.z s (.tup r1 f1))))
theorem ops_sub : OpS K (rI0 fun i j => .int (i - j)) dSub := ops_int0 fun dx dy z e => by
  cases dx <;> cases dy <;> cases e
  exact ⟨_, _, rfl, rfl, rfl⟩
def CMul' (i j : Int) : Prop := mulOk i j = true
theorem cmul_of {i j : Int} (h : CMul' i j) : CMul i j := by
  unfold CMul' mulOk at h
  rw [Bool.or_eq_true, decide_eq_true_eq, decide_eq_true_eq] at h
  unfold CMul
  omega
def rMulV : R2 := fun x y H Q => rI CMul (fun i j => .int (i * j)) x y H Q ∨ rRep x y H Q
theorem op_mulV : OpR X (binaryOp .Mult) rMulV := op_mul.or op_rep
theorem ops_mul : OpS K rMulV dMul := fun Hf H x y dx dy z Q s h1 h2 e q => by
  cases dx <;> cases dy <;> first
    | (cases e; done)
    | (simp only [dMul] at e; split at e <;> cases e <;> first
        | exact .inl ⟨_, _, h1.int, h2.int, cmul_of ‹_›, q _ H Hf (.z s (.int _))⟩
        | (obtain ⟨a, vs, rfl, r1, f1⟩ := h1.list s
           obtain ⟨c1, c2, c3⟩ := ‹_ ∧ _›
           refine .inr ⟨a, _, vs, rfl, h2.int, r1, by omega, c2, by rw [f1.length]; exact c3, fun p n => q _ _ Hf (.lst s n ?_)⟩
           rename_i k
           have : ∀ m : Nat, FzAll K Hf (List.replicate m vs).flatten (List.replicate m ‹List PyData›).flatten := fun m => by
             induction m with
             | zero => exact .nil
             | succ m ih =>
               rw [List.replicate_succ, List.replicate_succ, List.flatten_cons, List.flatten_cons]
               exact f1.append ih
           exact this _))
def CDiv' (i j : Int) : Prop := 0 < j ∧ j < 2 ^ 64
theorem op_divV : OpR X (binaryOp .FloorDiv) (rI CDiv' fun i j => .int (i / j)) := fun pins s σ H x y v u Q I rx ry h => by
  obtain ⟨i, j, e1, e2, c, q⟩ := h
  have c' : 0 < j ∧ j < 2 ^ 64 := c
  exact op_fdivW pins s σ H x y v u Q I rx ry ⟨i, j, e1, e2, wide_div (b := 64) c'.1 (by omega) (by decide) (by decide), q⟩
theorem ops_div : OpS K (rI CDiv' fun i j => .int (i / j)) dDiv := ops_int fun dx dy z e => by
  cases dx <;> cases dy <;> first
    | (cases e; done)
    | (simp only [dDiv] at e; split at e <;> cases e; exact ⟨_, _, rfl, rfl, ‹_›, rfl⟩)
theorem ops_mod : OpS K (rI (fun _ j => 0 < j) fun i j => .int (i % j)) dMod := ops_int fun dx dy z e => by
  cases dx <;> cases dy <;> first
    | (cases e; done)
    | (simp only [dMod] at e; split at e <;> cases e; exact ⟨_, _, rfl, rfl, ‹_›, rfl⟩)
theorem ops_pow : OpS K (rI CPow fun i j => .int (i ^ j.toNat)) dPow := ops_int fun dx dy z e => by
  cases dx <;> cases dy <;> first
    | (cases e; done)
    | (simp only [dPow] at e; split at e <;> cases e; exact ⟨_, _, rfl, rfl, ‹_›, rfl⟩)
theorem ops_shl : OpS K (rI CPow fun i j => .int (i * 2 ^ j.toNat)) dShl := ops_int fun dx dy z e => by
  cases dx <;> cases dy <;> first
    | (cases e; done)
    | (simp only [dShl] at e; split at e <;> cases e; exact ⟨_, _, rfl, rfl, ‹_›, rfl⟩)
theorem ops_shr : OpS K (rI (fun _ j => 0 ≤ j) fun i j => .int (i / 2 ^ j.toNat)) dShr := ops_int fun dx dy z e => by
  cases dx <;> cases dy <;> first
    | (cases e; done)
    | (simp only [dShr] at e; split at e <;> cases e; exact ⟨_, _, rfl, rfl, ‹_›, rfl⟩)
theorem ops_and : OpS K (rI0 fun i j => .int (Builtin.bitAnd i j)) dAnd := ops_int0 fun dx dy z e => by
  cases dx <;> cases dy <;> cases e
  exact ⟨_, _, rfl, rfl, rfl⟩
/-! comparisons -/
def rEqV (K : PySem.W.Frag) : R2 := fun x y H Q => rEq x y H Q ∨ rEqD K x y H Q
def rNeV (K : PySem.W.Frag) : R2 := fun x y H Q => rNe x y H Q ∨ rNeD K x y H Q
theorem op_eqV (hu : X.A.units + 64 < cLine) : OpR X (compareOp .Eq) (rEqV X.K) := op_eq.or (op_eqD hu)
theorem op_neV (hu : X.A.units + 64 < cLine) : OpR X (compareOp .NotEq) (rNeV X.K) := op_ne.or (op_neD hu)
theorem dEqv_some {a b : D} {c : Bool} (h : dEqv a b = some c) : SeqAt.shaped a = true ∧ SeqAt.shaped b = true ∧ PyData.eqv a b = c := by
  unfold dEqv at h
  split at h
  · rename_i q
    rw [Bool.and_eq_true] at q
    exact ⟨q.1, q.2, Option.some.inj h⟩
  · cases h
theorem dSc_ok {x y : V} {a b : D} {c : Bool} (s : Same Hf H) (h1 : Fz1 K Hf H x a) (h2 : Fz1 K Hf H y b) (e : dSc a b = some c) :
    (L2.scal x y = true ∧ decide (x = y) = c) ∨ ∃ d e, Dp K H x d ∧ Dp K H y e ∧ SeqAt.shaped d = true ∧ SeqAt.shaped e = true ∧ PyData.eqv d e = c := by
  have go : ∀ {a b : D}, Fz1 K Hf H x a → Fz1 K Hf H y b → dEqv a b = some c → ∃ d e, Dp K H x d ∧ Dp K H y e ∧ SeqAt.shaped d = true ∧ SeqAt.shaped e = true ∧ PyData.eqv d e = c := fun {a b} h1 h2 e => by
    obtain ⟨q1, q2, q3⟩ := dEqv_some e
    exact ⟨a, b, h1.dp s (SeqAt.canLay_of_shaped q1), h2.dp s (SeqAt.canLay_of_shaped q2), q1, q2, q3⟩
  cases a <;> cases b <;> first
    | exact .inr (go h1 h2 e)
    | (have e' := Option.some.inj e
       subst e'
       first
         | (cases h1.none; cases h2.none; exact .inl ⟨rfl, by simp⟩)
         | (cases h1.none; cases h2.int; exact .inl ⟨rfl, by simp⟩)
         | (cases h1.none; cases h2.bool; exact .inl ⟨rfl, by simp⟩)
         | (cases h1.none; cases h2.str; exact .inl ⟨rfl, by simp⟩)
         | (cases h1.int; cases h2.none; exact .inl ⟨rfl, by simp⟩)
         | (cases h1.bool; cases h2.none; exact .inl ⟨rfl, by simp⟩)
         | (cases h1.str; cases h2.none; exact .inl ⟨rfl, by simp⟩)
         | (cases h1.int; cases h2.int; exact .inl ⟨rfl, by simp⟩)
         | (cases h1.bool; cases h2.bool; exact .inl ⟨rfl, by simp⟩)
         | (cases h1.str; cases h2.str; exact .inl ⟨rfl, by simp⟩)
         | (cases h1.int; cases h2.str; exact .inl ⟨rfl, by simp⟩)
         | (cases h1.str; cases h2.int; exact .inl ⟨rfl, by simp⟩)
         | (cases h1.bool; cases h2.str; exact .inl ⟨rfl, by simp⟩)
         | (cases h1.str; cases h2.bool; exact .inl ⟨rfl, by simp⟩))
theorem ops_eq : OpS K (rEqV K) dEq := fun Hf H x y dx dy z Q s h1 h2 e q => by
  cases h : dSc dx dy with
  | none => rw [dEq, h] at e; cases e
  | some c =>
    rw [dEq, h] at e
    cases e
    rcases dSc_ok s h1 h2 h with ⟨a, b⟩ | ⟨d, e, a1, a2, a3, a4, a5⟩
    · exact .inl ⟨a, by rw [b]; exact q _ H Hf (.z s (.bl _))⟩
    · exact .inr ⟨d, e, a1, a2, a3, a4, by rw [a5]; exact q _ H Hf (.z s (.bl _))⟩
theorem ops_ne : OpS K (rNeV K) dNe := fun Hf H x y dx dy z Q s h1 h2 e q => by
  cases h : dSc dx dy with
  | none => rw [dNe, h] at e; cases e
  | some c =>
    rw [dNe, h] at e
    cases e
    rcases dSc_ok s h1 h2 h with ⟨a, b⟩ | ⟨d, e, a1, a2, a3, a4, a5⟩
    · exact .inl ⟨a, by rw [b]; exact q _ H Hf (.z s (.bl _))⟩
    · exact .inr ⟨d, e, a1, a2, a3, a4, by rw [a5]; exact q _ H Hf (.z s (.bl _))⟩
def rLtV : R2 := fun x y H Q => rI0 (fun i j => .bl (decide (i < j))) x y H Q ∨ ∃ i j, x = .str i ∧ y = .str j ∧ Q (.bl (decide (i.cps.toList < j.cps.toList))) H
def rGtV : R2 := fun x y H Q => rI0 (fun i j => .bl (decide (j < i))) x y H Q ∨ ∃ i j, x = .str i ∧ y = .str j ∧ Q (.bl (decide (j.cps.toList < i.cps.toList))) H
theorem op_ltV : OpR X (compareOp .Lt) rLtV := op_lt.or op_lt_str
theorem op_gtV : OpR X (compareOp .Gt) rGtV := op_gt.or op_gt_str
theorem ops_lt : OpS K rLtV dLt := fun Hf H x y dx dy z Q s h1 h2 e q => by
  cases dx <;> cases dy <;> first
    | (cases e; done)
    | (cases e; exact .inl ⟨_, _, h1.int, h2.int, q _ H Hf (.z s (.bl _))⟩)
    | (cases e; exact .inr ⟨_, _, h1.str, h2.str, q _ H Hf (.z s (.bl _))⟩)
theorem ops_gt : OpS K rGtV dGt := fun Hf H x y dx dy z Q s h1 h2 e q => by
  cases dx <;> cases dy <;> first
    | (cases e; done)
    | (cases e; exact .inl ⟨_, _, h1.int, h2.int, q _ H Hf (.z s (.bl _))⟩)
    | (cases e; exact .inr ⟨_, _, h1.str, h2.str, q _ H Hf (.z s (.bl _))⟩)
theorem ops_le : OpS K (rI0 fun i j => .bl (decide (i ≤ j))) dLe := fun Hf H x y dx dy z Q s h1 h2 e q => by
  cases dx <;> cases dy <;> first
    | (cases e; done)
    | (cases e; exact ⟨_, _, h1.int, h2.int, q _ H Hf (.z s (.bl _))⟩)
theorem ops_ge : OpS K (rI0 fun i j => .bl (decide (j ≤ i))) dGe := fun Hf H x y dx dy z Q s h1 h2 e q => by
  cases dx <;> cases dy <;> first
    | (cases e; done)
    | (cases e; exact ⟨_, _, h1.int, h2.int, q _ H Hf (.z s (.bl _))⟩)
def rIsN : R2 := fun x y H Q => y = .non ∧ Q (.bl (decide (x = .non))) H
def rNotN : R2 := fun x y H Q => y = .non ∧ Q (.bl (!decide (x = .non))) H
theorem op_isV : OpR X (compareOp .Is) rIsN := op_isN
theorem op_isntV : OpR X (compareOp .IsNot) rNotN := op_notN
theorem ops_is : OpS K rIsN dIs := fun Hf H x y dx dy z Q s h1 h2 e q => by
  cases dy <;> first
    | (cases dx <;> cases e; done)
    | (refine ⟨h2.none, ?_⟩; rw [h1.non_iff]; cases dx <;> cases e <;> exact q _ H Hf (.z s (.bl _)))
theorem ops_isnt : OpS K rNotN dIsnt := fun Hf H x y dx dy z Q s h1 h2 e q => by
  cases dy <;> first
    | (cases dx <;> cases e; done)
    | (refine ⟨h2.none, ?_⟩; rw [h1.non_iff]; cases dx <;> cases e <;> exact q _ H Hf (.z s (.bl _)))
/-! subscripts -/
theorem ops_at : OpS K (rIx K) dAt := fun Hf H x y dx dy z Q s h1 h2 e q => by
  unfold dAt at e
  split at e
  · cases h : atI ‹List D› ‹Int› with
    | none => rw [h] at e; cases e
    | some d =>
      rw [h] at e
      cases e
      obtain ⟨a, vs, rfl, r, f⟩ := h1.list s
      obtain ⟨v, e1, f1⟩ := f.at h
      exact .inl ⟨a, vs, _, v, rfl, h2.int, SqL.of r, e1, q _ H Hf (.z s f1)⟩
  · cases h : atI ‹List D› ‹Int› with
    | none => rw [h] at e; cases e
    | some d =>
      rw [h] at e
      cases e
      obtain ⟨a, vs, rfl, r, f⟩ := h1.tup
      obtain ⟨v, e1, f1⟩ := f.at h
      exact .inr (.inl ⟨a, vs, _, v, rfl, h2.int, Same.seqT s r, e1, q _ H Hf (.z s f1)⟩)
  · split at e
    · cases h : atI (‹Str› : Str).cps.toList ‹Int› with
      | none => rw [h] at e; cases e
      | some d =>
        rw [h] at e
        cases e
        exact .inr (.inr ⟨_, _, d, h1.str, h2.int, ‹_›, h, q _ H Hf (.z s (.str _))⟩)
    · cases e
  · cases h : atI ‹List D› ‹Int› with
    | none => rw [h] at e; cases e
    | some d =>
      rw [h] at e
      cases e
      obtain ⟨a, ns, rfl, r, rfl⟩ := h1.scr s
      rw [atI_map] at h
      cases h' : atI ns ‹Int› with
      | none => rw [h'] at h; cases h
      | some n =>
        rw [h'] at h
        cases h
        exact .inl ⟨a, _, _, .int n, rfl, h2.int, r, by rw [atI_map, h']; rfl, q _ H Hf (.z s (.int n))⟩
  · cases h : atI ‹List D› ‹Int› with
    | none => rw [h] at e; cases e
    | some d =>
      rw [h] at e
      cases e
      obtain ⟨a, vs, rfl, r, f⟩ := h1.kt
      obtain ⟨v, e1, f1⟩ := f.at h
      exact .inr (.inl ⟨a, vs, _, v, rfl, h2.int, Same.seqT s r, e1, q _ H Hf (.z s f1)⟩)
  · cases e
end
end PV
namespace PV
open PySem PySem.Spec PyProof.Rows L2

/-! ### lists of frozen items -/
def RFs (g : GW) (σ : St) (fr : List (V × Va)) : Hp → Hp → List D → Ev → List V → Prop := fun Hf H d Γ v => StOk g.h Hf H σ Γ fr ∧ FzAll g.h.K Hf v d
def tFs (g : GW) (f : Ev → Out (List D)) : TA := fun σ H Q => ∃ Hf Γ fr, StOk g.h Hf H σ Γ fr ∧ Post g σ fr (RFs g σ fr) Hf Q (f Γ)
structure PFs (X : Cx) (W : WX) (es : List Expr) (f : Ev → Out (List D)) : Prop where
  run : ∀ f0 h0, PA X es (tFs (gh X W f0 h0) f)
def fsN : Ev → Out (List D) := fun Γ => .ok [] Γ
def fsC (f : Ev → Out D) (fs : Ev → Out (List D)) : Ev → Out (List D) := fun Γ => (f Γ).bind fun d Γ1 => (fs Γ1).bind fun ds Γ2 => .ok (d :: ds) Γ2
section
variable {X : Cx} {W : WX} {e : Expr} {es : List Expr} {pos : Pos}
theorem pfs_n : PFs X W [] fsN := ⟨fun f0 h0 => pa_nil.imp fun σ H Q ⟨Hf, Γ, fr, st, p⟩ => p [] H Hf (Same.refl _) ⟨st, .nil⟩⟩
theorem pfs_c {f : Ev → Out D} {fs : Ev → Out (List D)} (h : PF X W e f) (hs : PFs X W es fs) (hst : starEach (e :: es) X.env = (false, eval e X.env) :: starEach es X.env := by rfl) : PFs X W (e :: es) (fsC f fs) :=
  ⟨fun f0 h0 => (pa_cons (h.run f0 h0) (hs.run f0 h0) hst).imp fun σ H Q ⟨Hf, Γ, fr, st, p⟩ => ⟨Hf, Γ, fr, st, Post.bind p fun d Γ1 _ v H1 Hf1 s1 ⟨st1, l1⟩ q => ⟨Hf1, Γ1, fr, st1, Post.bind q fun ds Γ2 _ vs H2 Hf2 s2 ⟨st2, l2⟩ q => q (v :: vs) H2 Hf2 (Same.refl _) ⟨st2, .cons (l1.mono s2) l2⟩⟩⟩⟩
/-- [a, b, ..], (a, b, ..) -/
def fLst (fs : Ev → Out (List D)) : Ev → Out Va := fun Γ => (fs Γ).bind fun ds Γ1 => .of (if ds.length ≤ 16777216 then some (.l .z, .list ds) else none) Γ1
def fTup (fs : Ev → Out (List D)) : Ev → Out D := fun Γ => (fs Γ).bind fun ds Γ1 => .of (if ds.length ≤ 16777216 then some (.tuple ds) else none) Γ1
theorem pv_lst {fs : Ev → Out (List D)} (h : PFs X W es fs) : PV X W (.List es pos) (fLst fs) :=
  ⟨fun f0 h0 => (pe_lst (h.run f0 h0)).imp fun σ H Q ⟨Hf, Γ, fr, st, p⟩ => ⟨Hf, Γ, fr, st, Post.bind p fun ds Γ1 _ vs H1 Hf1 s1 ⟨st1, l1⟩ q => by
    obtain ⟨x, e, q⟩ := Post.of q
    split at e <;> cases e
    refine ⟨by rw [l1.length, sizeLine_eq]; assumption, fun p n => ?_⟩
    exact q _ _ Hf1 (Same.refl _) (st1.pushN (.lst st1.sub n l1))⟩⟩
theorem pf_tup {fs : Ev → Out (List D)} {k} (h : PFs X W es fs) : PF X W (.Tuple es k pos) (fTup fs) :=
  ⟨fun f0 h0 => (pe_tup (h.run f0 h0)).imp fun σ H Q ⟨Hf, Γ, fr, st, p⟩ => ⟨Hf, Γ, fr, st, Post.bind p fun ds Γ1 _ vs H1 Hf1 s1 ⟨st1, l1⟩ q => by
    obtain ⟨x, e, q⟩ := Post.of q
    split at e <;> cases e
    refine ⟨by rw [l1.length, sizeLine_eq]; assumption, fun p n => ?_⟩
    have nv := NewV.tup (K := X.K) st1.sub n l1
    have st2 := st1.pushN nv
    exact q _ _ _ nv.f1 ⟨st2.pop, st2.top⟩⟩⟩
end

/-! ### calls of built-ins -/
def CallS (K : PySem.W.Frag) (r : List V → Hp → VK → Prop) (op : List D → Option Va) : Prop := ∀ (Hf H : Hp) (xs : List V) (ds : List D) (z : Va) (Q : VK), Same Hf H → Fz1All K Hf H xs ds → op ds = some z → (∀ v H' Hf', NewV K Hf H H' Hf' v z → Q v H') → r xs H Q
def fB (op : List D → Option Va) (os : Opns) : Ev → Out Va := fun Γ => (os.f Γ).bind fun ds Γ1 => .of ((os.l Γ1 ds).bind op) Γ1
section
variable {X : Cx} {W : WX} {e : Expr} {es : List Expr} {x : Str} {p pos : Pos} {id T : String} {r : List V → Hp → VK → Prop} {op : List D → Option Va} {os : Opns}
theorem tCB_of {g : GW} (hs : CallS g.h.K r op) {σ : St} {H : Hp} {Q : VK} (h : tV g (fB op os) σ H Q) : tCB r (tA g os) σ H Q := by
  obtain ⟨Hf, Γ, fr, st, p⟩ := h
  refine ⟨Hf, Γ, fr, st, Post.bind p fun ds Γ1 _ vs H1 Hf1 s1 ⟨st1, l1⟩ q => ?_⟩
  obtain ⟨z, e, q⟩ := Post.of q
  cases h : os.l Γ1 ds with
  | none => rw [h] at e; cases e
  | some ds' =>
    rw [h] at e
    exact hs Hf1 H1 vs ds' z Q st1.sub (l1 Γ1 Hf1 H1 fr (Same.refl _) st1 ds' h) e fun v' H' Hf' n => q v' H' Hf' n.f1 (st1.pushN n)
theorem pv_callB (hc : CallR X (.builtin id) r) (hs : CallS X.K r op) (hg : Gl X x) (hm : X.mg x = none) (hv : bootBuiltins x = some (.builtin id)) (ha : PZs X W (e :: es) os) (hn : x ≠ "__name__" := by decide) (hdb : (x == ("__debug__" : Str)) = false := by decide)
    (he : starEach (e :: es) X.env = (false, eval e X.env) :: starEach es X.env := by rfl) (hpl : (backTo pos (starEach es X.env)).any (·.1) = false := by rfl) : PV X W (.Call (.Name x p) (e :: es) [] pos) (fB op os) :=
  ⟨fun f0 h0 => (pe_callB hc hg hm hv (ha.run f0 h0) hn hdb he hpl).imp fun σ H Q h => tCB_of hs h⟩
theorem pv_callTy (hc : CallR X (.type T) r) (hs : CallS X.K r op) (hg : Gl X x) (hm : X.mg x = none) (hv : bootBuiltins x = some (.type T)) (ha : PZs X W (e :: es) os) (hn : x ≠ "__name__" := by decide) (hdb : (x == ("__debug__" : Str)) = false := by decide)
    (he : starEach (e :: es) X.env = (false, eval e X.env) :: starEach es X.env := by rfl) (hpl : (backTo pos (starEach es X.env)).any (·.1) = false := by rfl) : PV X W (.Call (.Name x p) (e :: es) [] pos) (fB op os) :=
  ⟨fun f0 h0 => (pe_callTy hc hg hm hv (ha.run f0 h0) hn hdb he hpl).imp fun σ H Q h => tCB_of hs h⟩
end
section
variable {X : Cx} {K : PySem.W.Frag}
theorem Fz1All.one {Hf H : Hp} {xs : List V} {d : D} (h : Fz1All K Hf H xs [d]) : ∃ v, xs = [v] ∧ Fz1 K Hf H v d := by
  cases h with
  | cons h r => cases r; exact ⟨_, rfl, h⟩
theorem Fz1All.two {Hf H : Hp} {xs : List V} {d e : D} (h : Fz1All K Hf H xs [d, e]) : ∃ v w, xs = [v, w] ∧ Fz1 K Hf H v d ∧ Fz1 K Hf H w e := by
  cases h with
  | cons h r =>
    cases r with
    | cons h2 r2 => cases r2; exact ⟨_, _, rfl, h, h2⟩
def dLen : List D → Option Va
  | [.list ds] => some (.z, .int ds.length)
  | [.tuple ds] => some (.z, .int ds.length)
  | [.str z] => if z.length ≤ 16777216 then some (.z, .int z.length) else none
  | [.dict [(.none, .list ds)]] => some (.z, .int ds.length)
  | _ => none
def rLenV (K : PySem.W.Frag) : List V → Hp → VK → Prop := fun xs H Q => (∃ p ys, xs = [.ref p] ∧ (SqL K H p ys ∨ SqT K H p ys) ∧ Q (.int ys.length) H) ∨ ∃ z, xs = [.str z] ∧ z.length ≤ sizeLine ∧ Q (.int z.length) H
theorem call_lenV : CallR X (.builtin "len") (rLenV X.K) := call_len_seq.or call_len_str
theorem cs_len : CallS K (rLenV K) dLen := fun Hf H xs ds z Q s h e q => by
  unfold dLen at e
  split at e
  · obtain ⟨v, rfl, hh⟩ := h.one
    cases e
    obtain ⟨a, vs, rfl, r, f⟩ := hh.list s
    exact .inl ⟨a, vs, rfl, .inl (SqL.of r), by rw [f.length]; exact q _ H Hf (.z s (.int _))⟩
  · obtain ⟨v, rfl, hh⟩ := h.one
    cases e
    obtain ⟨a, vs, rfl, r, f⟩ := hh.tup
    exact .inl ⟨a, vs, rfl, .inr (Same.seqT s r), by rw [f.length]; exact q _ H Hf (.z s (.int _))⟩
  · obtain ⟨v, rfl, hh⟩ := h.one
    split at e <;> cases e
    cases hh.str
    exact .inr ⟨_, rfl, by rw [sizeLine_eq]; assumption, q _ H Hf (.z s (.int _))⟩
  · obtain ⟨v, rfl, hh⟩ := h.one
    cases e
    obtain ⟨a, ns, rfl, r, rfl⟩ := hh.scr s
    refine .inl ⟨a, _, rfl, .inl r, ?_⟩
    rw [List.length_map] at q ⊢
    exact q _ H Hf (.z s (.int _))
  · cases e
/-- int(n), int(flag) -/
def dInt : List D → Option Va
  | [.int i] => some (.z, .int i)
  | [.bool b] => some (.z, .int (if b then 1 else 0))
  | _ => none
theorem cs_int : CallS K (fun xs H Q => (∃ i, xs = [.int i] ∧ Q (.int i) H) ∨ ∃ k, xs = [.bl k] ∧ Q (.int (if k then 1 else 0)) H) dInt := fun Hf H xs ds z Q s h e q => by
  unfold dInt at e
  split at e
  · obtain ⟨v, rfl, hh⟩ := h.one
    cases e
    cases hh.int
    exact .inl ⟨_, rfl, q _ H Hf (.z s (.int _))⟩
  · obtain ⟨v, rfl, hh⟩ := h.one
    cases e
    cases hh.bool
    exact .inr ⟨_, rfl, q _ H Hf (.z s (.int _))⟩
  · cases e
/-- list(xs), tuple(xs) -/
def dListOf : List D → Option Va
  | [.list ds] => some (.l .z, .list ds)
  | [.tuple ds] => some (.l .z, .list ds)
  | _ => none
theorem cs_list : CallS K (fun xs H Q => ∃ p ys, xs = [.ref p] ∧ (SqL K H p ys ∨ SqT K H p ys) ∧ ∀ l, H l = none → Q (.ref l) (upd H l (.lst ys))) dListOf := fun Hf H xs ds z Q s h e q => by
  unfold dListOf at e
  split at e
  · obtain ⟨v, rfl, hh⟩ := h.one
    cases e
    obtain ⟨a, vs, rfl, r, f⟩ := hh.list s
    exact ⟨a, vs, rfl, .inl (SqL.of r), fun l n => q _ _ Hf (.lst s n f)⟩
  · obtain ⟨v, rfl, hh⟩ := h.one
    cases e
    obtain ⟨a, vs, rfl, r, f⟩ := hh.tup
    exact ⟨a, vs, rfl, .inr (Same.seqT s r), fun l n => q _ _ Hf (.lst s n f)⟩
  · cases e
def dTupOf : List D → Option Va
  | [.list ds] => some (.z, .tuple ds)
  | [.tuple ds] => some (.z, .tuple ds)
  | _ => none
theorem cs_tuple : CallS K (fun xs H Q => ∃ p ys, xs = [.ref p] ∧ ((SqL K H p ys ∧ ∀ l, H l = none → Q (.ref l) (upd H l (.tup ys))) ∨ (SqT K H p ys ∧ Q (.ref p) H))) dTupOf := fun Hf H xs ds z Q s h e q => by
  unfold dTupOf at e
  split at e
  · obtain ⟨v, rfl, hh⟩ := h.one
    cases e
    obtain ⟨a, vs, rfl, r, f⟩ := hh.list s
    exact ⟨a, vs, rfl, .inl ⟨SqL.of r, fun l n => q _ _ _ (.tup s n f)⟩⟩
  · obtain ⟨v, rfl, hh⟩ := h.one
    cases e
    obtain ⟨a, vs, rfl, r, f⟩ := hh.tupZ
    exact ⟨a, vs, rfl, .inr ⟨Same.seqT s (SqT.of r), q _ H Hf (.z s (.tup r f))⟩⟩
  · cases e
/-- the dInts, the truth values of a list -/
def dInts : List D → Option (List Int)
  | [] => some []
  | .int i :: ds => (dInts ds).map (i :: ·)
  | _ => none
theorem ints_eq : ∀ {ds : List D} {ns : List Int}, dInts ds = some ns → ds = ns.map .int
  | [], ns, h => by cases h; rfl
  | .int i :: ds, ns, h => by
    cases q : dInts ds with
    | none => rw [dInts, q] at h; cases h
    | some ms =>
      rw [dInts, q] at h
      cases h
      rw [ints_eq q]
      rfl
  | .none :: _, _, h => nomatch h
  | .bool _ :: _, _, h => nomatch h
  | .str _ :: _, _, h => nomatch h
  | .list _ :: _, _, h => nomatch h
  | .tuple _ :: _, _, h => nomatch h
  | .dict _ :: _, _, h => nomatch h
theorem ints_map : ∀ (ns : List Int), dInts (ns.map .int) = some ns
  | [] => rfl
  | n :: ns => by rw [List.map_cons, dInts, ints_map ns]; rfl
def dBools : List D → Option (List Bool)
  | [] => some []
  | .bool i :: ds => (dBools ds).map (i :: ·)
  | _ => none
theorem bools_eq : ∀ {ds : List D} {ns : List Bool}, dBools ds = some ns → ds = ns.map .bool
  | [], ns, h => by cases h; rfl
  | .bool i :: ds, ns, h => by
    cases q : dBools ds with
    | none => rw [dBools, q] at h; cases h
    | some ms =>
      rw [dBools, q] at h
      cases h
      rw [bools_eq q]
      rfl
  | .none :: _, _, h => nomatch h
  | .int _ :: _, _, h => nomatch h
  | .str _ :: _, _, h => nomatch h
  | .list _ :: _, _, h => nomatch h
  | .tuple _ :: _, _, h => nomatch h
  | .dict _ :: _, _, h => nomatch h
theorem bools_map : ∀ (ns : List Bool), dBools (ns.map .bool) = some ns
  | [] => rfl
  | n :: ns => by rw [List.map_cons, dBools, bools_map ns]; rfl
def dSum : List D → Option Va
  | [.list ds] => (dInts ds).map fun ns => (.z, .int ns.sum)
  | _ => none
def maxI : Int → List Int → Int
  | m, [] => m
  | m, n :: ns => maxI (if m < n then n else m) ns
def minI : Int → List Int → Int
  | m, [] => m
  | m, n :: ns => minI (if n < m then n else m) ns
def dMax : List D → Option Va
  | [.list ds] => match dInts ds with | some (n :: ns) => some (.z, .int (maxI n ns)) | _ => none
  | [.int i, .int j] => some (.z, .int (if i < j then j else i))
  | _ => none
def dMin : List D → Option Va
  | [.list ds] => match dInts ds with | some (n :: ns) => some (.z, .int (minI n ns)) | _ => none
  | [.int i, .int j] => some (.z, .int (if j < i then j else i))
  | _ => none
def dAll : List D → Option Va
  | [.list ds] => (dBools ds).map fun bs => (.z, .bool (bs.all id))
  | _ => none
def dAny : List D → Option Va
  | [.list ds] => (dBools ds).map fun bs => (.z, .bool (bs.any id))
  | _ => none
def dAbs : List D → Option Va
  | [.int i] => some (.z, .int (if i < 0 then -i else i))
  | _ => none
theorem cs_sum : CallS K (rSum K) dSum := fun Hf H xs ds z Q s h e q => by
  unfold dSum at e
  split at e
  · obtain ⟨v, rfl, hh⟩ := h.one
    cases h2 : dInts ‹List D› with
    | none => rw [h2] at e; cases e
    | some ns =>
      rw [h2] at e
      cases e
      obtain ⟨a, vs, rfl, r, f⟩ := hh.list s
      rw [ints_eq h2] at f
      rw [f.ints] at r
      exact ⟨a, ns, rfl, SqL.of r, q _ H Hf (.z s (.int _))⟩
  · cases e
theorem cs_all : CallS K (rAll K) dAll := fun Hf H xs ds z Q s h e q => by
  unfold dAll at e
  split at e
  · obtain ⟨v, rfl, hh⟩ := h.one
    cases h2 : dBools ‹List D› with
    | none => rw [h2] at e; cases e
    | some ns =>
      rw [h2] at e
      cases e
      obtain ⟨a, vs, rfl, r, f⟩ := hh.list s
      rw [bools_eq h2] at f
      rw [f.bools] at r
      exact ⟨a, ns, rfl, SqL.of r, q _ H Hf (.z s (.bl _))⟩
  · cases e
theorem cs_any : CallS K (rAny K) dAny := fun Hf H xs ds z Q s h e q => by
  unfold dAny at e
  split at e
  · obtain ⟨v, rfl, hh⟩ := h.one
    cases h2 : dBools ‹List D› with
    | none => rw [h2] at e; cases e
    | some ns =>
      rw [h2] at e
      cases e
      obtain ⟨a, vs, rfl, r, f⟩ := hh.list s
      rw [bools_eq h2] at f
      rw [f.bools] at r
      exact ⟨a, ns, rfl, SqL.of r, q _ H Hf (.z s (.bl _))⟩
  · cases e
theorem maxI_spec : ∀ (ns : List Int) (m : Int), (maxI m ns = m ∨ maxI m ns ∈ ns) ∧ m ≤ maxI m ns ∧ ∀ y ∈ ns, y ≤ maxI m ns
  | [], m => ⟨.inl rfl, Int.le_refl _, fun _ h => nomatch h⟩
  | n :: ns, m => by
    unfold maxI
    obtain ⟨h1, h2, h3⟩ := maxI_spec ns (if m < n then n else m)
    by_cases c : m < n
    · rw [if_pos c] at h1 h2 h3 ⊢
      refine ⟨.inr ?_, by omega, fun y hy => ?_⟩
      · rcases h1 with h1 | h1
        · rw [h1]; exact List.mem_cons_self
        · exact List.mem_cons_of_mem _ h1
      · rcases List.mem_cons.mp hy with rfl | hy
        · exact h2
        · exact h3 y hy
    · rw [if_neg c] at h1 h2 h3 ⊢
      refine ⟨?_, by omega, fun y hy => ?_⟩
      · rcases h1 with h1 | h1
        · exact .inl h1
        · exact .inr (List.mem_cons_of_mem _ h1)
      · rcases List.mem_cons.mp hy with rfl | hy
        · omega
        · exact h3 y hy
theorem minI_spec : ∀ (ns : List Int) (m : Int), (minI m ns = m ∨ minI m ns ∈ ns) ∧ minI m ns ≤ m ∧ ∀ y ∈ ns, minI m ns ≤ y
  | [], m => ⟨.inl rfl, Int.le_refl _, fun _ h => nomatch h⟩
  | n :: ns, m => by
    unfold minI
    obtain ⟨h1, h2, h3⟩ := minI_spec ns (if n < m then n else m)
    by_cases c : n < m
    · rw [if_pos c] at h1 h2 h3 ⊢
      refine ⟨.inr ?_, by omega, fun y hy => ?_⟩
      · rcases h1 with h1 | h1
        · rw [h1]; exact List.mem_cons_self
        · exact List.mem_cons_of_mem _ h1
      · rcases List.mem_cons.mp hy with rfl | hy
        · exact h2
        · exact h3 y hy
    · rw [if_neg c] at h1 h2 h3 ⊢
      refine ⟨?_, by omega, fun y hy => ?_⟩
      · rcases h1 with h1 | h1
        · exact .inl h1
        · exact .inr (List.mem_cons_of_mem _ h1)
      · rcases List.mem_cons.mp hy with rfl | hy
        · omega
        · exact h3 y hy
theorem min_anti {a b c : Int} (h1 : a ≤ b) (h2 : b ≤ a) : a = b := by omega
def rMaxV (K : PySem.W.Frag) : List V → Hp → VK → Prop := fun xs H Q => rMax K xs H Q ∨ ∃ i j, xs = [.int i, .int j] ∧ Q (.int (if i < j then j else i)) H
def rMinV (K : PySem.W.Frag) : List V → Hp → VK → Prop := fun xs H Q => rMin K xs H Q ∨ ∃ i j, xs = [.int i, .int j] ∧ Q (.int (if j < i then j else i)) H
theorem cs_max : CallS K (rMaxV K) dMax := fun Hf H xs ds z Q s h e q => by
  unfold dMax at e
  split at e
  · obtain ⟨v, rfl, hh⟩ := h.one
    split at e
    · rename_i n ns h2
      cases e
      obtain ⟨a, vs, rfl, r, f⟩ := hh.list s
      rw [ints_eq h2] at f
      rw [f.ints] at r
      refine .inl ⟨a, n :: ns, rfl, SqL.of r, Nat.succ_pos _, fun m hm hy => ?_⟩
      obtain ⟨h1, h2, h3⟩ := maxI_spec ns n
      have e1 : m ≤ maxI n ns := by
        rcases List.mem_cons.mp hm with rfl | hm
        · exact h2
        · exact h3 m hm
      have e2 : maxI n ns ≤ m := by
        rcases h1 with h1 | h1
        · rw [h1]; exact hy n List.mem_cons_self
        · exact hy _ (List.mem_cons_of_mem _ h1)
      rw [min_anti (c := 0) e1 e2]
      exact q _ H Hf (.z s (.int _))
    · cases e
  · obtain ⟨v, w, rfl, h1, h2⟩ := h.two
    cases e
    cases h1.int
    cases h2.int
    exact .inr ⟨_, _, rfl, q _ H Hf (.z s (.int _))⟩
  · cases e
theorem cs_min : CallS K (rMinV K) dMin := fun Hf H xs ds z Q s h e q => by
  unfold dMin at e
  split at e
  · obtain ⟨v, rfl, hh⟩ := h.one
    split at e
    · rename_i n ns h2
      cases e
      obtain ⟨a, vs, rfl, r, f⟩ := hh.list s
      rw [ints_eq h2] at f
      rw [f.ints] at r
      refine .inl ⟨a, n :: ns, rfl, SqL.of r, Nat.succ_pos _, fun m hm hy => ?_⟩
      obtain ⟨h1, h2, h3⟩ := minI_spec ns n
      have e1 : minI n ns ≤ m := by
        rcases List.mem_cons.mp hm with rfl | hm
        · exact h2
        · exact h3 m hm
      have e2 : m ≤ minI n ns := by
        rcases h1 with h1 | h1
        · rw [h1]; exact hy n List.mem_cons_self
        · exact hy _ (List.mem_cons_of_mem _ h1)
      rw [min_anti (c := 0) e2 e1]
      exact q _ H Hf (.z s (.int _))
    · cases e
  · obtain ⟨v, w, rfl, h1, h2⟩ := h.two
    cases e
    cases h1.int
    cases h2.int
    exact .inr ⟨_, _, rfl, q _ H Hf (.z s (.int _))⟩
  · cases e
end
end PV
namespace PV
open PySem PySem.Spec PyProof.Rows L2

/-! ### a call of a def of one's own -/
def RPost (g : GW) (Hf H : Hp) (Q : VK) (E : XK) : Res → Prop
  | .ok x => ∀ v H' Hf', NewV g.h.K Hf H H' Hf' v x → Q v H'
  | .ex e => ∀ cls dx H' Hf', Same H H' → Same Hf Hf' → Same Hf' H' → (∀ a, Hf' a ≠ none → Hf a ≠ none ∨ H a = none) → ExOk g Hf' e cls dx → E cls dx H'
  | .st => False
/-- the promise of a def that computes F -/
def spV (K : PySem.W.Frag) (mg : Str → Option Value) (n : Nat) (F : List D → Res) : Sp := fun vs H Q E => ∃ Hf ds, ds.length = n ∧ Same Hf H ∧ FzAll K Hf vs ds ∧ RPost ⟨⟨K, Hf, H⟩, mg, fun _ _ _ _ => False⟩ Hf H Q E (F ds)
def fCall (n : Nat) (F : List D → Res) (fs : Ev → Out (List D)) : Ev → Out Va := fun Γ => (fs Γ).bind fun ds Γ1 => if ds.length = n then (match F ds with | .ok x => .ok x Γ1 | .ex e => .ex e Γ1 | .st => .st) else .st
section
variable {X : Cx} {W : WX} {e : Expr} {es : List Expr} {x : Str} {p pos : Pos}
theorem pv_call {f : Addr} {fd : FuncData} {ps : List Str} {k n : Nat} {F : List D → Res} {fs : Ev → Out (List D)} (hF : FnOk X.prog X.w X.K X.mg X.base (L2.CX X.prog X.w) k f fd ps (spV X.K X.mg n F)) (hr : Room k X.A) (hg : Gl X x) (hm : X.mg x = some (.ref f))
    (hk : PySem.W.keepIn X.K (.ref f) = true) (hb : Binds X.K fd ps []) (tk : Takes X W) (ha : PFs X W (e :: es) fs) (hdb : (x == ("__debug__" : Str)) = false := by decide) (he : starEach (e :: es) X.env = (false, eval e X.env) :: starEach es X.env := by rfl)
    (hpl : (backTo pos (starEach es X.env)).any (·.1) = false := by rfl) : PV X W (.Call (.Name x p) (e :: es) [] pos) (fCall n F fs) :=
  ⟨fun f0 h0 => (pe_callS (E := WE W) hF hr hg hm hk hb (fun σ => passAt tk σ) (ha.run f0 h0) hdb he hpl).imp fun σ H Q ⟨Hf, Γ, fr, st, p⟩ => ⟨Hf, Γ, fr, st, Post.bind p fun ds Γ1 _ vs H1 Hf1 s1 ⟨st1, l1⟩ q => by
    refine ⟨Hf1, ds, ?_, st1.sub, l1, ?_⟩
    · by_cases c : ds.length = n
      · exact c
      · rw [if_neg c] at q; exact q.elim
    · split at q
      · cases h : F ds with
        | ok x =>
          rw [h] at q
          exact fun v H' Hf' nv => q v H' Hf' nv.f1 (st1.pushN nv)
        | ex ee =>
          rw [h] at q
          exact fun cls dx H' Hf' a1 a2 a3 a4 a5 => q cls dx H' Hf' a2 a5 (st1.freeze a1 a2 a3 a4)
        | st =>
          rw [h] at q
          exact q
      · exact q.elim⟩⟩
end

/-! ### tests -/
def dTru : D → Option Bool
  | .none => some false
  | .bool b => some b
  | .int i => some (i != 0)
  | .str z => if z.length ≤ 16777216 then some ((z.length : Int) != 0) else none
  | .list ds => some (!ds.isEmpty)
  | .tuple ds => some (!ds.isEmpty)
  | _ => none
def bO (o : Opn) : Ev → Out Bool := fun Γ => (o.f Γ).bind fun d Γ1 => .of ((o.l Γ1 d).bind dTru) Γ1
def bNot (c : Ev → Out Bool) : Ev → Out Bool := fun Γ => (c Γ).bind fun b Γ1 => .ok (!b) Γ1
def bAnd (a b : Ev → Out Bool) : Ev → Out Bool := fun Γ => (a Γ).bind fun c Γ1 => if c = true then b Γ1 else .ok false Γ1
def bOr (a b : Ev → Out Bool) : Ev → Out Bool := fun Γ => (a Γ).bind fun c Γ1 => if c = true then .ok true Γ1 else b Γ1
def vIf (c : Ev → Out Bool) (a b : Ev → Out Va) : Ev → Out Va := fun Γ => (c Γ).bind fun k Γ1 => if k = true then a Γ1 else b Γ1
/-- .. as values -/
def dB : D → Option Bool
  | .bool b => some b
  | _ => none
def vAnd (a : Ev → Out D) (b : Ev → Out Va) : Ev → Out Va := fun Γ => (a Γ).bind fun d Γ1 => match d with | .bool true => b Γ1 | .bool false => .ok (.z, .bool false) Γ1 | _ => .st
def vOr (a : Ev → Out D) (b : Ev → Out Va) : Ev → Out Va := fun Γ => (a Γ).bind fun d Γ1 => match d with | .bool true => .ok (.z, .bool true) Γ1 | .bool false => b Γ1 | _ => .st
def fNot (a : Ev → Out D) : Ev → Out D := fun Γ => (a Γ).bind fun d Γ1 => match d with | .bool b => .ok (.bool !b) Γ1 | _ => .st
theorem isEmpty_len {α β : Type} {xs : List α} {ys : List β} (h : xs.length = ys.length) : xs.isEmpty = ys.isEmpty := by
  cases xs <;> cases ys <;> simp at h ⊢
section
variable {X : Cx} {W : WX} {a b : Expr} {rest : List Expr} {pos : Pos}
theorem pb_o {o : Opn} (h : PZ X W a o) (he : ∀ whole, isTrue a X.env whole = (do let v ← whole; standAt a.pos; holding [v] (truthy v)) := by intro _; rfl) : PB X W a (bO o) :=
  ⟨fun f0 h0 => (pt_truth (h.run f0 h0) he).imp fun σ H Q ⟨Hf, Γ, fr, st, p⟩ => ⟨Hf, Γ, fr, st, Post.bind p fun d Γ1 _ v H1 Hf1 s1 ⟨st1, l1⟩ q => by
    obtain ⟨c, e, q⟩ := Post.of q
    cases h : o.l Γ1 d with
    | none => rw [h] at e; cases e
    | some d' =>
      rw [h] at e
      have z := l1 Γ1 Hf1 H1 fr (Same.refl _) st1 d' h
      have fin := q c H1 Hf1 (Same.refl _) ⟨st1, rfl⟩
      cases d' with
      | none => cases e; cases z.none; exact ⟨_, rfl, fin⟩
      | bool _ => cases e; cases z.bool; exact ⟨_, rfl, fin⟩
      | int _ => cases e; cases z.int; exact ⟨_, rfl, fin⟩
      | str x =>
        change (if x.length ≤ 16777216 then _ else _) = _ at e
        split at e <;> cases e
        cases z.str
        exact ⟨_, ⟨by rw [sizeLine_eq]; assumption, rfl⟩, fin⟩
      | list ds =>
        cases e
        obtain ⟨a, vs, rfl, r, f⟩ := z.list st1.sub
        exact ⟨_, .inl ⟨vs, SqL.of r, by rw [isEmpty_len f.length]⟩, fin⟩
      | tuple ds =>
        cases e
        obtain ⟨a, vs, rfl, r, f⟩ := z.tup
        exact ⟨_, .inr (.inl ⟨vs, Same.seqT st1.sub r, by rw [isEmpty_len f.length]⟩), fin⟩
      | dict _ => cases e⟩⟩
theorem pb_not {c : Ev → Out Bool} (h : PB X W a c) : PB X W (.UnaryOp .Not a pos) (bNot c) :=
  ⟨fun f0 h0 => (pt_not (h.run f0 h0)).imp fun σ H Q ⟨Hf, Γ, fr, st, p⟩ => ⟨Hf, Γ, fr, st, Post.bind p fun d Γ1 _ v H1 Hf1 s1 ⟨st1, e⟩ q => q (!v) H1 Hf1 (Same.refl _) ⟨st1, by rw [e]⟩⟩⟩
theorem pb_w {c : Ev → Out Bool} (h : PBw X W a c) : PB X W a c := ⟨fun f0 h0 => (h.run f0 h0).pt⟩
theorem pw_a1 {c : Ev → Out Bool} (h : PB X W a c) : PBw X W (.BoolOp .And [a] pos) c := ⟨fun f0 h0 => pw_and1 (h.run f0 h0)⟩
theorem pw_o1 {c : Ev → Out Bool} (h : PB X W a c) : PBw X W (.BoolOp .Or [a] pos) c := ⟨fun f0 h0 => pw_or1 (h.run f0 h0)⟩
theorem pw_a {c d : Ev → Out Bool} (h : PB X W a c) (k : PBw X W (.BoolOp .And (b :: rest) pos) d) : PBw X W (.BoolOp .And (a :: b :: rest) pos) (bAnd c d) :=
  ⟨fun f0 h0 => (pw_and (h.run f0 h0) (k.run f0 h0)).imp fun σ H Q ⟨Hf, Γ, fr, st, p⟩ => ⟨Hf, Γ, fr, st, Post.bind p fun c Γ1 _ v H1 Hf1 s1 ⟨st1, e⟩ q => by
    subst e
    cases v with
    | true => exact ⟨Hf1, Γ1, fr, st1, q⟩
    | false => exact q false H1 Hf1 (Same.refl _) ⟨st1, rfl⟩⟩⟩
theorem pw_o {c d : Ev → Out Bool} (h : PB X W a c) (k : PBw X W (.BoolOp .Or (b :: rest) pos) d) : PBw X W (.BoolOp .Or (a :: b :: rest) pos) (bOr c d) :=
  ⟨fun f0 h0 => (pw_or (h.run f0 h0) (k.run f0 h0)).imp fun σ H Q ⟨Hf, Γ, fr, st, p⟩ => ⟨Hf, Γ, fr, st, Post.bind p fun c Γ1 _ v H1 Hf1 s1 ⟨st1, e⟩ q => by
    subst e
    cases v with
    | true => exact q true H1 Hf1 (Same.refl _) ⟨st1, rfl⟩
    | false => exact ⟨Hf1, Γ1, fr, st1, q⟩⟩⟩
theorem pv_if {c : Expr} {t : Ev → Out Bool} {f f' : Ev → Out Va} (h : PB X W c t) (h1 : PV X W a f) (h2 : PV X W b f') : PV X W (.IfExp c a b pos) (vIf t f f') :=
  ⟨fun f0 h0 => (pe_ifExp (h.run f0 h0) (h1.run f0 h0) (h2.run f0 h0)).imp fun σ H Q ⟨Hf, Γ, fr, st, p⟩ => ⟨Hf, Γ, fr, st, Post.bind p fun c Γ1 _ v H1 Hf1 s1 ⟨st1, e⟩ q => by
    subst e
    cases v with
    | true => exact ⟨Hf1, Γ1, fr, st1, q⟩
    | false => exact ⟨Hf1, Γ1, fr, st1, q⟩⟩⟩
theorem pv_one {op} {f : Ev → Out Va} (h : PV X W a f) : PV X W (.BoolOp op [a] pos) f := ⟨fun f0 h0 => pe_one (h.run f0 h0)⟩
theorem pv_and {f : Ev → Out D} {f' : Ev → Out Va} (h : PF X W a f) (h2 : PV X W (.BoolOp .And (b :: rest) pos) f') : PV X W (.BoolOp .And (a :: b :: rest) pos) (vAnd f f') :=
  ⟨fun f0 h0 => (pe_and (h.run f0 h0) (h2.run f0 h0)).imp fun σ H Q ⟨Hf, Γ, fr, st, p⟩ => ⟨Hf, Γ, fr, st, Post.bind p fun d Γ1 _ v H1 Hf1 s1 ⟨st1, z⟩ q => by
    cases d with
    | bool c =>
      cases z
      cases c with
      | true => exact ⟨true, rfl, Hf1, Γ1, fr, st1, q⟩
      | false => exact ⟨false, rfl, q _ H1 Hf1 (Same.refl _) (st1.push (.bl false))⟩
    | _ => exact q.elim⟩⟩
theorem pv_or {f : Ev → Out D} {f' : Ev → Out Va} (h : PF X W a f) (h2 : PV X W (.BoolOp .Or (b :: rest) pos) f') : PV X W (.BoolOp .Or (a :: b :: rest) pos) (vOr f f') :=
  ⟨fun f0 h0 => (pe_or (h.run f0 h0) (h2.run f0 h0)).imp fun σ H Q ⟨Hf, Γ, fr, st, p⟩ => ⟨Hf, Γ, fr, st, Post.bind p fun d Γ1 _ v H1 Hf1 s1 ⟨st1, z⟩ q => by
    cases d with
    | bool c =>
      cases z
      cases c with
      | false => exact ⟨false, rfl, Hf1, Γ1, fr, st1, q⟩
      | true => exact ⟨true, rfl, q _ H1 Hf1 (Same.refl _) (st1.push (.bl true))⟩
    | _ => exact q.elim⟩⟩
theorem pf_not {f : Ev → Out D} (h : PF X W a f) : PF X W (.UnaryOp .Not a pos) (fNot f) :=
  ⟨fun f0 h0 => (pe_not (h.run f0 h0)).imp fun σ H Q ⟨Hf, Γ, fr, st, p⟩ => ⟨Hf, Γ, fr, st, Post.bind p fun d Γ1 _ v H1 Hf1 s1 ⟨st1, z⟩ q => by
    cases d with
    | bool c =>
      cases z
      exact ⟨c, rfl, q _ H1 Hf1 (Same.refl _) ⟨st1, .bl _⟩⟩
    | _ => exact q.elim⟩⟩
def fNeg (a : Ev → Out D) : Ev → Out D := fun Γ => (a Γ).bind fun d Γ1 => match d with | .int i => .ok (.int (-i)) Γ1 | _ => .st
theorem pf_neg {f : Ev → Out D} (h : PF X W a f) : PF X W (.UnaryOp .USub a pos) (fNeg f) :=
  ⟨fun f0 h0 => (pe_un un_neg (h.run f0 h0)).imp fun σ H Q ⟨Hf, Γ, fr, st, p⟩ => ⟨Hf, Γ, fr, st, Post.bind p fun d Γ1 _ v H1 Hf1 s1 ⟨st1, z⟩ q => by
    cases d with
    | int c =>
      cases z
      exact ⟨c, rfl, q _ H1 Hf1 (Same.refl _) ⟨st1, .int _⟩⟩
    | _ => exact q.elim⟩⟩
end

/-! ### slices -/
def cut {α : Type} (xs : List α) (lo hi : Option Int) : List α := (xs.drop (HT.sIx xs.length 0 lo)).take (HT.sIx xs.length xs.length hi - HT.sIx xs.length 0 lo)
theorem FzAll.cut {K : PySem.W.Frag} {H : Hp} {vs : List V} {ds : List D} (h : FzAll K H vs ds) (lo hi : Option Int) : FzAll K H (cutV vs lo hi) (cut ds lo hi) := by
  unfold cutV PV.cut
  rw [h.length]
  exact (h.drop _).take _
def dCut : D → Option Int → Option Int → Option Va
  | .list ds, lo, hi => some (.l .z, .list (cut ds lo hi))
  | .tuple ds, lo, hi => some (.z, .tuple (cut ds lo hi))
  | .str z, lo, hi => if z.length ≤ 16777216 then some (.z, .str (cutS z lo hi)) else none
  | _, _, _ => none
def fPN : Ev → Out (Option Int) := fun Γ => .ok none Γ
def fPS (f : Ev → Out D) : Ev → Out (Option Int) := fun Γ => (f Γ).bind fun d Γ1 => match d with | .int i => .ok (some i) Γ1 | _ => .st
def vCut (o : Opn) (a b : Ev → Out (Option Int)) : Ev → Out Va := fun Γ => (o.f Γ).bind fun d Γ1 => (a Γ1).bind fun lo Γ2 => (b Γ2).bind fun hi Γ3 => .of ((o.l Γ3 d).bind fun d => dCut d lo hi) Γ3
def RP (g : GW) (σ : St) (fr : List (V × Va)) : Hp → Hp → Option Int → Ev → Option Int → Prop := fun Hf H b Γ c => StOk g.h Hf H σ Γ fr ∧ c = b
structure PPo (X : Cx) (W : WX) (e : Option Expr) (f : Ev → Out (Option Int)) : Prop where
  run : ∀ f0 h0, PO X e fun σ H Q => ∃ Hf Γ fr, StOk (gh X W f0 h0).h Hf H σ Γ fr ∧ Post (gh X W f0 h0) σ fr (RP (gh X W f0 h0) σ fr) Hf Q (f Γ)
theorem _root_.L2.PO.imp {X : Cx} {e : Option Expr} {t t' : St → Hp → (Option Int → Hp → Prop) → Prop} (h : PO X e t) (k : ∀ σ H Q, t' σ H Q → t σ H Q) : PO X e t' := ⟨fun pins s σ H Q I q => h.run pins s σ H Q I (k σ H Q q)⟩
section
variable {X : Cx} {W : WX} {e : Expr} {lo hi : Option Expr} {pos p2 : Pos}
theorem pp_n : PPo X W none fPN := ⟨fun f0 h0 => po_none.imp fun σ H Q ⟨Hf, Γ, fr, st, p⟩ => p none H Hf (Same.refl _) ⟨st, rfl⟩⟩
theorem pp_s {f : Ev → Out D} (h : PF X W e f) : PPo X W (some e) (fPS f) := ⟨fun f0 h0 => (po_some (h.run f0 h0)).imp fun σ H Q ⟨Hf, Γ, fr, st, p⟩ => ⟨Hf, Γ, fr, st, Post.bind p fun d Γ1 _ v H1 Hf1 s1 ⟨st1, z⟩ q => by
    cases d with
    | int c =>
      cases z
      exact ⟨c, rfl, q _ H1 Hf1 (Same.refl _) ⟨st1, rfl⟩⟩
    | _ => exact q.elim⟩⟩
theorem pv_cut {o : Opn} {a b : Ev → Out (Option Int)} (h : PZ X W e o) (hl : PPo X W lo a) (hu : PPo X W hi b) : PV X W (.Subscript e (.Slice lo hi none p2) pos) (vCut o a b) :=
  ⟨fun f0 h0 => (pe_slice (sl_list.or (sl_tupA.or sl_str)) (h.run f0 h0) (hl.run f0 h0) (hu.run f0 h0)).imp fun σ H Q ⟨Hf, Γ, fr, st, p⟩ => ⟨Hf, Γ, fr, st, Post.bind p fun d Γ1 _ v H1 Hf1 s1 ⟨st1, l1⟩ q =>
    ⟨Hf1, Γ1, fr, st1, Post.bind q fun lo Γ2 _ lo' H2 Hf2 s2 ⟨st2, e2⟩ q => ⟨Hf2, Γ2, fr, st2, Post.bind q fun hi Γ3 _ hi' H3 Hf3 s3 ⟨st3, e3⟩ q => by
      subst e2 e3
      obtain ⟨z, e, q⟩ := Post.of q
      cases h : o.l Γ3 d with
      | none => rw [h] at e; cases e
      | some d' =>
        rw [h] at e
        have z1 := l1 Γ3 Hf3 H3 fr (s2.trans s3) st3 d' h
        have sb := st3.sub
        cases d' with
        | list ds =>
          cases e
          obtain ⟨a, vs, rfl, r, f⟩ := z1.list sb
          exact .inl ⟨a, vs, rfl, SqL.of r, fun p n => q _ _ Hf3 (Same.refl _) (st3.pushN (.lst sb n (f.cut _ _)))⟩
        | tuple ds =>
          cases e
          obtain ⟨a, vs, rfl, r, f⟩ := z1.tupZ
          refine .inr (.inl ⟨a, vs, rfl, Same.seqT sb (SqT.of r), fun w => ?_, fun w p n => ?_⟩)
          · have e : cut ds lo' hi' = ds := by
              unfold cut
              rw [← f.length, w.1, w.2]
              rw [List.drop_zero, Nat.sub_zero, f.length, List.take_length]
            rw [e] at q
            exact q _ H3 Hf3 (Same.refl _) (st3.push (.tup r f))
          · have nv := NewV.tup (K := X.K) sb n (f.cut lo' hi')
            exact q _ _ _ nv.f1 (st3.pushN nv)
        | str x =>
          change (if x.length ≤ 16777216 then _ else _) = _ at e
          split at e <;> cases e
          cases z1.str
          exact .inr (.inr ⟨x, rfl, by rw [sizeLine_eq]; assumption, q _ H3 Hf3 (Same.refl _) (st3.push (.str _))⟩)
        | _ => cases e⟩⟩⟩⟩
end

/-! ### isinstance -/
def tyD : D → String
  | .none => "NoneType"
  | .bool _ => "bool"
  | .int _ => "int"
  | .str _ => "str"
  | .list _ => "list"
  | .tuple _ => "tuple"
  | .dict _ => "dict"
def isB (t T : String) : Bool := t == T || (t == "bool" && T == "int")
def dIsi (T : String) (d : D) : Option D := match d with
  | .dict [(.none, _)] => none
  | .dict ((.bool true, .none) :: _) => none
  | .dict ((.bool false, .none) :: _) => none
  | d => some (.bool (isB (tyD d) T))
def fIsi (T : String) (o : Opn) : Ev → Out D := fun Γ => (o.f Γ).bind fun d Γ1 => .of ((o.l Γ1 d).bind (dIsi T)) Γ1
theorem Fz1.ty {K : PySem.W.Frag} {Hf H : Hp} {v : V} {d : D} (s : Same Hf H) (h : Fz1 K Hf H v d) (hd : ∀ x, d ≠ .dict [(.none, x)]) (hd2 : ∀ x, d ≠ .dict ((.bool true, .none) :: x)) (hd3 : ∀ x, d ≠ .dict ((.bool false, .none) :: x)) : TyX K H v (.type (tyD d)) := by
  rcases h with h | ⟨a, vs, ds, rfl, rfl, h, r⟩
  · cases h with
    | non => exact .base .non
    | bl b => exact .base (.bl b)
    | int i => exact .base (.int i)
    | str x => exact .base (.str x)
    | lst h r => exact .base (.lst (s _ _ h))
    | scr ns h => exact absurd rfl (hd _)
    | raw _ => exact absurd rfl (hd _)
    | tup h r => exact .base (.tup (s _ _ h))
    | kt _ _ => exact absurd rfl (hd _)
    | dK h r => rcases Same.rd s h with h | ⟨o, h⟩
                · exact .base (.dK h)
                · exact .fDict h
    | dT h r => exact absurd rfl (hd2 _)
    | dN _ _ _ _ => exact absurd rfl (hd3 _)
    | rng _ _ _ => exact absurd rfl (hd _)
    | ob _ _ => exact absurd rfl (hd _)
  · exact .base (.lst h)
section
variable {X : Cx} {W : WX} {a : Expr} {x T : Str} {p p2 pos : Pos}
theorem pf_isi {T : String} {o : Opn} {y : Str} (hg : Gl X x) (hm : X.mg x = none) (hv : bootBuiltins x = some (.builtin "isinstance")) (h : PZ X W a o) (hg2 : Gl X y) (hm2 : X.mg y = none) (hv2 : bootBuiltins y = some (.type T))
    (hk : ∀ t ∈ ["NoneType", "bool", "int", "str", "list", "tuple", "dict"], PySem.W.kitOne X.K (.type t) (.type T) = some (isB t T))
    (hn : x ≠ "__name__" := by decide) (hdb : (x == ("__debug__" : Str)) = false := by decide) (hn2 : y ≠ "__name__" := by decide) (hdb2 : (y == ("__debug__" : Str)) = false := by decide)
    (he : starEach [a, .Name y p2] X.env = (false, eval a X.env) :: starEach [.Name y p2] X.env := by rfl) (hpl : (backTo pos (starEach [.Name y p2] X.env)).any (·.1) = false := by rfl)
    (he2 : starEach [.Name y p2] X.env = (false, eval (.Name y p2) X.env) :: starEach [] X.env := by rfl) : PF X W (.Call (.Name x p) [a, .Name y p2] [] pos) (fIsi T o) :=
  ⟨fun f0 h0 => (pe_callB call_isi hg hm hv (pa_cons (h.run f0 h0) (pa_cons (pe_bltn hg2 hm2 hv2 (v := .ty T) rfl hn2 hdb2) pa_nil he2) he) hn hdb he hpl).imp fun σ H Q ⟨Hf, Γ, fr, st, p⟩ => ⟨Hf, Γ, fr, st, Post.bind p fun d Γ1 _ v H1 Hf1 s1 ⟨st1, l1⟩ q => by
    obtain ⟨c, e, q⟩ := Post.of q
    cases h : o.l Γ1 d with
    | none => rw [h] at e; cases e
    | some d' =>
      rw [h] at e
      have z := l1 Γ1 Hf1 H1 fr (Same.refl _) st1 d' h
      have e1 : (∀ x, d' ≠ .dict [(.none, x)]) ∧ (∀ x, d' ≠ .dict ((.bool true, .none) :: x)) ∧ (∀ x, d' ≠ .dict ((.bool false, .none) :: x)) ∧ c = .bool (isB (tyD d') T) := by
        change dIsi T d' = some c at e
        unfold dIsi at e
        split at e
        · cases e
        · cases e
        · cases e
        · rename_i hx hy hz
          cases e
          exact ⟨fun x z => hx x z, fun x z => hy x z, fun x z => hz x z, rfl⟩
      obtain ⟨e1, e1b, e1c, rfl⟩ := e1
      refine ⟨v, .ty T, .type (tyD d'), .type T, isB (tyD d') T, rfl, .ty T, z.ty st1.sub e1 e1b e1c, hk _ ?_, q _ H1 Hf1 (Same.refl _) ⟨st1, .bl _⟩⟩
      cases d' <;> simp [tyD]⟩⟩
end

/-! ### methods of a list that stands at a slot -/
def MtS (K : PySem.W.Frag) (r : V → List V → Hp → VK → Prop) (op : List D → List D → Option (D × List D)) : Prop := ∀ (Hf H : Hp) (l : Addr) (vs : List V) (ds : List D) (xs : List V) (args : List D) (d : D) (ds' : List D) (Q : VK), H l = some (.lst vs) → FzAll K Hf vs ds → FzAll K Hf xs args →
  op ds args = some (d, ds') → (∀ v vs', FzAll K Hf vs' ds' → Fz K Hf v d → Q v (upd H l (.lst vs'))) → r (.ref l) xs H Q
def fMt (i : Nat) (op : List D → List D → Option (D × List D)) (fs : Ev → Out (List D)) : Ev → Out D := fun Γ => match Γ[i]? with
  | some (some (.l .z, .list _)) => (fs Γ).bind fun args Γ1 => (match Γ1[i]? with
    | some (some (.l .z, .list ds)) => (match op ds args with | some (d, ds') => .ok d (Γ1.set i (some (.l .z, .list ds'))) | none => .st)
    | _ => .st)
  | _ => .st
/-- the owned list of frozen items at a slot -/
theorem StOk.getLz {g : Gh} {Hf H : Hp} {σ : St} {Γ : Ev} {fr : List (V × Va)} {i : Nat} {ds : List D} (h : StOk g Hf H σ Γ fr) (hi : Γ[i]? = some (some (.l .z, .list ds))) : ∃ a vs, σ[i]? = some (some (.ref a)) ∧ H a = some (.lst vs) ∧ FzAll g.K Hf vs ds := by
  obtain ⟨ω, h⟩ := h
  obtain ⟨v, e, A, o, _⟩ := h.slots i _ hi
  obtain ⟨a, vs, ds', B, e1, e2, e3, r, e4⟩ := o
  cases e2
  subst e1
  exact ⟨a, vs, e, e3, r.zs.2⟩
section
variable {X : Cx} {W : WX} {e : Expr} {es : List Expr} {x name : Str} {p apos cpos : Pos} {id : String} {r : V → List V → Hp → VK → Prop} {op : List D → List D → Option (D × List D)} {fs : Ev → Out (List D)}
theorem mt_core {g : GW} (hs : MtS g.h.K r op) {i : Nat} {σ : St} {H : Hp} {Q : VK} (h : tF g (fMt i op fs) σ H Q) : tVar i σ H fun x H1 => tyV g.h.K "list" x H1 ∧ tFs g fs σ H1 fun xs H2 => r x xs H2 Q := by
  obtain ⟨Hf, Γ, fr, st, p⟩ := h
  unfold fMt at p
  split at p
  · rename_i ds0 hΓ
    obtain ⟨a, vs, e1, e2, _⟩ := st.getLz hΓ
    refine ⟨.ref a, e1, .inl ⟨rfl, vs, SqL.of e2⟩, Hf, Γ, fr, st, Post.bind p fun args Γ1 _ xs H1 Hf1 s1 ⟨st1, l1⟩ q => ?_⟩
    split at q
    · rename_i ds hΓ1
      obtain ⟨a', vs1, e3, e4, f4⟩ := st1.getLz hΓ1
      rw [e1] at e3
      cases e3
      split at q
      · rename_i d ds' ho
        exact hs Hf1 H1 a vs1 ds xs args d ds' Q e4 f4 l1 ho fun v vs' z1 z2 => q v _ Hf1 (Same.refl _) ⟨st1.mut hΓ1 e1 z1, z2⟩
      · exact q.elim
    · exact q.elim
  · exact p.elim
theorem pf_mt (i : Nat) (pa : PlainAttrs "list") (slot : Slot "list" name id) (hty : typeOf (.builtin id) = pure (.type "method_descriptor")) (hm : MtR X id r) (hs : MtS X.K r op) (ha : PFs X W (e :: es) fs)
    (hN : X.N[i]? = some x := by rfl) (hv : Vis X.env.scope x := by first | exact Or.inl rfl | exact Or.inr (Or.inl rfl) | exact Or.inr (Or.inr rfl)) (hd : (x == ("__debug__" : Str)) = false := by decide)
    (hcd : (x == ("__classdict__" : Str)) = false := by decide) (hbase : attributeBase (.Name x p) name X.env (eval (.Name x p) X.env) = eval (.Name x p) X.env := by rfl)
    (hfew : ((backTo cpos (starEach (e :: es) X.env)).all (fun x => !x.1) && (backToKw cpos (keywordEach [] X.env)).all (fun x => x.1.isSome) && decide ((e :: es).length + ([] : List Keyword).length + (if ([] : List Keyword).isEmpty then 0 else 1) < 30)) = true := by rfl)
    (hline : (apos.endLine == cpos.line) = true := by rfl) (hst : starEach (e :: es) X.env = (false, eval e X.env) :: starEach es X.env := by rfl) (hplain : (backTo cpos (starEach es X.env)).any (·.1) = false := by rfl) :
    PF X W (.Call (.Attribute (.Name x p) name apos) (e :: es) [] cpos) (fMt i op fs) :=
  ⟨fun f0 h0 => (pe_bm pa slot hty hm (pe_var hN hv hd hcd) (ha.run f0 h0) hbase hfew hline hst hplain).imp fun σ H Q h => mt_core (g := gh X W f0 h0) hs h⟩
theorem pf_mt0 (i : Nat) (pa : PlainAttrs "list") (slot : Slot "list" name id) (hty : typeOf (.builtin id) = pure (.type "method_descriptor")) (hm : MtR X id r) (hs : MtS X.K r op)
    (hN : X.N[i]? = some x := by rfl) (hv : Vis X.env.scope x := by first | exact Or.inl rfl | exact Or.inr (Or.inl rfl) | exact Or.inr (Or.inr rfl)) (hd : (x == ("__debug__" : Str)) = false := by decide)
    (hcd : (x == ("__classdict__" : Str)) = false := by decide) (hbase : attributeBase (.Name x p) name X.env (eval (.Name x p) X.env) = eval (.Name x p) X.env := by rfl) (hline : (apos.endLine == cpos.line) = true := by rfl) :
    PF X W (.Call (.Attribute (.Name x p) name apos) [] [] cpos) (fMt i op fsN) :=
  ⟨fun f0 h0 => (pe_bm0 pa slot hty hm (pe_var hN hv hd hcd) hbase hline).imp fun σ H Q h => by
    obtain ⟨v, e, ty, Hf, Γ, fr, st, p⟩ := mt_core (g := gh X W f0 h0) hs h
    exact ⟨v, e, ty, p [] H Hf (Same.refl _) ⟨st, .nil⟩⟩⟩
end
/-! the list's own methods -/
def mAppend : List D → List D → Option (D × List D)
  | ds, [d] => if ds.length < 16777216 then some (.none, ds ++ [d]) else none
  | _, _ => none
def mPop0 : List D → List D → Option (D × List D)
  | ds, [] => (ds[ds.length - 1]?).map fun d => (d, ds.dropLast)
  | _, _ => none
def mPop : List D → List D → Option (D × List D)
  | ds, [.int i] => if -(2 ^ 63) ≤ i ∧ i < 2 ^ 63 then ((seqIndex? i ds.length).bind fun k => (ds[k]?).map fun d => (d, ds.eraseIdx k)) else none
  | _, _ => none
def mReverse : List D → List D → Option (D × List D)
  | ds, [] => some (.none, ds.reverse)
  | _, _ => none
def mClear : List D → List D → Option (D × List D)
  | ds, [] => some (.none, [])
  | _, _ => none
def mInsert : List D → List D → Option (D × List D)
  | ds, [.int i, d] => if ds.length < 16777216 ∧ 0 ≤ i ∧ i < 2 ^ 63 then some (.none, ds.take i.toNat ++ [d] ++ ds.drop i.toNat) else none
  | _, _ => none
def mExtend : List D → List D → Option (D × List D)
  | ds, [.list es] => if ds.length + es.length ≤ 16777216 then some (.none, ds ++ es) else none
  | _, _ => none
section
variable {K : PySem.W.Frag}
theorem FzAll.one {H : Hp} {xs : List V} {d : D} (h : FzAll K H xs [d]) : ∃ v, xs = [v] ∧ Fz K H v d := by
  cases h with
  | cons h r => cases r; exact ⟨_, rfl, h⟩
theorem FzAll.two {H : Hp} {xs : List V} {d e : D} (h : FzAll K H xs [d, e]) : ∃ v w, xs = [v, w] ∧ Fz K H v d ∧ Fz K H w e := by
  cases h with
  | cons h r =>
    cases r with
    | cons h2 r2 => cases r2; exact ⟨_, _, rfl, h, h2⟩
theorem FzAll.zero {H : Hp} {xs : List V} (h : FzAll K H xs []) : xs = [] := by cases h; rfl
theorem FzAll.dropLast {H : Hp} {vs : List V} {ds : List D} (h : FzAll K H vs ds) : FzAll K H vs.dropLast ds.dropLast := by
  rw [List.dropLast_eq_take, List.dropLast_eq_take, h.length]
  exact h.take _
theorem ms_append : MtS K rAppend mAppend := fun Hf H l vs ds xs args d ds' Q h f fa e q => by
  unfold mAppend at e
  split at e
  · split at e <;> cases e
    obtain ⟨v, rfl, z⟩ := fa.one
    exact ⟨l, vs, v, rfl, rfl, h, by rw [f.length, sizeLine_eq]; assumption, q _ _ (f.append (.cons z .nil)) .non⟩
  · cases e
theorem ms_pop0 : MtS K rPop mPop0 := fun Hf H l vs ds xs args d ds' Q h f fa e q => by
  unfold mPop0 at e
  split at e
  · cases h2 : ds[ds.length - 1]? with
    | none => rw [h2] at e; cases e
    | some d0 =>
      rw [h2] at e
      cases e
      obtain ⟨v, e1, z⟩ := f.get h2
      exact ⟨l, vs, v, rfl, fa.zero, h, by rw [f.length]; exact e1, q _ _ f.dropLast z⟩
  · cases e
theorem ms_pop : MtS K rPopAt mPop := fun Hf H l vs ds xs args d ds' Q h f fa e q => by
  unfold mPop at e
  split at e
  · rename_i i
    split at e
    · rename_i c
      cases h1 : seqIndex? i ds.length with
      | none => rw [h1] at e; cases e
      | some k =>
        rw [h1] at e
        cases h2 : ds[k]? with
        | none =>
          have e' : (ds[k]?).map (fun d => (d, ds.eraseIdx k)) = some (d, ds') := e
          rw [h2] at e'; cases e'
        | some d0 =>
          have e' : (ds[k]?).map (fun d => (d, ds.eraseIdx k)) = some (d, ds') := e
          rw [h2] at e'
          cases e'
          obtain ⟨w, rfl, zi⟩ := fa.one
          cases zi
          obtain ⟨v, e1, z⟩ := f.get h2
          exact ⟨l, vs, i, k, v, rfl, rfl, h, c.1, c.2, by rw [f.length]; exact h1, e1, q _ _ (f.eraseIdx k) z⟩
    · cases e
  · cases e
theorem ms_reverse : MtS K rReverse mReverse := fun Hf H l vs ds xs args d ds' Q h f fa e q => by
  unfold mReverse at e
  split at e
  · cases e
    exact ⟨l, vs, rfl, fa.zero, h, q _ _ f.reverse .non⟩
  · cases e
theorem ms_clear : MtS K rClear mClear := fun Hf H l vs ds xs args d ds' Q h f fa e q => by
  unfold mClear at e
  split at e
  · cases e
    exact ⟨l, vs, rfl, fa.zero, h, q _ _ .nil .non⟩
  · cases e
def rInsert : V → List V → Hp → VK → Prop := fun x vs H Q => ∃ (l : Addr) (xs : List V) (i : Int) (y : V), x = .ref l ∧ vs = [.int i, y] ∧ H l = some (.lst xs) ∧ xs.length < sizeLine ∧ 0 ≤ i ∧ i < 2 ^ 63 ∧ Q .non (upd H l (.lst (xs.take i.toNat ++ [y] ++ xs.drop i.toNat)))
theorem mt_insertV {X : Cx} : MtR X "list.insert" rInsert := mt_insert
theorem ms_insert : MtS K rInsert mInsert := fun Hf H l vs ds xs args d ds' Q h f fa e q => by
  unfold mInsert at e
  split at e
  · split at e <;> cases e
    rename_i c
    obtain ⟨v, w, rfl, z1, z2⟩ := fa.two
    cases z1
    exact ⟨l, vs, _, w, rfl, rfl, h, by rw [f.length, sizeLine_eq]; exact c.1, c.2.1, c.2.2, q _ _ (((f.take _).append (.cons z2 .nil)).append (f.drop _)) .non⟩
  · cases e
end
end PV
namespace PV
open PySem PySem.Spec PyProof.Rows L2

/-! ### what is walked -/
/-- the walk J gives the data ds, item by item -/
def ItOk (K : PySem.W.Frag) (Hf : Hp) (J : It) (ds : List D) : Prop := ∀ i Hf1 H, Same Hf Hf1 → Same Hf1 H →
  (∀ d, ds[i]? = some d → J.go i H ∧ ∀ x H', J.yld i H x H' → ∃ Hf', Same H H' ∧ Same Hf1 Hf' ∧ Same Hf' H' ∧ (∀ a, Hf' a ≠ none → Hf1 a ≠ none ∨ H a = none) ∧ Fz K Hf' x d) ∧ (ds[i]? = none → J.stop i H)
def RI (g : GW) (σ : St) (fr : List (V × Va)) : Hp → Hp → List D → Ev → It → Prop := fun Hf H ds Γ J => StOk g.h Hf H σ Γ fr ∧ ItOk g.h.K Hf J ds
def tI (g : GW) (f : Ev → Out (List D)) : TI := fun σ H R => ∃ Hf Γ fr, StOk g.h Hf H σ Γ fr ∧ Post g σ fr (RI g σ fr) Hf R (f Γ)
structure PIt (X : Cx) (W : WX) (tg e : Expr) (f : Ev → Out (List D)) : Prop where
  run : ∀ f0 h0, PI X tg e (tI (gh X W f0 h0) f)
theorem _root_.L2.PI.imp {X : Cx} {tg e : Expr} {t t' : TI} (h : PI X tg e t) (k : ∀ σ H R, t' σ H R → t σ H R) : PI X tg e t' := ⟨fun pins s σ H R I q => h.run pins s σ H R I (k σ H R q)⟩
def iL (f : Ev → Out D) : Ev → Out (List D) := fun Γ => (f Γ).bind fun d Γ1 => match d with | .list ds => .ok ds Γ1 | _ => .st
def iT (f : Ev → Out D) : Ev → Out (List D) := fun Γ => (f Γ).bind fun d Γ1 => match d with | .tuple ds => .ok ds Γ1 | .dict [(.none, .tuple ds)] => .ok ds Γ1 | _ => .st
def rangeL (lo : Int) (n : Nat) : List D := (List.range n).map fun (k : Nat) => .int (lo + (k : Int))
def iR1 (fs : Ev → Out (List D)) : Ev → Out (List D) := fun Γ => (fs Γ).bind fun ds Γ1 => match ds with | [.int j] => if j < 2 ^ 62 ∧ -(2 ^ 62) ≤ j then .ok (rangeL 0 j.toNat) Γ1 else .st | _ => .st
def iR2 (fs : Ev → Out (List D)) : Ev → Out (List D) := fun Γ => (fs Γ).bind fun ds Γ1 => match ds with | [.int i, .int j] => if (j < 2 ^ 62 ∧ -(2 ^ 62) ≤ j) ∧ i < 2 ^ 62 ∧ -(2 ^ 62) ≤ i then .ok (rangeL i (j - i).toNat) Γ1 else .st | _ => .st
def enumL (ds : List D) : List D := ds.zipIdx.map fun p => .tuple [.int (p.2 : Nat), p.1]
def iEn (fs : Ev → Out (List D)) : Ev → Out (List D) := fun Γ => (fs Γ).bind fun ds Γ1 => match ds with | [.list es] => .ok (enumL es) Γ1 | _ => .st
def zipL (xs ys : List D) : List D := (xs.zip ys).map fun p => .tuple [p.1, p.2]
def iZp (fs : Ev → Out (List D)) : Ev → Out (List D) := fun Γ => (fs Γ).bind fun ds Γ1 => match ds with | [.list xs, .list ys] => .ok (zipL xs ys) Γ1 | _ => .st
section
variable {X : Cx} {W : WX} {tg e : Expr} {p pos : Pos}
theorem itok_list {K : PySem.W.Frag} {Hf : Hp} {a : Addr} {vs : List V} {ds : List D} (h : Hf a = some (.lst vs)) (f : FzAll K Hf vs ds) : ItOk K Hf (Itl K a) ds := fun i Hf1 H s1 s2 => by
  have hH := s2 _ _ (s1 _ _ h)
  refine ⟨fun d e => ?_, fun e => ⟨vs, SqL.of hH, ?_⟩⟩
  · obtain ⟨v, e1, z⟩ := f.get e
    refine ⟨⟨vs, v, SqL.of hH, e1⟩, fun x H' y => ?_⟩
    obtain ⟨rfl, y⟩ := y
    have e2 := y vs (SqL.of hH)
    rw [e1] at e2
    cases e2
    exact ⟨Hf1, Same.refl _, Same.refl _, s2, fun _ n => .inl n, z.mono s1⟩
  · rw [f.length]
    exact List.getElem?_eq_none_iff.mp e
theorem itok_tup {K : PySem.W.Frag} {Hf : Hp} {a : Addr} {vs : List V} {ds : List D} (h : SqT K Hf a vs) (f : FzAll K Hf vs ds) : ItOk K Hf (Itt K a) ds := fun i Hf1 H s1 s2 => by
  have hH := Same.seqT s2 (Same.seqT s1 h)
  refine ⟨fun d e => ?_, fun e => ⟨vs, hH, ?_⟩⟩
  · obtain ⟨v, e1, z⟩ := f.get e
    refine ⟨⟨vs, v, hH, e1⟩, fun x H' y => ?_⟩
    obtain ⟨rfl, y⟩ := y
    have e2 := y vs hH
    rw [e1] at e2
    cases e2
    exact ⟨Hf1, Same.refl _, Same.refl _, s2, fun _ n => .inl n, z.mono s1⟩
  · rw [f.length]
    exact List.getElem?_eq_none_iff.mp e
theorem itok_range {K : PySem.W.Frag} {Hf : Hp} (lo : Int) (n : Nat) : ItOk K Hf (Itr lo n) (rangeL lo n) := fun i Hf1 H s1 s2 => by
  refine ⟨fun d e => ?_, fun e => ?_⟩
  · unfold rangeL at e
    rw [List.getElem?_map] at e
    by_cases c : i < n
    · rw [List.getElem?_range c] at e
      cases e
      refine ⟨c, fun x H' y => ?_⟩
      obtain ⟨rfl, rfl⟩ := y
      exact ⟨Hf1, Same.refl _, Same.refl _, s2, fun _ n => .inl n, .int _⟩
    · rw [List.getElem?_eq_none (by simpa using c)] at e
      cases e
  · have := List.getElem?_eq_none_iff.mp e
    rw [show (rangeL lo n).length = n by simp [rangeL]] at this
    exact this
theorem itok_enum {K : PySem.W.Frag} {Hf : Hp} {a : Addr} {vs : List V} {ds : List D} (h : Hf a = some (.lst vs)) (f : FzAll K Hf vs ds) : ItOk K Hf (Ite K a) (enumL ds) := fun i Hf1 H s1 s2 => by
  have hH := s2 _ _ (s1 _ _ h)
  refine ⟨fun d e => ?_, fun e => ⟨vs, SqL.of hH, ?_⟩⟩
  · unfold enumL at e
    rw [List.getElem?_map, List.getElem?_zipIdx] at e
    cases e0 : ds[i]? with
    | none => rw [e0] at e; cases e
    | some d0 =>
      rw [e0] at e
      obtain ⟨v, e1, z⟩ := f.get e0
      refine ⟨⟨vs, v, SqL.of hH, e1⟩, fun x H' y => ?_⟩
      obtain ⟨T, x', rfl, nT, rfl, y⟩ := y
      have e2 := y vs (SqL.of hH)
      rw [e1] at e2
      cases e2
      have nv := NewV.tup (K := K) (vs := [.int (i : Nat), v]) (ds := [.int (i : Nat), d0]) s2 nT (.cons (.int _) (.cons (z.mono s1) .nil))
      have e3 : PyData.tuple [.int (i : Nat), d0] = d := by
        have e' : some (PyData.tuple [.int ((0 + i : Nat) : Int), d0]) = some d := e
        rw [Nat.zero_add] at e'
        exact Option.some.inj e'
      subst e3
      obtain ⟨A, o, _⟩ := nv.o
      exact ⟨_, nv.s, nv.f1, nv.f2, nv.f3, o.2⟩
  · rw [f.length]
    have := List.getElem?_eq_none_iff.mp e
    simpa [enumL] using this
theorem itok_zip {K : PySem.W.Frag} {Hf : Hp} {a b : Addr} {vs ws : List V} {ds es : List D} (h : Hf a = some (.lst vs)) (f : FzAll K Hf vs ds) (h' : Hf b = some (.lst ws)) (f' : FzAll K Hf ws es) : ItOk K Hf (Itz K a b) (zipL ds es) := fun i Hf1 H s1 s2 => by
  have hH := s2 _ _ (s1 _ _ h)
  have hH' := s2 _ _ (s1 _ _ h')
  refine ⟨fun d e => ?_, fun e => ⟨vs, ws, SqL.of hH, SqL.of hH', ?_⟩⟩
  · unfold zipL at e
    rw [List.getElem?_map] at e
    cases e0 : (ds.zip es)[i]? with
    | none => rw [e0] at e; cases e
    | some p =>
      rw [e0] at e
      obtain ⟨ea, eb⟩ := List.getElem?_zip_eq_some.mp e0
      obtain ⟨v, e1, z⟩ := f.get ea
      obtain ⟨w, e1', z'⟩ := f'.get eb
      refine ⟨⟨vs, ws, v, w, SqL.of hH, SqL.of hH', e1, e1'⟩, fun x H' y => ?_⟩
      obtain ⟨T, x', y', rfl, nT, rfl, y, yy⟩ := y
      have e2 := y vs (SqL.of hH)
      rw [e1] at e2
      cases e2
      have e2' := yy ws (SqL.of hH')
      rw [e1'] at e2'
      cases e2'
      have nv := NewV.tup (K := K) (vs := [v, w]) (ds := [p.1, p.2]) s2 nT (.cons (z.mono s1) (.cons (z'.mono s1) .nil))
      cases e
      obtain ⟨A, o, _⟩ := nv.o
      exact ⟨_, nv.s, nv.f1, nv.f2, nv.f3, o.2⟩
  · rw [f.length, f'.length]
    have := List.getElem?_eq_none_iff.mp e
    unfold zipL at this
    rw [List.length_map, List.length_zip] at this
    omega
theorem pi_l {f : Ev → Out D} (h : PF X W e f) : PIt X W tg e (iL f) := ⟨fun f0 h0 => (pi_list (h.run f0 h0)).imp fun σ H R ⟨Hf, Γ, fr, st, p⟩ => ⟨Hf, Γ, fr, st, Post.bind p fun d Γ1 _ v H1 Hf1 s1 ⟨st1, z⟩ q => by
  cases d with
  | list ds =>
    cases z with
    | lst h f => exact ⟨_, rfl, ⟨_, SqL.of (st1.sub _ _ h)⟩, q _ H1 Hf1 (Same.refl _) ⟨st1, itok_list h f⟩⟩
  | _ => exact q.elim⟩⟩
theorem pi_t {f : Ev → Out D} (h : PF X W e f) : PIt X W tg e (iT f) := ⟨fun f0 h0 => (pi_tup (h.run f0 h0)).imp fun σ H R ⟨Hf, Γ, fr, st, p⟩ => ⟨Hf, Γ, fr, st, Post.bind p fun d Γ1 _ v H1 Hf1 s1 ⟨st1, z⟩ q => by
  split at q
  · cases z with
    | tup h f => exact ⟨_, rfl, ⟨_, Same.seqT st1.sub (SqT.of h)⟩, q _ H1 Hf1 (Same.refl _) ⟨st1, itok_tup (SqT.of h) f⟩⟩
  · obtain ⟨a, vs, rfl, h, f⟩ := fz_kt z
    exact ⟨_, rfl, ⟨_, Same.seqT st1.sub h⟩, q _ H1 Hf1 (Same.refl _) ⟨st1, itok_tup h f⟩⟩
  · exact q.elim⟩⟩
theorem pi_r1 {a : Expr} {fs : Ev → Out (List D)} (hg : Gl X "range") (hm : X.mg "range" = none) (h : PFs X W [a] fs) (hs : starEach [a] X.env = [(false, eval a X.env)] := by rfl) : PIt X W tg (.Call (.Name "range" p) [a] [] pos) (iR1 fs) :=
  ⟨fun f0 h0 => (pi_range1 hg hm (h.run f0 h0) hs).imp fun σ H R ⟨Hf, Γ, fr, st, p⟩ => ⟨Hf, Γ, fr, st, Post.bind p fun ds Γ1 _ vs H1 Hf1 s1 ⟨st1, z⟩ q => by
    split at q
    · split at q
      · rename_i c
        obtain ⟨v, rfl, zz⟩ := z.one
        cases zz
        exact ⟨_, rfl, c.2, c.1, q _ H1 Hf1 (Same.refl _) ⟨st1, itok_range 0 _⟩⟩
      · exact q.elim
    · exact q.elim⟩⟩
theorem pi_r2 {a b : Expr} {fs : Ev → Out (List D)} (hg : Gl X "range") (hm : X.mg "range" = none) (h : PFs X W [a, b] fs) (hs : starEach [a, b] X.env = [(false, eval a X.env), (false, eval b X.env)] := by rfl) (hs2 : starEach [b] X.env = [(false, eval b X.env)] := by rfl) :
    PIt X W tg (.Call (.Name "range" p) [a, b] [] pos) (iR2 fs) :=
  ⟨fun f0 h0 => (pi_range2 hg hm (h.run f0 h0) hs hs2).imp fun σ H R ⟨Hf, Γ, fr, st, p⟩ => ⟨Hf, Γ, fr, st, Post.bind p fun ds Γ1 _ vs H1 Hf1 s1 ⟨st1, z⟩ q => by
    split at q
    · split at q
      · rename_i c
        obtain ⟨v, w, rfl, z1, z2⟩ := z.two
        cases z1
        cases z2
        exact ⟨_, _, rfl, ⟨c.2.2, c.2.1, c.1.2, c.1.1⟩, q _ H1 Hf1 (Same.refl _) ⟨st1, itok_range _ _⟩⟩
      · exact q.elim
    · exact q.elim⟩⟩
theorem pi_en {a : Expr} {elts : List Expr} {kk : Nat} {tpos : Pos} {fs : Ev → Out (List D)} (hg : Gl X "enumerate") (hm : X.mg "enumerate" = none) (h : PFs X W [a] fs) (hs : starEach [a] X.env = [(false, eval a X.env)] := by rfl) :
    PIt X W (.Tuple elts kk tpos) (.Call (.Name "enumerate" p) [a] [] pos) (iEn fs) :=
  ⟨fun f0 h0 => (pi_enum hg hm (h.run f0 h0) hs).imp fun σ H R ⟨Hf, Γ, fr, st, p⟩ => ⟨Hf, Γ, fr, st, Post.bind p fun ds Γ1 _ vs H1 Hf1 s1 ⟨st1, z⟩ q => by
    split at q
    · obtain ⟨v, rfl, zz⟩ := z.one
      cases zz with
      | lst h f => exact ⟨_, _, rfl, SqL.of (st1.sub _ _ h), q _ H1 Hf1 (Same.refl _) ⟨st1, itok_enum h f⟩⟩
    · exact q.elim⟩⟩
theorem pi_zp {a b : Expr} {elts : List Expr} {kk : Nat} {tpos : Pos} {fs : Ev → Out (List D)} (hg : Gl X "zip") (hm : X.mg "zip" = none) (h : PFs X W [a, b] fs) (hs : starEach [a, b] X.env = (false, eval a X.env) :: starEach [b] X.env := by rfl) (hpl : (backTo pos (starEach [b] X.env)).any (·.1) = false := by rfl) :
    PIt X W (.Tuple elts kk tpos) (.Call (.Name "zip" p) [a, b] [] pos) (iZp fs) :=
  ⟨fun f0 h0 => (pi_zip hg hm (h.run f0 h0) hs hpl).imp fun σ H R ⟨Hf, Γ, fr, st, p⟩ => ⟨Hf, Γ, fr, st, Post.bind p fun ds Γ1 _ vs H1 Hf1 s1 ⟨st1, z⟩ q => by
    split at q
    · obtain ⟨v, w, rfl, z1, z2⟩ := z.two
      cases z1 with
      | lst h f =>
        cases z2 with
        | lst h' f' => exact ⟨_, _, _, _, rfl, SqL.of (st1.sub _ _ h), SqL.of (st1.sub _ _ h'), q _ H1 Hf1 (Same.refl _) ⟨st1, itok_zip h f h' f'⟩⟩
    · exact q.elim⟩⟩
end

/-! ### targets -/
def tG (g : GW) (is : List Nat) (t : D → Ev → Option Ev) : TG := fun v σ H Q => ∃ Hf Γ fr d, StOk g.h Hf H σ Γ fr ∧ Fz g.h.K Hf v d ∧ ∃ Γ', t d Γ = some Γ' ∧ ∀ σ' H' Hf', Same Hf Hf' → StOk g.h Hf' H' σ' Γ' fr → wipe σ' is = wipe σ is → Q σ' H'
def tGs (g : GW) (is : List Nat) (t : List D → Ev → Option Ev) : TGs := fun vs σ H Q => ∃ Hf Γ fr ds, StOk g.h Hf H σ Γ fr ∧ FzAll g.h.K Hf vs ds ∧ ∃ Γ', t ds Γ = some Γ' ∧ ∀ σ' H' Hf', Same Hf Hf' → StOk g.h Hf' H' σ' Γ' fr → wipe σ' is = wipe σ is → Q σ' H'
structure PGt (X : Cx) (tg : Expr) (is : List Nat) (t : D → Ev → Option Ev) : Prop where
  run : ∀ g : GW, g.h.K = X.K → PG X tg (tG g is t)
structure PGts (X : Cx) (tgs : List Expr) (is : List Nat) (t : List D → Ev → Option Ev) : Prop where
  len : ∀ ds Γ Γ', t ds Γ = some Γ' → ds.length = tgs.length
  run : ∀ g : GW, g.h.K = X.K → PGs X tgs (tGs g is t)
theorem _root_.L2.PG.imp {X : Cx} {tg : Expr} {t t' : TG} (h : PG X tg t) (k : ∀ v σ H Q, t' v σ H Q → t v σ H Q) : PG X tg t' := ⟨fun pins s σ H v u Q I r q => h.run pins s σ H v u Q I r (k v σ H Q q)⟩
theorem _root_.L2.PGs.imp {X : Cx} {tg : List Expr} {t t' : TGs} (h : PGs X tg t) (k : ∀ v σ H Q, t' v σ H Q → t v σ H Q) : PGs X tg t' := ⟨fun pins s σ H v u Q I r q => h.run pins s σ H v u Q I r (k v σ H Q q)⟩
def gN (i : Nat) : D → Ev → Option Ev := fun d Γ => some (Γ.set i (some (.z, d)))
def gsN : List D → Ev → Option Ev := fun ds Γ => match ds with | [] => some Γ | _ => none
def gsC (t : D → Ev → Option Ev) (u : List D → Ev → Option Ev) : List D → Ev → Option Ev := fun ds Γ => match ds with | d :: r => (t d Γ).bind (u r) | [] => none
def gT (u : List D → Ev → Option Ev) : D → Ev → Option Ev := fun d Γ => match d with | .tuple ds => u ds Γ | .dict [(.none, .tuple ds)] => u ds Γ | _ => none
section
variable {X : Cx} {pos : Pos}
theorem wipe_set {σ : St} {i : Nat} {v : Option V} : ∀ {is : List Nat}, i ∈ is → wipe (σ.set i v) is = wipe σ is
  | j :: js, h => by
    unfold wipe
    by_cases e : i = j
    · subst e
      by_cases hj : i ∈ js
      · rw [wipe_set hj]
      · have : ∀ {js : List Nat}, i ∉ js → (wipe (σ.set i v) js) = (wipe σ js).set i v := fun {js} hj => by
          induction js with
          | nil => rfl
          | cons k ks ih =>
            have h1 : i ≠ k := fun z => hj (by rw [z]; exact List.mem_cons_self)
            have h2 : i ∉ ks := fun z => hj (List.mem_cons_of_mem _ z)
            show (wipe (σ.set i v) ks).set k none = ((wipe σ ks).set k none).set i v
            rw [ih h2, List.set_comm _ _ h1]
        rw [this hj, List.set_set]
    · rw [wipe_set (is := js) ((List.mem_cons.mp h).resolve_left e)]
theorem pg_n (i : Nat) {is : List Nat} {x : Str} (hi' : i ∈ is) (hN : X.N.Nodup) (hi : X.N[i]? = some x) (hx : Loc X.env.scope x) (hf : X.fn x = true ∨ X.env.scope.names.lookup x = some .local) : PGt X (.Name x pos) is (gN i) :=
  ⟨fun g hK => (pg_name hN hi hx hf).imp fun v σ H Q ⟨Hf, Γ, fr, d, st, z, Γ', e, q⟩ => by
    cases e
    exact q _ H Hf (Same.refl _) ((st.push z).store i) (wipe_set hi')⟩
theorem pgs_n {is : List Nat} : PGts X [] is gsN := ⟨fun ds Γ Γ' e => (by
  cases ds with
  | nil => rfl
  | cons _ _ => cases e), fun g hK => pgs_nil.imp fun v σ H Q ⟨Hf, Γ, fr, d, st, z, Γ', e, q⟩ => by
  cases d with
  | nil =>
    cases z
    cases e
    exact ⟨rfl, q σ H Hf (Same.refl _) st rfl⟩
  | cons _ _ => cases e⟩
theorem pgs_c {is : List Nat} {e : Expr} {es : List Expr} {t : D → Ev → Option Ev} {u : List D → Ev → Option Ev} (h1 : PGt X e is t) (h2 : PGts X es is u) (hs : (assignEach (e :: es) X.env).map (·.2) = assign e X.env :: (assignEach es X.env).map (·.2) := by rfl) : PGts X (e :: es) is (gsC t u) :=
  ⟨fun ds Γ Γ' e => (by
    cases ds with
    | nil => cases e
    | cons d ds =>
      cases h : t d Γ with
      | none =>
        have e' : (t d Γ).bind (u ds) = some Γ' := e
        rw [h] at e'; cases e'
      | some Γ1 =>
        have e' : (t d Γ).bind (u ds) = some Γ' := e
        rw [h] at e'
        exact congrArg (· + 1) (h2.len ds Γ1 Γ' e')), fun g hK => (pgs_cons (h1.run g hK) (h2.run g hK) hs).imp fun v σ H Q ⟨Hf, Γ, fr, d, st, z, Γ', e, q⟩ => by
    cases d with
    | nil => cases e
    | cons d ds =>
      cases z with
      | cons z zs =>
        cases h : t d Γ with
        | none =>
          have e' : (t d Γ).bind (u ds) = some Γ' := e
          rw [h] at e'; cases e'
        | some Γ1 =>
          have e' : (t d Γ).bind (u ds) = some Γ' := e
          rw [h] at e'
          exact ⟨_, _, rfl, Hf, Γ, fr, d, st, z, Γ1, h, fun σ1 H1 Hf1 s1 st1 w1 => ⟨Hf1, Γ1, fr, ds, st1, zs.mono s1, Γ', e', fun σ2 H2 Hf2 s2 st2 w2 => q σ2 H2 Hf2 (s1.trans s2) st2 (w2.trans w1)⟩⟩⟩
theorem pg_t {is : List Nat} {es : List Expr} {k : Nat} {u : List D → Ev → Option Ev} (hc : X.calm = true) (h : PGts X es is u) (hn : (assignEach es X.env).length = es.length := by rfl) (hst : (assignEach es X.env).findIdx? (·.1) = none := by rfl) :
    PGt X (.Tuple es k pos) is (gT u) :=
  ⟨fun g hK => (pg_tup (n := es.length) hc (h.run g hK) hn hst).imp fun v σ H Q ⟨Hf, Γ, fr, d, st, z, Γ', e, q⟩ => by
    unfold gT at e
    split at e
    · cases z with
      | tup z zs => exact ⟨_, _, rfl, by rw [← hK]; exact Same.seqT st.sub (SqT.of z), zs.length.trans (h.len _ Γ Γ' e), Hf, Γ, fr, _, st, zs, Γ', e, q⟩
    · obtain ⟨a, vs, rfl, z, zs⟩ := fz_kt z
      exact ⟨_, _, rfl, by rw [← hK]; exact Same.seqT st.sub z, zs.length.trans (h.len _ Γ Γ' e), Hf, Γ, fr, _, st, zs, Γ', e, q⟩
    · cases e⟩
end
end PV
namespace PV
open PySem PySem.Spec PyProof.Rows L2

/-! ### statements -/
def PostS (g : GW) (D : Ends) (fr : List (V × Va)) (Hf : Hp) : SO → Prop
  | .nx Γ' => ∀ σ' H' Hf', Same Hf Hf' → StOk g.h Hf' H' σ' Γ' fr → D.nx σ' H'
  | .rt x Γ' => ∀ v σ' H' Hf', Same Hf Hf' → StOk g.h Hf' H' σ' Γ' ((v, x) :: fr) → D.rt v H'
  | .bk Γ' => ∀ σ' H' Hf', Same Hf Hf' → StOk g.h Hf' H' σ' Γ' fr → D.bk σ' H'
  | .ct Γ' => ∀ σ' H' Hf', Same Hf Hf' → StOk g.h Hf' H' σ' Γ' fr → D.ct σ' H'
  | .ex e Γ' => ∀ σ', PEx g Hf σ' fr e Γ'
  | .st => False
def tS (g : GW) (f : Ev → SO) : TS := fun D σ H => ∃ Hf Γ fr, StOk g.h Hf H σ Γ fr ∧ PostS g D fr Hf (f Γ)
structure PSt (X : Cx) (W : WX) (s : Stmt) (f : Ev → SO) : Prop where
  run : ∀ f0 h0, PS X s (tS (gh X W f0 h0) f)
structure PSts (X : Cx) (W : WX) (s : List Stmt) (f : Ev → SO) : Prop where
  run : ∀ f0 h0, PSs X s (tS (gh X W f0 h0) f)
def sB {α : Type} (o : Out α) (k : α → Ev → SO) : SO := match o with
  | .ok a Γ => k a Γ
  | .ex e Γ => .ex e Γ
  | .st => .st
section
variable {g : GW} {D : Ends} {fr : List (V × Va)} {Hf Hf' : Hp} {α β : Type}
theorem PostS.mono {r : SO} (h : PostS g D fr Hf r) (s : Same Hf Hf') : PostS g D fr Hf' r := by
  cases r with
  | nx Γ => exact fun σ' H' Hf1 s1 => h σ' H' Hf1 (s.trans s1)
  | rt x Γ => exact fun v σ' H' Hf1 s1 => h v σ' H' Hf1 (s.trans s1)
  | bk Γ => exact fun σ' H' Hf1 s1 => h σ' H' Hf1 (s.trans s1)
  | ct Γ => exact fun σ' H' Hf1 s1 => h σ' H' Hf1 (s.trans s1)
  | ex e Γ => exact fun σ' => PEx.mono (h σ') s
  | st => exact h
theorem PostS.bind {o : Out α} {k : α → Ev → SO} {σ : St} {R1 : Hp → Hp → α → Ev → β → Prop} {Q1 : β → Hp → Prop} (h : PostS g D fr Hf (sB o k))
    (h1 : ∀ a Γ1, o = .ok a Γ1 → ∀ b H1 Hf1, Same Hf Hf1 → R1 Hf1 H1 a Γ1 b → PostS g D fr Hf1 (k a Γ1) → Q1 b H1) : Post g σ fr R1 Hf Q1 o := by
  cases o with
  | ok a Γ1 => exact fun b H1 Hf1 s1 r => h1 a Γ1 rfl b H1 Hf1 s1 r (PostS.mono (show PostS g D fr Hf (k a Γ1) from h) s1)
  | ex e Γ1 => exact h σ
  | st => exact h
end
def sNx : Ev → SO := fun Γ => .nx Γ
def sSeq (a b : Ev → SO) : Ev → SO := fun Γ => match a Γ with
  | .nx Γ1 => b Γ1
  | r => r
def sAsg (i : Nat) (f : Ev → Out Va) : Ev → SO := fun Γ => sB (f Γ) fun x Γ1 => .nx (Γ1.set i (some x))
def sTgt (t : D → Ev → Option Ev) (f : Ev → Out D) : Ev → SO := fun Γ => sB (f Γ) fun d Γ1 => match t d Γ1 with | some Γ2 => .nx Γ2 | none => .st
def sRet (f : Ev → Out Va) : Ev → SO := fun Γ => sB (f Γ) fun x Γ1 => .rt x Γ1
def sRetN : Ev → SO := fun Γ => .rt (.z, .none) Γ
def sExp (f : Ev → Out D) : Ev → SO := fun Γ => sB (f Γ) fun _ Γ1 => .nx Γ1
def sIf (c : Ev → Out Bool) (a b : Ev → SO) : Ev → SO := fun Γ => sB (c Γ) fun k Γ1 => if k = true then a Γ1 else b Γ1
def sBk : Ev → SO := fun Γ => .bk Γ
def sCt : Ev → SO := fun Γ => .ct Γ
def sAug (i : Nat) (op : D → D → Option Va) (f : Ev → Out D) : Ev → SO := fun Γ => match Γ[i]? with
  | some (some (.z, x)) => sB (f Γ) fun y Γ1 => (match op x y with | some z => .nx (Γ1.set i (some z)) | none => .st)
  | _ => .st
def sForL (t : D → Ev → Option Ev) (body : Ev → SO) : List D → Ev → SO
  | [], Γ => .nx Γ
  | d :: ds, Γ => match t d Γ with
    | none => .st
    | some Γ1 => match body Γ1 with
      | .nx Γ2 => sForL t body ds Γ2
      | .ct Γ2 => sForL t body ds Γ2
      | .bk Γ2 => .nx Γ2
      | r => r
def sFor (f : Ev → Out (List D)) (t : D → Ev → Option Ev) (body : Ev → SO) : Ev → SO := fun Γ => sB (f Γ) fun ds Γ1 => sForL t body ds Γ1
def sWhile (c : Ev → Out Bool) (body : Ev → SO) : Nat → Ev → SO
  | 0, _ => .st
  | n + 1, Γ => sB (c Γ) fun k Γ1 => if k = true then (match body Γ1 with
      | .nx Γ2 => sWhile c body n Γ2
      | .ct Γ2 => sWhile c body n Γ2
      | .bk Γ2 => .nx Γ2
      | r => r) else .nx Γ1
section
variable {X : Cx} {W : WX} {st : Stmt} {rest : List Stmt} {e : Expr} {pos : Pos} {a b : Ev → SO}
theorem pss_n : PSts X W [] sNx := ⟨fun f0 h0 => pss_nil.imp fun D σ H ⟨Hf, Γ, fr, st, p⟩ => p σ H Hf (Same.refl _) st⟩
theorem pss_c (h1 : PSt X W st a) (h2 : PSts X W rest b) : PSts X W (st :: rest) (sSeq a b) := ⟨fun f0 h0 => (pss_cons (h1.run f0 h0) (h2.run f0 h0)).imp fun D σ H ⟨Hf, Γ, fr, st, p⟩ => by
  refine ⟨Hf, Γ, fr, st, ?_⟩
  unfold sSeq at p
  cases h : a Γ with
  | nx Γ1 =>
    rw [h] at p
    exact fun σ1 H1 Hf1 s1 st1 => ⟨Hf1, Γ1, fr, st1, PostS.mono p s1⟩
  | rt x Γ1 => rw [h] at p; exact p
  | bk Γ1 => rw [h] at p; exact p
  | ct Γ1 => rw [h] at p; exact p
  | ex e Γ1 => rw [h] at p; exact p
  | st => rw [h] at p; exact p⟩
theorem pss_1 (h1 : PSt X W st a) : PSts X W [st] a := ⟨fun f0 h0 => pss_one (h1.run f0 h0)⟩
theorem ps_pass' : PSt X W (.Pass pos) sNx := ⟨fun f0 h0 => ps_pass.imp fun D σ H ⟨Hf, Γ, fr, st, p⟩ => p σ H Hf (Same.refl _) st⟩
theorem ps_brk : PSt X W (.Break pos) sBk := ⟨fun f0 h0 => ps_break.imp fun D σ H ⟨Hf, Γ, fr, st, p⟩ => p σ H Hf (Same.refl _) st⟩
theorem ps_cnt : PSt X W (.Continue pos) sCt := ⟨fun f0 h0 => ps_continue.imp fun D σ H ⟨Hf, Γ, fr, st, p⟩ => p σ H Hf (Same.refl _) st⟩
theorem ps_r {f : Ev → Out Va} (h : PV X W e f) : PSt X W (.Return (some e) pos) (sRet f) := ⟨fun f0 h0 => (ps_ret (h.run f0 h0)).imp fun D σ H ⟨Hf, Γ, fr, st, p⟩ => ⟨Hf, Γ, fr, st, PostS.bind p fun x Γ1 _ v H1 Hf1 s1 st1 q => q v σ H1 Hf1 (Same.refl _) st1⟩⟩
theorem ps_rN : PSt X W (.Return none pos) sRetN := ⟨fun f0 h0 => ps_retN.imp fun D σ H ⟨Hf, Γ, fr, st, p⟩ => p .non σ H Hf (Same.refl _) (st.push .non)⟩
theorem ps_x {f : Ev → Out D} (h : PF X W e f) (hs : swapsWith e none pos.line X.env = pure false := by rfl) : PSt X W (.Expr e pos) (sExp f) := ⟨fun f0 h0 => (ps_expr (h.run f0 h0) hs).imp fun D σ H ⟨Hf, Γ, fr, st, p⟩ => ⟨Hf, Γ, fr, st, PostS.bind p fun x Γ1 _ v H1 Hf1 s1 ⟨st1, _⟩ q => q σ H1 Hf1 (Same.refl _) st1⟩⟩
theorem ps_i {c : Expr} {A B : List Stmt} {t : Ev → Out Bool} (hc : PB X W c t) (ha : PSts X W A a) (hb : PSts X W B b) : PSt X W (.If c A B pos) (sIf t a b) :=
  ⟨fun f0 h0 => (ps_if (hc.run f0 h0) (ha.run f0 h0) (hb.run f0 h0)).imp fun D σ H ⟨Hf, Γ, fr, st, p⟩ => ⟨Hf, Γ, fr, st, PostS.bind p fun k Γ1 _ v H1 Hf1 s1 ⟨st1, e⟩ q => by
    subst e
    cases v with
    | true => exact ⟨Hf1, Γ1, fr, st1, q⟩
    | false => exact ⟨Hf1, Γ1, fr, st1, q⟩⟩⟩
theorem ps_a (i : Nat) {x : Str} {pos' : Pos} {f : Ev → Out Va} (hN : X.N.Nodup) (hi : X.N[i]? = some x) (hx : Loc X.env.scope x) (h : PV X W e f) (hs : swapsWith e (some (.Name x pos')) pos.line X.env = pure false := by rfl) (hf : X.fn x = true ∨ X.env.scope.names.lookup x = some .local := by first | exact .inl rfl | exact .inr rfl | assumption) :
    PSt X W (.Assign [.Name x pos'] e pos) (sAsg i f) :=
  ⟨fun f0 h0 => (ps_set hN hi hx (h.run f0 h0) hs hf).imp fun D σ H ⟨Hf, Γ, fr, st, p⟩ => ⟨Hf, Γ, fr, st, PostS.bind p fun x Γ1 _ v H1 Hf1 s1 st1 q => q _ H1 Hf1 (Same.refl _) (st1.store i)⟩⟩
theorem ps_t {tg : Expr} {is : List Nat} {t : D → Ev → Option Ev} {f : Ev → Out D} (h : PF X W e f) (hg : PGt X tg is t) (hs : swapsWithSole [tg] e pos.line X.env = pure false := by rfl) (hw : swappedStores [tg] e X.env = pure none := by rfl)
    (h1 : (assignEach [tg] X.env).map (·.2) = [assign tg X.env] := by rfl) : PSt X W (.Assign [tg] e pos) (sTgt t f) :=
  ⟨fun f0 h0 => (ps_asg (h.run f0 h0) (hg.run (gh X W f0 h0) rfl) hs hw h1).imp fun D σ H ⟨Hf, Γ, fr, st, p⟩ => ⟨Hf, Γ, fr, st, PostS.bind p fun d Γ1 _ v H1 Hf1 s1 ⟨st1, z⟩ q => by
    cases h : t d Γ1 with
    | none => rw [h] at q; exact q.elim
    | some Γ2 =>
      rw [h] at q
      exact ⟨Hf1, Γ1, fr, d, st1, z, Γ2, h, fun σ' H' Hf' s' st' _ => q σ' H' Hf' s' st'⟩⟩⟩
theorem ps_g (i : Nat) {x : Str} {op : Operator} {r : R2} {f : Ev → Out D} {o : D → D → Option Va} {pos' : Pos} (hN : X.N.Nodup) (hi : X.N[i]? = some x) (hx : Loc X.env.scope x) (h : PF X W e f) (ho : OpR X (inplaceOp op) r) (hs : OpS X.K r o)
    (hf : X.fn x = true ∨ X.env.scope.names.lookup x = some .local := by first | exact .inl rfl | exact .inr rfl | assumption) : PSt X W (.AugAssign (.Name x pos') op e pos) (sAug i o f) :=
  ⟨fun f0 h0 => (ps_aug hN hi hx (h.run f0 h0) (fun pins s σ H x y v u Q I rx ry q => ho pins s σ H x y v u Q I rx ry q) hf).imp fun D σ H ⟨Hf, Γ, fr, st, p⟩ => by
    unfold sAug at p
    split at p
    · rename_i dx hΓ
      obtain ⟨v, e1, z⟩ := st.getZ hΓ
      refine ⟨v, e1, Hf, Γ, fr, st, PostS.bind p fun dy Γ1 _ w H1 Hf1 s1 ⟨st1, z1⟩ q => ?_⟩
      cases h : o dx dy with
      | none => rw [h] at q; exact q.elim
      | some dz =>
        rw [h] at q
        exact hs Hf1 H1 v w dx dy dz _ st1.sub (.inl (z.mono s1)) (.inl z1) h fun v' H' Hf' n => q _ H' Hf' n.f1 ((st1.pushN n).store i)
    · exact p.elim⟩
theorem ps_f {tg iter : Expr} {body : List Stmt} {is : List Nat} {t : D → Ev → Option Ev} {f : Ev → Out (List D)} {fb : Ev → SO} (hp : PassesOwn (model X.prog X.w) X.A X.env X.xe) (hc : X.calm = true) (hi : PIt X W tg iter f) (hg : PGt X tg is t) (hb : PSts X W body fb)
    (hs : ∀ x, foldedSetIterable iter X.env x = pure x := by intro _; rfl) : PSt X W (.For tg iter body [] pos) (sFor f t fb) :=
  ⟨fun f0 h0 => (ps_for hp hc (hi.run f0 h0) (hg.run (gh X W f0 h0) rfl) (hb.run f0 h0) hs).imp fun D σ H ⟨Hf, Γ, fr, st, p⟩ => by
    refine ⟨Hf, Γ, fr, st, PostS.bind p fun ds Γ1 _ J H1 Hf1 s1 ⟨st1, it⟩ q => ?_⟩
    refine ⟨fun i m σ H => m = ds.length - i ∧ i ≤ ds.length ∧ ∃ Hf2 Γ2, Same Hf1 Hf2 ∧ StOk (gh X W f0 h0).h Hf2 H σ Γ2 fr ∧ PostS (gh X W f0 h0) D fr Hf2 (sForL t fb (ds.drop i) Γ2), ⟨_, rfl, Nat.zero_le _, Hf1, Γ1, Same.refl _, st1, q⟩, ?_⟩
    rintro i m σ2 H2 ⟨rfl, hi, Hf2, Γ2, s2, st2, q2⟩
    obtain ⟨g1, g2⟩ := it i Hf2 H2 s2 st2.sub
    cases h : ds[i]? with
    | none =>
      refine .inl ⟨g2 h, ?_⟩
      rw [List.drop_eq_nil_of_le (List.getElem?_eq_none_iff.mp h)] at q2
      exact q2 σ2 H2 Hf2 (Same.refl _) st2
    | some d =>
      obtain ⟨go, yl⟩ := g1 d h
      have hlt := (List.getElem?_eq_some_iff.mp h).1
      have ed : ds.drop i = d :: ds.drop (i + 1) := by
        rw [List.drop_eq_getElem_cons hlt]
        rw [List.getElem?_eq_getElem hlt] at h
        rw [Option.some.inj h]
      rw [ed] at q2
      refine .inr ⟨go, fun σ' H' => (i + 1 ≤ ds.length ∧ ∃ Hf2 Γ2, Same Hf1 Hf2 ∧ StOk (gh X W f0 h0).h Hf2 H' σ' Γ2 fr ∧ PostS (gh X W f0 h0) D fr Hf2 (sForL t fb (ds.drop (i + 1)) Γ2)), fun σ' H' n => ⟨ds.length - (i + 1), by omega, rfl, n⟩, fun x H' y => ?_⟩
      obtain ⟨Hf3, a1, a2, a3, a4, z⟩ := yl x H' y
      have st3 := st2.freeze a1 a2 a3 a4
      unfold sForL at q2
      cases ht : t d Γ2 with
      | none => rw [ht] at q2; exact q2.elim
      | some Γ3 =>
        rw [ht] at q2
        dsimp only at q2
        refine ⟨Hf3, Γ2, fr, d, st3, z, Γ3, ht, fun σ4 H4 Hf4 s4 st4 _ => ⟨Hf4, Γ3, fr, st4, ?_⟩⟩
        have sA : Same Hf1 Hf4 := (s2.trans a2).trans s4
        have q3 := PostS.mono q2 (a2.trans s4)
        cases hb : fb Γ3 with
        | nx Γ4 =>
          rw [hb] at q3
          exact fun σ5 H5 Hf5 s5 st5 => ⟨hlt, Hf5, Γ4, sA.trans s5, st5, PostS.mono q3 s5⟩
        | ct Γ4 =>
          rw [hb] at q3
          exact fun σ5 H5 Hf5 s5 st5 => ⟨hlt, Hf5, Γ4, sA.trans s5, st5, PostS.mono q3 s5⟩
        | bk Γ4 => rw [hb] at q3; exact q3
        | rt x Γ4 => rw [hb] at q3; exact q3
        | ex e Γ4 => rw [hb] at q3; exact q3
        | st => rw [hb] at q3; exact q3.elim⟩
theorem ps_w {c : Expr} {body : List Stmt} {t : Ev → Out Bool} {fb : Ev → SO} (n : Nat) (hp : PassesOwn (model X.prog X.w) X.A X.env X.xe) (hc : PB X W c t) (hb : PSts X W body fb) : PSt X W (.While c body [] pos) (sWhile t fb n) :=
  ⟨fun f0 h0 => (ps_while hp (hc.run f0 h0) (hb.run f0 h0)).imp fun D σ H ⟨Hf, Γ, fr, st, p⟩ => by
    refine ⟨fun m σ H => ∃ Hf2 Γ2, Same Hf Hf2 ∧ StOk (gh X W f0 h0).h Hf2 H σ Γ2 fr ∧ PostS (gh X W f0 h0) D fr Hf2 (sWhile t fb m Γ2), ⟨n, Hf, Γ, Same.refl _, st, p⟩, ?_⟩
    rintro m σ2 H2 ⟨Hf2, Γ2, s2, st2, q2⟩
    cases m with
    | zero => exact q2.elim
    | succ m =>
      refine ⟨Hf2, Γ2, fr, st2, PostS.bind q2 fun k Γ3 _ v H3 Hf3 s3 ⟨st3, e⟩ q => ?_⟩
      subst e
      cases v with
      | false => exact q σ2 H3 Hf3 (Same.refl _) st3
      | true =>
        rw [if_pos rfl] at q ⊢
        refine ⟨fun σ' H' => ∃ Hf2 Γ2, Same Hf Hf2 ∧ StOk (gh X W f0 h0).h Hf2 H' σ' Γ2 fr ∧ PostS (gh X W f0 h0) D fr Hf2 (sWhile t fb m Γ2), fun σ' H' n => ⟨m, Nat.lt_succ_self _, n⟩, Hf3, Γ3, fr, st3, ?_⟩
        have sA : Same Hf Hf3 := s2.trans s3
        cases hb : fb Γ3 with
        | nx Γ4 =>
          rw [hb] at q
          exact fun σ5 H5 Hf5 s5 st5 => ⟨Hf5, Γ4, sA.trans s5, st5, PostS.mono q s5⟩
        | ct Γ4 =>
          rw [hb] at q
          exact fun σ5 H5 Hf5 s5 st5 => ⟨Hf5, Γ4, sA.trans s5, st5, PostS.mono q s5⟩
        | bk Γ4 => rw [hb] at q; exact q
        | rt x Γ4 => rw [hb] at q; exact q
        | ex e Γ4 => rw [hb] at q; exact q
        | st => rw [hb] at q; exact q.elim⟩
end

/-! ### a def -/
def st0 (n : Nat) (ds : List D) : Ev := ds.map (fun d => some (.z, d)) ++ List.replicate (n - ds.length) none
def runD (n k : Nat) (f : Ev → SO) : List D → Res := fun ds => if ds.length = k then (match f (st0 n ds) with
  | .nx _ => .ok (.z, .none)
  | .rt x _ => .ok x
  | .ex e _ => .ex e
  | _ => .st) else .st
end PV
namespace PV
open PySem PySem.Spec PyProof.Rows L2

/-! ### a def -/
theorem st0_get {n i : Nat} {ds : List D} {x : Va} (h : (st0 n ds)[i]? = some (some x)) : ∃ d, ds[i]? = some d ∧ x = (.z, d) := by
  unfold st0 at h
  by_cases c : i < ds.length
  · rw [List.getElem?_append_left (by simpa using c), List.getElem?_map] at h
    cases e : ds[i]? with
    | none => rw [e] at h; cases h
    | some d =>
      rw [e] at h
      exact ⟨d, rfl, (Option.some.inj (Option.some.inj h)).symm⟩
  · rw [List.getElem?_append_right (by simpa using Nat.le_of_not_lt c)] at h
    rw [List.getElem?_replicate] at h
    split at h <;> cases h
section
variable {P : Program} {w : World} {K : PySem.W.Frag} {mg : Str → Option Value} {base : Heap}
theorem st_start {N : List Str} {Hf H : Hp} {vs : List V} {ds : List D} (s : Same Hf H) (f : FzAll K Hf vs ds) : StOk ⟨K, Hf, H⟩ Hf H (L2.start N vs) (st0 N.length ds) [] := by
  refine ⟨fun _ => none, Same.refl _, s, Same.refl _, fun a n => .inl n, (fun a i e => nomatch e), ?_, fun i x e => ?_, trivial⟩
  · unfold st0 L2.start
    rw [List.length_append, List.length_append, List.length_map, List.length_map, List.length_replicate, List.length_replicate, f.length]
  · obtain ⟨d, e1, rfl⟩ := st0_get e
    obtain ⟨v, e2, z⟩ := f.get e1
    refine ⟨v, ?_, [], ⟨rfl, z⟩, List.nodup_nil, fun _ z => nomatch z⟩
    have c : i < vs.length := (List.getElem?_eq_some_iff.mp e2).1
    unfold L2.start
    rw [List.getElem?_append_left (by simpa using c), List.getElem?_map, e2]
    rfl
theorem fin_new {g : Gh} {Hf' H' : Hp} {σ : St} {Γ : Ev} {v : V} {x : Va} {fr : List (V × Va)} (st : StOk g Hf' H' σ Γ ((v, x) :: fr)) : NewV g.K g.f0 g.h0 H' Hf' v x := by
  obtain ⟨ω, st⟩ := st
  obtain ⟨A, o, nd, hA⟩ := st.fr.1
  exact ⟨st.base, st.old, st.sub, st.new, A, o, nd, fun a ha => ⟨(st.own a _ (hA a ha)).1, (st.own a _ (hA a ha)).2.1⟩⟩
abbrev cxX (P : Program) (w : World) (K : PySem.W.Frag) (mg : Str → Option Value) (base : Heap) (N : List Str) (qual : Str) (sc : Scope) (f : Addr) (cdv : Value) (A : Around) (outer : List Env) (s : Shared) (H : Hp) (E : XK) : Cx := cxOf (L2.CX P w) P w K mg base N qual sc f cdv A outer s H E
/-- THE RULE for a def: its body computes fb -/
theorem fn_ok {x qual : Str} {stm : Stmt} {f : Addr} {fd : FuncData} {N ps : List Str} {k : Nat} {fb : Ev → SO} (F : Fun K x qual stm f fd) (S : FnScope N ps (defScope stm))
    (hbody : ∀ (cdv : Value) (A : Around) (outer : List Env) (s : Shared) (H : Hp) (E : XK) (W : WX), Room k (cxX P w K mg base N qual (defScope stm) f cdv A outer s H E).A → Takes (cxX P w K mg base N qual (defScope stm) f cdv A outer s H E) W →
      PassesOwn (model P w) (cxX P w K mg base N qual (defScope stm) f cdv A outer s H E).A (cxX P w K mg base N qual (defScope stm) f cdv A outer s H E).env (cxX P w K mg base N qual (defScope stm) f cdv A outer s H E).xe →
      PSts (cxX P w K mg base N qual (defScope stm) f cdv A outer s H E) W (defBody stm) fb) : FnOk P w K mg base (L2.CX P w) (k + 1) f fd ps (spV K mg ps.length (runD N.length ps.length fb)) := by
  refine F.okX S (fun vs H Q E h => ?_) (fun cdv A outer s H vs Q E hr h => ?_)
  · obtain ⟨Hf, ds, e, _, f, _⟩ := h
    rw [f.length, e]
  · obtain ⟨Hf, ds, e, sH, fz, h⟩ := h
    refine ⟨_, (hbody cdv A outer s H E (fun cls d _ H' => E cls d H') hr (takes_of rfl rfl rfl rfl) (passes_of rfl)).run Hf H, ?_⟩
    refine ⟨Hf, st0 N.length ds, [], st_start sH fz, ?_⟩
    unfold runD at h
    rw [if_pos e] at h
    cases hb : fb (st0 N.length ds) with
    | nx Γ' =>
      rw [hb] at h
      exact fun σ' H' Hf' s' st' => h .non H' Hf' (fin_new (st'.push .non))
    | rt x Γ' =>
      rw [hb] at h
      exact fun v σ' H' Hf' s' st' => h v H' Hf' (fin_new st')
    | ex e Γ' =>
      rw [hb] at h
      intro σ' cls dx H' Hf' s' x st'
      obtain ⟨ω, st'⟩ := st'
      exact h cls dx H' Hf' st'.base st'.old st'.sub st'.new x
    | bk Γ' => rw [hb] at h; exact h.elim
    | ct Γ' => rw [hb] at h; exact h.elim
    | st => rw [hb] at h; exact h.elim
end

/-! ### comprehensions -/
abbrev W0 : WX := fun _ _ _ _ => False
structure PBs (X : Cx) (W : WX) (es : List Expr) (c : Ev → Out Bool) : Prop where
  run : ∀ f0 h0, PTs X es (tT (gh X W f0 h0) c)
def bYes : Ev → Out Bool := fun Γ => .ok true Γ
theorem _root_.L2.PTs.imp {X : Cx} {e : List Expr} {t t' : TT} (h : PTs X e t) (k : ∀ σ H Q, t' σ H Q → t σ H Q) : PTs X e t' := ⟨fun pins s σ H Q I q => h.run pins s σ H Q I (k σ H Q q)⟩
theorem pbs_n {X : Cx} {W : WX} : PBs X W [] bYes := ⟨fun f0 h0 => pts_nil.imp fun σ H Q ⟨Hf, Γ, fr, st, p⟩ => p true H Hf (Same.refl _) ⟨st, rfl⟩⟩
theorem pbs_1 {X : Cx} {W : WX} {e : Expr} {c : Ev → Out Bool} (h : PB X W e c) : PBs X W [e] c := ⟨fun f0 h0 => pts_one (h.run f0 h0)⟩
def wipeG (Γ : Ev) : List Nat → Ev
  | [] => Γ
  | i :: is => (wipeG Γ is).set i none
def restG (Γ1 : Ev) (Γ : Ev) : List Nat → Ev
  | [] => Γ
  | i :: is => match Γ1[i]? with
    | some (some (.z, d)) => (restG Γ1 Γ is).set i (some (.z, d))
    | _ => restG Γ1 Γ is
def compL (is : List Nat) (t : D → Ev → Option Ev) (c : Ev → Out Bool) (fe : Ev → Out D) : List D → Ev → Option (List D × Ev)
  | [], Γ => some ([], Γ)
  | d :: ds, Γ => match t d Γ with
    | none => none
    | some Γ1 => match c Γ1 with
      | .ok true Γ2 => (match fe Γ2 with
        | .ok e Γ3 => (compL is t c fe ds (wipeG Γ3 is)).map fun p => (e :: p.1, p.2)
        | _ => none)
      | .ok false Γ2 => compL is t c fe ds (wipeG Γ2 is)
      | _ => none
def vComp (is : List Nat) (f : Ev → Out (List D)) (t : D → Ev → Option Ev) (c : Ev → Out Bool) (fe : Ev → Out D) : Ev → Out Va := fun Γ => (f Γ).bind fun ds Γ1 => if ds.length ≤ 16777216 then
    (match compL is t c fe ds (wipeG Γ1 is) with | some (es, Γ2) => .ok (.l .z, .list es) (restG Γ1 Γ2 is) | none => .st) else .st
theorem wipeG_len {Γ : Ev} : ∀ {is : List Nat}, (wipeG Γ is).length = Γ.length
  | [] => rfl
  | i :: is => by unfold wipeG; rw [List.length_set, wipeG_len]
theorem wipeG_get {Γ : Ev} {i : Nat} {x : Va} : ∀ {is : List Nat}, (wipeG Γ is)[i]? = some (some x) → Γ[i]? = some (some x) ∧ i ∉ is
  | [], h => ⟨h, fun z => nomatch z⟩
  | j :: js, h => by
    unfold wipeG at h
    by_cases e : j = i
    · subst e
      rw [List.getElem?_set] at h
      simp at h
    · rw [List.getElem?_set_ne e] at h
      obtain ⟨h1, h2⟩ := wipeG_get h
      exact ⟨h1, fun z => (List.mem_cons.mp z).elim (fun q => e q.symm) h2⟩
section
variable {g : Gh} {Hf H : Hp} {σ : St} {Γ : Ev} {fr : List (V × Va)}
/-- the list on the top of the frame is rewritten with frozen items -/
theorem StOk.mutTop {ds ds' : List D} {a : Addr} {vs' : List V} (h : StOk g Hf H σ Γ ((.ref a, (.l .z, .list ds)) :: fr)) (hv : FzAll g.K Hf vs' ds') : StOk g Hf (upd H a (.lst vs')) σ Γ ((.ref a, (.l .z, .list ds')) :: fr) := by
  obtain ⟨ω, h⟩ := h
  obtain ⟨⟨A, o, nd, hA⟩, hr⟩ := h.fr
  obtain ⟨a', vs, ds0, B, e1, e2, e3, r, e4⟩ := o
  cases e1
  have wa : ω a = some (.inr fr.length) := hA a (by rw [e4]; exact List.mem_cons_self)
  have ow := h.own a _ wa
  have k : ∀ b j, j ≠ Sum.inr fr.length → ω b = some j → upd H a (.lst vs') b = H b := fun b j hj e => upd_ne (fun z => hj (by rw [z, wa] at e; exact (Option.some.inj e).symm))
  refine ⟨ω, fun b o e => ?_, fun b o e => ?_, h.old, h.new, fun b j e => ⟨(h.own b j e).1, (h.own b j e).2.1, ?_⟩, h.len, fun j y e' => ?_, ⟨⟨[a], ⟨a, vs', ds', [], rfl, rfl, upd_same, OwnL.of_zs hv, rfl⟩, by simp, fun b hb => by rw [List.mem_singleton.mp hb]; exact wa⟩, hr.mono (Same.refl _) fun b j hj e => ⟨k b (.inr j) (fun z => by cases z; exact absurd hj (Nat.lt_irrefl _)) e, e⟩⟩⟩
  · rw [upd_ne (ne_of_none e ow.1)]; exact h.base b o e
  · rw [upd_ne (ne_of_none e ow.2.1)]; exact h.sub b o e
  · by_cases z : b = a
    · subst z; rw [upd_same]; exact fun z => nomatch z
    · rw [upd_ne z]; exact (h.own b j e).2.2
  · obtain ⟨w, e2, q⟩ := h.slots j y e'
    exact ⟨w, e2, q.mono (Same.refl _) fun b e => ⟨k b (.inl j) (fun z => nomatch z) e, e⟩⟩
theorem StOk.topL {ds : List D} {a : Addr} (h : StOk g Hf H σ Γ ((.ref a, (.l .z, .list ds)) :: fr)) : ∃ vs, H a = some (.lst vs) ∧ FzAll g.K Hf vs ds := by
  obtain ⟨ω, h⟩ := h
  obtain ⟨A, o, nd, hA⟩ := h.fr.1
  obtain ⟨a', vs, ds0, B, e1, e2, e3, r, e4⟩ := o
  cases e1
  cases e2
  exact ⟨vs, e3, r.zs.2⟩
theorem StOk.addZ {i : Nat} {v : V} {d : D} (h : StOk g Hf H σ Γ fr) (hi : σ[i]? = some (some v)) (z : Fz g.K Hf v d) : StOk g Hf H σ (Γ.set i (some (.z, d))) fr := by
  have := (h.push z).store i
  have e : σ.set i (some v) = σ := by
    apply List.ext_getElem?
    intro j
    by_cases hj : i = j
    · subst hj
      rw [List.getElem?_set_self (List.getElem?_eq_some_iff.mp hi).1, hi]
    · rw [List.getElem?_set_ne hj]
  rw [e] at this
  exact this
theorem StOk.wipe (h : StOk g Hf H σ Γ fr) (is : List Nat) : StOk g Hf H (L2.wipe σ is) (wipeG Γ is) fr := by
  have hl : Γ.length = σ.length := by
    obtain ⟨ω, h⟩ := h
    exact h.len
  refine h.weak (by rw [wipeG_len, wipe_length, hl]) fun i x e => ?_
  obtain ⟨h1, h2⟩ := wipeG_get e
  exact ⟨h1, wipe_out h2⟩
theorem wipeG_none {Γ : Ev} {is : List Nat} : ∀ j ∈ is, ∀ x, (wipeG Γ is)[j]? ≠ some (some x) := fun j hj x e => (wipeG_get e).2 hj
/-- back from a block -/
theorem StOk.rest {Γ1 : Ev} {Hf1 H1 : Hp} {fr1 : List (V × Va)} (h1 : StOk g Hf1 H1 σ Γ1 fr1) (s : Same Hf1 Hf) {is : List Nat} (h : StOk g Hf H (L2.wipe σ is) Γ fr) (hn : ∀ j ∈ is, ∀ x, Γ[j]? ≠ some (some x)) : ∀ js : List Nat, StOk g Hf H σ (restG Γ1 Γ js) fr := by
  have hl : Γ.length = σ.length := by
    obtain ⟨ω, h⟩ := h
    rw [h.len, wipe_length]
  have h0 : StOk g Hf H σ Γ fr := h.weak hl fun i x e => ⟨e, (wipe_out fun hi => hn i hi x e).symm⟩
  intro js
  induction js with
  | nil => exact h0
  | cons j js ih =>
    unfold restG
    split
    · rename_i d e
      obtain ⟨v, e1, z⟩ := h1.getZ e
      exact ih.addZ e1 (z.mono s)
    · exact ih
theorem StOk.back {σ2 : St} (h : StOk g Hf H σ2 Γ fr) {is : List Nat} (e : L2.wipe σ2 is = L2.wipe σ is) : StOk g Hf H (L2.wipe σ is) (wipeG Γ is) fr := by
  rw [← e]
  exact h.wipe is
end
section
variable {X : Cx} {W : WX}
theorem comp_core {g : GW} {is : List Nat} {f : Ev → Out (List D)} {t : D → Ev → Option Ev} {c : Ev → Out Bool} {fe : Ev → Out D} {σ : St} {H : Hp} {Q : VK} (h : tV g (vComp is f t c fe) σ H Q) :
    tLc (tI g f) (tG g is t) (tT ⟨g.h, g.mg, W0⟩ c) (tF ⟨g.h, g.mg, W0⟩ fe) is σ H Q := by
  obtain ⟨Hf, Γ, fr, st, p⟩ := h
  refine ⟨Hf, Γ, fr, st, Post.bind p fun ds Γ1 _ J H1 Hf1 s1 ⟨st1, it⟩ q => ?_⟩
  split at q
  · rename_i lenOk
    cases hc : compL is t c fe ds (wipeG Γ1 is) with
    | none => rw [hc] at q; exact q.elim
    | some r =>
      obtain ⟨es, Γ2⟩ := r
      rw [hc] at q
      intro a na
      have stD : StOk g.h Hf1 (upd H1 a (.lst [])) (wipe σ is) (wipeG Γ1 is) ((.ref a, (.l .z, .list [])) :: fr) := ((st1.pushN (NewV.lst st1.sub na .nil)).wipe is)
      refine ⟨fun i m H => m = ds.length - i ∧ i ≤ ds.length ∧ ∃ Hf2 Γ3 acc es', Same Hf1 Hf2 ∧ acc.length ≤ i ∧ StOk g.h Hf2 H (wipe σ is) Γ3 ((.ref a, (.l .z, .list acc)) :: fr) ∧ (∀ j ∈ is, ∀ x, Γ3[j]? ≠ some (some x)) ∧
        compL is t c fe (ds.drop i) Γ3 = some (es', Γ2) ∧ acc ++ es' = es, ⟨_, rfl, Nat.zero_le _, Hf1, _, [], es, Same.refl _, Nat.le_refl _, stD, wipeG_none, hc, rfl⟩, ?_⟩
      rintro i m H2 ⟨rfl, hi, Hf2, Γ3, acc, es', s2, la, st2, hn, hcl, rfl⟩
      obtain ⟨g1, g2⟩ := it i Hf2 H2 s2 st2.sub
      cases h : ds[i]? with
      | none =>
        rw [List.drop_eq_nil_of_le (List.getElem?_eq_none_iff.mp h)] at hcl
        have hcl' : ([], Γ3) = (es', Γ2) := Option.some.inj hcl
        cases hcl'
        rw [List.append_nil] at q
        exact .inl ⟨g2 h, q _ H2 Hf2 s2 (StOk.rest st1 s2 st2 hn is)⟩
      | some d =>
        obtain ⟨go, yl⟩ := g1 d h
        have hlt := (List.getElem?_eq_some_iff.mp h).1
        have ed : ds.drop i = d :: ds.drop (i + 1) := by
          rw [List.drop_eq_getElem_cons hlt]
          rw [List.getElem?_eq_getElem hlt] at h
          rw [Option.some.inj h]
        rw [ed] at hcl
        refine .inr ⟨go, fun H' => (i + 1 ≤ ds.length ∧ ∃ Hf2 Γ3 acc' es'', Same Hf1 Hf2 ∧ acc'.length ≤ i + 1 ∧ StOk g.h Hf2 H' (wipe σ is) Γ3 ((.ref a, (.l .z, .list acc')) :: fr) ∧ (∀ j ∈ is, ∀ x, Γ3[j]? ≠ some (some x)) ∧
          compL is t c fe (ds.drop (i + 1)) Γ3 = some (es'', Γ2) ∧ acc' ++ es'' = acc ++ es'), fun H' n => ⟨ds.length - (i + 1), by omega, rfl, n⟩, fun x H' y => ?_⟩
        obtain ⟨Hf3, a1, a2, a3, a4, z⟩ := yl x H' y
        have st3 := st2.freeze a1 a2 a3 a4
        unfold compL at hcl
        cases ht : t d Γ3 with
        | none => rw [ht] at hcl; cases hcl
        | some Γ4 =>
          rw [ht] at hcl
          dsimp only at hcl
          refine ⟨Hf3, Γ3, _, d, st3, z, Γ4, ht, fun σ5 H5 Hf5 s5 st5 w5 => ?_⟩
          have w5' : wipe σ5 is = wipe σ is := by
            rw [w5]
            have : ∀ js : List Nat, (∀ j ∈ js, j ∈ is) → wipe (wipe σ is) js = wipe σ is := fun js => by
              induction js with
              | nil => intro _; rfl
              | cons j js ih =>
                intro hj
                show (wipe (wipe σ is) js).set j none = wipe σ is
                rw [ih fun k hk => hj k (List.mem_cons_of_mem _ hk)]
                have hj' := hj j List.mem_cons_self
                apply List.ext_getElem?
                intro k
                by_cases e : j = k
                · subst e
                  rw [List.getElem?_set]
                  have : ∀ {l : List Nat}, j ∈ l → ∀ {τ : St}, (wipe τ l)[j]? = if j < τ.length then some none else none := fun {l} hl {τ} => by
                    induction l with
                    | nil => cases hl
                    | cons b l ih2 =>
                      show ((wipe τ l).set b none)[j]? = _
                      by_cases e2 : b = j
                      · subst e2
                        rw [List.getElem?_set]
                        simp [wipe_length]
                      · rw [List.getElem?_set_ne e2]
                        exact ih2 ((List.mem_cons.mp hl).resolve_left (fun z => e2 z.symm))
                  rw [this hj' (τ := σ)]
                  simp [wipe_length]
                · rw [List.getElem?_set_ne e]
            exact this is fun j hj => hj
          refine ⟨w5', Hf5, Γ4, _, st5, ?_⟩
          have sA : Same Hf1 Hf5 := (s2.trans a2).trans s5
          cases hcc : c Γ4 with
          | ex e Γ5 => rw [hcc] at hcl; cases hcl
          | st => rw [hcc] at hcl; cases hcl
          | ok k Γ5 =>
            rw [hcc] at hcl
            intro k' H6 Hf6 s6 ⟨st6, ek⟩
            subst ek
            cases k' with
            | false =>
              dsimp only at hcl
              rw [if_neg Bool.false_ne_true]
              exact ⟨hlt, Hf6, _, acc, es', sA.trans s6, by omega, st6.back w5', wipeG_none, hcl, rfl⟩
            | true =>
              dsimp only at hcl
              rw [if_pos rfl]
              refine ⟨Hf6, Γ5, _, st6, ?_⟩
              cases he : fe Γ5 with
              | ex e Γ6 => rw [he] at hcl; cases hcl
              | st => rw [he] at hcl; cases hcl
              | ok e Γ6 =>
                rw [he] at hcl
                dsimp only at hcl
                intro v H7 Hf7 s7 ⟨st7, z7⟩
                obtain ⟨vs, e8, f8⟩ := st7.topL
                cases hr : compL is t c fe (ds.drop (i + 1)) (wipeG Γ6 is) with
                | none => rw [hr] at hcl; cases hcl
                | some r =>
                  obtain ⟨es2, Γ7⟩ := r
                  rw [hr] at hcl
                  cases hcl
                  refine ⟨vs, e8, ?_, hlt, Hf7, _, acc ++ [e], es2, (sA.trans s6).trans s7, ?_, (st7.mutTop (f8.append (.cons z7 .nil))).back w5', wipeG_none, hr, ?_⟩
                  · rw [f8.length, sizeLine_eq]; omega
                  · rw [List.length_append, List.length_singleton]; omega
                  · rw [List.append_assoc]; rfl
  · exact q.elim
end
end PV
namespace PV
open PySem PySem.Spec PyProof.Rows L2

/-! ### comprehensions, the rules -/
section
variable {X : Cx} {W : WX}
theorem pv_lc {elt tg iter : Expr} {ifs : List Expr} {scope : Scope} {own : List (Str × Nat)} {pos : Pos} {f : Ev → Out (List D)} {t : D → Ev → Option Ev} {c : Ev → Out Bool} {fe : Ev → Out D} (hc : X.calm = true) (hN : X.N.Nodup) (ok : BlkOk X.N X.env.scope scope own) (hi : PIt X W tg iter f)
    (hg : ∀ (s : Shared) (H : L2.Hp) (C : Addr) (cl : List (Str × Addr)) (fp : List Addr), PGt (X.blk s H scope (compEnvC scope cl C X.env) fp) tg (own.map (·.2)) t)
    (ht : ∀ (s : Shared) (H : L2.Hp) (C : Addr) (cl : List (Str × Addr)) (fp : List Addr), PBs (X.blk s H scope (compEnvC scope cl C X.env) fp) W0 ifs c)
    (he : ∀ (s : Shared) (H : L2.Hp) (C : Addr) (cl : List (Str × Addr)) (fp : List Addr), PF (X.blk s H scope (compEnvC scope cl C X.env) fp) W0 elt fe) (hs : ∀ x, foldedSetIterable iter X.env x = pure x := by intro _; rfl) :
    PV X W (.ListComp elt [⟨tg, iter, ifs, 0⟩] scope pos) (vComp (own.map (·.2)) f t c fe) :=
  ⟨fun f0 h0 => (pe_lc hc hN (hi.run f0 h0) ok (fun s H C cl fp => (hg s H C cl fp).run (gh X W f0 h0) rfl) (fun s H C cl fp => (ht s H C cl fp).run f0 h0) (fun s H C cl fp => (he s H C cl fp).run f0 h0) hs).imp fun σ H Q h => comp_core (g := gh X W f0 h0) h⟩
theorem ps_lc (i : Nat) {y : Str} {py : Pos} {elt tg iter : Expr} {ifs : List Expr} {scope : Scope} {own : List (Str × Nat)} {pos spos : Pos} {f : Ev → Out (List D)} {t : D → Ev → Option Ev} {c : Ev → Out Bool} {fe : Ev → Out D} (hc : X.calm = true) (hN : X.N.Nodup) (ok : BlkOk X.N X.env.scope scope own)
    (hy : X.N[i]? = some y) (hyl : X.env.scope.names.lookup y = some .local) (hsw : swapsWith (.ListComp elt [⟨tg, iter, ifs, 0⟩] scope pos) (some (.Name y py)) spos.line X.env = pure true) (hi : PIt X W tg iter f)
    (hg : ∀ (s : Shared) (H : L2.Hp) (C : Addr) (cl : List (Str × Addr)) (fp : List Addr), PGt (X.blk s H scope (compEnvC scope cl C X.env) fp) tg (own.map (·.2)) t)
    (ht : ∀ (s : Shared) (H : L2.Hp) (C : Addr) (cl : List (Str × Addr)) (fp : List Addr), PBs (X.blk s H scope (compEnvC scope cl C X.env) fp) W0 ifs c)
    (he : ∀ (s : Shared) (H : L2.Hp) (C : Addr) (cl : List (Str × Addr)) (fp : List Addr), PF (X.blk s H scope (compEnvC scope cl C X.env) fp) W0 elt fe) (hs : ∀ x, foldedSetIterable iter X.env x = pure x := by intro _; rfl) :
    PSt X W (.Assign [.Name y py] (.ListComp elt [⟨tg, iter, ifs, 0⟩] scope pos) spos) (sAsg i (vComp (own.map (·.2)) f t c fe)) :=
  ⟨fun f0 h0 => (ps_setLc hc hN hy hyl hsw (hi.run f0 h0) ok (fun s H C cl fp => (hg s H C cl fp).run (gh X W f0 h0) rfl) (fun s H C cl fp => (ht s H C cl fp).run f0 h0) (fun s H C cl fp => (he s H C cl fp).run f0 h0) hs).imp fun D σ H ⟨Hf, Γ, fr, st, p⟩ =>
    comp_core (g := gh X W f0 h0) ⟨Hf, Γ, fr, st, PostS.bind p fun x Γ1 _ v H1 Hf1 s1 st1 q => q _ H1 Hf1 (Same.refl _) (st1.store i)⟩⟩
end

/-! ### raise, try -/
def sRaise (e : Exc) : Ev → SO := fun Γ => .ex e Γ
def sTry (m : Str → Option Bool) (fb fs : Ev → SO) : Ev → SO := fun Γ => match fb Γ with
  | .ex e Γ1 => (match m e.c with
    | some true => (match fs Γ1 with | .ex _ _ => .st | r => r)
    | some false => .ex e Γ1
    | none => .st)
  | r => r
section
variable {X : Cx} {W : WX} {pos : Pos}
theorem ps_rs {x m : Str} {j : Nat} {p p2 cpos : Pos} {C : Addr} {bmB : List Value} {B newId initId : String} (hc : X.calm = true) (tk : Takes X W) (F : ExcBaseFacts B newId initId bmB) (q : PySem.W.excIn X.K C bmB newId = true) (gC : X.mg x = some (.ref C)) (kC : PySem.W.keepIn X.K (.ref C) = true)
    (r : Raises X (.ref C)) (hg : Gl X x) (hdb : (x == ("__debug__" : Str)) = false := by decide) : PSt X W (.Raise (some (.Call (.Name x p) [.Constant (.str m) j p2] [] cpos)) none pos) (sRaise ⟨x, []⟩) :=
  ⟨fun f0 h0 => (ps_raise hc tk (pmk_own F q gC kC r hg hdb)).imp fun D σ H ⟨Hf, Γ, fr, st, p⟩ => p σ (.ref C) none H Hf (Same.refl _) ⟨gC, .inl ⟨rfl, rfl⟩⟩ st⟩
theorem ps_try {x : Str} {c : Value} {body suite : List Stmt} {b₀ : Stmt} {np pos' : Pos} {m : Str → Option Bool} {fb fs : Ev → SO} (hs : X.stack = X.env :: X.outer) (hf : X.env.frame = some X.env.locals) (hc : Names X x c) (tk : Takes X W)
    (hm : ∀ n b cls, m n = some b → X.mg n = some cls → PySem.W.exmOne X.K cls c = some b)
    (hb : ∀ (W' : WX) (pn : List (Addr × Obj)) (xe : Value → Shared → Prop), Takes (X.tr pn xe) W' → PassesOwn (model X.prog X.w) X.A X.env xe → PSts (X.tr pn xe) W' body fb)
    (hsu : ∀ (a : Addr) (pn : List (Addr × Obj)), PSts (X.suite a pn) W0 (b₀ :: suite) fs) : PSt X W (.Try body [.ExceptHandler (some (.Name x np)) none (b₀ :: suite) pos'] [] [] pos) (sTry m fb fs) :=
  ⟨fun f0 h0 => (ps_try_only (tb := fun W' => tS ⟨⟨X.K, f0, h0⟩, X.mg, W'⟩ fb) (ts := fun a cls d => tS ⟨⟨X.K, f0, h0⟩, X.mg, W0⟩ fs) hs hf hc tk (fun W' pn xe tk' pw => (hb W' pn xe tk' pw).run f0 h0) (fun a oe cls d pn _ _ => (hsu a _).run f0 h0)).imp fun D σ H ⟨Hf, Γ, fr, st, p⟩ => by
    refine ⟨Hf, Γ, fr, st, ?_⟩
    unfold sTry at p
    cases h : fb Γ with
    | nx Γ1 => rw [h] at p; exact p
    | rt x Γ1 => rw [h] at p; exact p
    | bk Γ1 => rw [h] at p; exact p
    | ct Γ1 => rw [h] at p; exact p
    | st => rw [h] at p; exact p
    | ex e Γ1 =>
      rw [h] at p
      dsimp only at p
      intro σ' cls dx H' Hf' s' xo st'
      cases hmm : m e.c with
      | none => rw [hmm] at p; exact p.elim
      | some b =>
        rw [hmm] at p
        refine ⟨b, hm e.c b cls hmm xo.1, fun eb a na => ?_, fun eb => ?_⟩
        · subst eb
          dsimp only at p
          refine ⟨Hf', Γ1, fr, st', ?_⟩
          cases hfs : fs Γ1 with
          | nx Γ2 => rw [hfs] at p; exact PostS.mono p s'
          | rt x Γ2 => rw [hfs] at p; exact PostS.mono p s'
          | bk Γ2 => rw [hfs] at p; exact PostS.mono p s'
          | ct Γ2 => rw [hfs] at p; exact PostS.mono p s'
          | ex e Γ2 => rw [hfs] at p; exact p.elim
          | st => rw [hfs] at p; exact p.elim
        · subst eb
          exact p σ' cls dx H' Hf' s' xo st'⟩
end

/-! ### constants of the module -/
/-- a value of the written part is this data, whatever the heap -/
def KD (K : PySem.W.Frag) (v : V) (d : D) : Prop := ∀ H, Fz K H v d
structure KTab (K : PySem.W.Frag) (w : World) (a : Addr) (tab : List (Str × Option D)) : Prop where
  kd : ∃ es n, KDict K w a es n
  no : ∀ x, (x, none) ∈ tab → PySem.W.nsIn K a x = some none
  yes : ∀ x d, (x, some d) ∈ tab → ∃ u v, PySem.W.nsIn K a x = some (some u) ∧ RelV v u ∧ KD K v d
def fIn (neg : Bool) (tab : List (Str × Option D)) (o : Opn) : Ev → Out D := fun Γ => (o.f Γ).bind fun d Γ1 => .of ((o.l Γ1 d).bind fun d => match d with
  | .str x => (tab.lookup x).map fun r => .bool (if neg then !r.isSome else r.isSome)
  | _ => none) Γ1
def fGet (tab : List (Str × Option D)) (o : Opn) : Ev → Out D := fun Γ => (o.f Γ).bind fun d Γ1 => .of ((o.l Γ1 d).bind fun d => match d with
  | .str x => (tab.lookup x).bind fun r => r
  | _ => none) Γ1
theorem mem_of_lookup' {α β : Type} [BEq α] [LawfulBEq α] {x : α} {y : β} : ∀ {l : List (α × β)}, l.lookup x = some y → (x, y) ∈ l
  | (a, b) :: l, h => by
    rw [List.lookup_cons] at h
    split at h
    · rename_i e
      have e' : x = a := eq_of_beq e
      cases h
      subst e'
      exact List.mem_cons_self
    · exact List.mem_cons_of_mem _ (mem_of_lookup' h)
section
variable {X : Cx} {W : WX} {e : Expr} {x : Str} {p pos : Pos} {a : Addr} {tab : List (Str × Option D)} {o : Opn}
theorem pf_gl {v : V} {u : Value} {d : D} (hg : Gl X x) (hm : X.mg x = some u) (r : RelV v u) (k : KD X.K v d) (hd : (x == ("__debug__" : Str)) = false := by decide) : PF X W (.Name x pos) (fC d) :=
  ⟨fun f0 h0 => (pe_glob hg hm r hd).imp fun σ H Q ⟨Hf, Γ, fr, st, p⟩ => p v H Hf (Same.refl _) ⟨st, k Hf⟩⟩
theorem in_core {g : GW} {w : World} (T : KTab g.h.K w a tab) {neg : Bool} {σ : St} {H : Hp} {Q : VK} (h : tF g (fIn neg tab o) σ H Q) :
    tOp (fun x y H Q => ∃ (z : Str) (r : Option Value), x = .str z ∧ y = .ref a ∧ PySem.W.nsIn g.h.K a z = some r ∧ Q (.bl (if neg then !r.isSome else r.isSome)) H) (tO g o) (tC (.ref a)) σ H Q := by
  obtain ⟨Hf, Γ, fr, st, p⟩ := h
  refine ⟨Hf, Γ, fr, st, Post.bind p fun d Γ1 _ v H1 Hf1 s1 ⟨st1, l1⟩ q => ?_⟩
  obtain ⟨c, e, q⟩ := Post.of q
  cases h : o.l Γ1 d with
  | none => rw [h] at e; cases e
  | some d' =>
    rw [h] at e
    have z := l1 Γ1 Hf1 H1 fr (Same.refl _) st1 d' h
    cases d' with
    | str x =>
      cases hl : tab.lookup x with
      | none =>
        have e' : (tab.lookup x).map (fun r => PyData.bool (if neg then !r.isSome else r.isSome)) = some c := e
        rw [hl] at e'; cases e'
      | some r =>
        have e' : (tab.lookup x).map (fun r => PyData.bool (if neg then !r.isSome else r.isSome)) = some c := e
        rw [hl] at e'
        cases e'
        cases z.str
        have mem := mem_of_lookup' hl
        cases r with
        | none => exact ⟨x, none, rfl, rfl, T.no x mem, q _ H1 Hf1 (Same.refl _) ⟨st1, .bl _⟩⟩
        | some d0 =>
          obtain ⟨u, v, e1, _⟩ := T.yes x d0 mem
          exact ⟨x, some u, rfl, rfl, e1, q _ H1 Hf1 (Same.refl _) ⟨st1, .bl _⟩⟩
    | _ => cases e
theorem pf_kin {nm : Str} {np : Pos} (T : KTab X.K X.w a tab) (he : PZ X W e o) (hg : Gl X nm) (hm : X.mg nm = some (.ref a)) (hd : (nm == ("__debug__" : Str)) = false := by decide) (hb : behindInMarks .In (.Name nm np) = false := by rfl) : PF X W (.Compare e [.In] [.Name nm np] pos) (fIn false tab o) :=
  ⟨fun f0 h0 => by
    obtain ⟨es, n, kd⟩ := T.kd
    exact (pe_cmpR (op_in_kd kd) (he.run f0 h0) (pe_glob hg hm (v := .ref a) rfl hd) hb).imp fun σ H Q h => in_core (g := gh X W f0 h0) T h⟩
theorem pf_knin {nm : Str} {np : Pos} (T : KTab X.K X.w a tab) (he : PZ X W e o) (hg : Gl X nm) (hm : X.mg nm = some (.ref a)) (hd : (nm == ("__debug__" : Str)) = false := by decide) (hb : behindInMarks .NotIn (.Name nm np) = false := by rfl) : PF X W (.Compare e [.NotIn] [.Name nm np] pos) (fIn true tab o) :=
  ⟨fun f0 h0 => by
    obtain ⟨es, n, kd⟩ := T.kd
    exact (pe_cmpR (op_notIn_kd kd) (he.run f0 h0) (pe_glob hg hm (v := .ref a) rfl hd) hb).imp fun σ H Q h => in_core (neg := true) (g := gh X W f0 h0) T h⟩
def bF (f : Ev → Out D) : Ev → Out Bool := fun Γ => (f Γ).bind fun d Γ1 => match d with | .bool b => .ok b Γ1 | _ => .st
theorem tTestF {g : GW} {t : TE} {f : Ev → Out D} {σ : St} {H : Hp} {Q : Bool → Hp → Prop} (hv : ∀ Q, tF g f σ H Q → t σ H Q) (h : tT g (bF f) σ H Q) : tTest t σ H Q := by
  obtain ⟨Hf, Γ, fr, st, p⟩ := h
  refine hv _ ⟨Hf, Γ, fr, st, Post.bind p fun d Γ1 _ v H1 Hf1 s1 ⟨st1, z⟩ q => ?_⟩
  cases d with
  | bool k =>
    cases z
    exact ⟨k, rfl, q k H1 Hf1 (Same.refl _) ⟨st1, rfl⟩⟩
  | _ => exact q.elim
theorem pb_kin {nm : Str} {np : Pos} (T : KTab X.K X.w a tab) (he : PZ X W e o) (hg : Gl X nm) (hm : X.mg nm = some (.ref a)) (hd : (nm == ("__debug__" : Str)) = false := by decide) (hb : behindInMarks .In (.Name nm np) = false := by rfl) : PB X W (.Compare e [.In] [.Name nm np] pos) (bF (fIn false tab o)) :=
  ⟨fun f0 h0 => by
    obtain ⟨es, n, kd⟩ := T.kd
    exact (pt_cmpR (op_in_kd kd) (he.run f0 h0) (pe_glob hg hm (v := .ref a) rfl hd) hb).imp fun σ H Q h => tTestF (f := fIn false tab o) (fun Q h => in_core (g := gh X W f0 h0) T h) h⟩
theorem pb_knin {nm : Str} {np : Pos} (T : KTab X.K X.w a tab) (he : PZ X W e o) (hg : Gl X nm) (hm : X.mg nm = some (.ref a)) (hd : (nm == ("__debug__" : Str)) = false := by decide) (hb : behindInMarks .NotIn (.Name nm np) = false := by rfl) : PB X W (.Compare e [.NotIn] [.Name nm np] pos) (bF (fIn true tab o)) :=
  ⟨fun f0 h0 => by
    obtain ⟨es, n, kd⟩ := T.kd
    exact (pt_cmpR (op_notIn_kd kd) (he.run f0 h0) (pe_glob hg hm (v := .ref a) rfl hd) hb).imp fun σ H Q h => tTestF (f := fIn true tab o) (fun Q h => in_core (neg := true) (g := gh X W f0 h0) T h) h⟩
theorem pf_kget {nm : Str} {np : Pos} (T : KTab X.K X.w a tab) (he : PZ X W e o) (hp : PlainIx e) (hg : Gl X nm) (hm : X.mg nm = some (.ref a)) (hd : (nm == ("__debug__" : Str)) = false := by decide) : PF X W (.Subscript (.Name nm np) e pos) (fGet tab o) :=
  ⟨fun f0 h0 => (pe_ix ix_kdict (pe_glob hg hm (v := .ref a) rfl hd) (he.run f0 h0) hp).imp fun σ H Q ⟨Hf, Γ, fr, st, p⟩ => ⟨Hf, Γ, fr, st, Post.bind p fun d Γ1 _ v H1 Hf1 s1 ⟨st1, l1⟩ q => by
    obtain ⟨c, e, q⟩ := Post.of q
    cases h : o.l Γ1 d with
    | none => rw [h] at e; cases e
    | some d' =>
      rw [h] at e
      have z := l1 Γ1 Hf1 H1 fr (Same.refl _) st1 d' h
      cases d' with
      | str x =>
        cases hl : tab.lookup x with
        | none =>
          have e' : (tab.lookup x).bind (fun r => r) = some c := e
          rw [hl] at e'; cases e'
        | some r =>
          have e' : (tab.lookup x).bind (fun r => r) = some c := e
          rw [hl] at e'
          have e2 : r = some c := e'
          subst e2
          cases z.str
          obtain ⟨u, v, e1, rv, k⟩ := T.yes x c (mem_of_lookup' hl)
          obtain ⟨es, n, kd⟩ := T.kd
          exact ⟨a, x, v, rfl, rfl, ⟨es, n, u, kd.at_, kd.lit, e1, rv⟩, q _ H1 Hf1 (Same.refl _) ⟨st1, k Hf1⟩⟩
      | _ => cases e⟩⟩
end
/-! ### frozen dicts -/
def dKey : D → Option Key
  | .int i => some (.inl i)
  | .str x => some (.inr x)
  | _ => none
def dLook : List (D × D) → Key → Option D
  | [], _ => none
  | (k, d) :: r, x => if dKey k = some x then some d else dLook r x
theorem dKey_kD (k : Key) : dKey (kD k) = some k := by cases k <;> rfl
theorem dKey_eq {d : D} {k : Key} (h : dKey d = some k) : d = kD k := by
  cases d <;> cases h <;> rfl
theorem look_ok {K : PySem.W.Frag} {Hf : Hp} (x : Key) : ∀ {kvs : List (Key × V)} {ds : List D}, FzAll K Hf (kvs.map (·.2)) ds → (valV kvs x = none ∧ dLook ((kvs.map fun p => kD p.1).zip ds) x = none) ∨ ∃ v d, valV kvs x = some v ∧ dLook ((kvs.map fun p => kD p.1).zip ds) x = some d ∧ Fz K Hf v d
  | [], _, _ => .inl ⟨rfl, by cases ‹List D› <;> rfl⟩
  | (k, v) :: kvs, _, .cons (d := d) (ds := ds) h r => by
    show (valV ((k, v) :: kvs) x = none ∧ (if dKey (kD k) = some x then some d else dLook ((kvs.map fun p => kD p.1).zip ds) x) = none) ∨ _
    rw [dKey_kD]
    by_cases e : k = x
    · subst e
      exact .inr ⟨v, d, by unfold valV; simp, by
        show (if dKey (kD k) = some k then some d else _) = some d
        rw [dKey_kD, if_pos rfl], h⟩
    · have n : ¬ (some k = some x) := fun z => e (Option.some.inj z)
      have e2 : valV ((k, v) :: kvs) x = valV kvs x := by
        unfold valV
        rw [List.find?_cons_of_neg (by simpa using e)]
      rw [if_neg n, e2]
      rcases look_ok x r with h | ⟨v', d', h1, h2, h3⟩
      · exact .inl h
      · exact .inr ⟨v', d', h1, by
          show (if dKey (kD k) = some x then some d else _) = some d'
          rw [dKey_kD, if_neg n]
          exact h2, h3⟩
end PV
namespace PV
open PySem PySem.Spec PyProof.Rows L2

/-! ### in, not in -/
theorem flat_of {K : PySem.W.Frag} {Hf : Hp} {v : V} {d : D} (h : Fz K Hf v d) (f : dFlat d = true) : flatV v = true := by
  cases h <;> first | rfl | cases f
theorem flat_all {K : PySem.W.Frag} {Hf : Hp} : ∀ {vs : List V} {ds : List D}, FzAll K Hf vs ds → ds.all dFlat = true → vs.all flatV = true
  | _, _, .nil, _ => rfl
  | _, _, .cons h r, f => by
    rw [List.all_cons, Bool.and_eq_true] at f ⊢
    exact ⟨flat_of h f.1, flat_all r f.2⟩
theorem eqV_flat {K : PySem.W.Frag} {Hf : Hp} {v w : V} {d e : D} (h : Fz K Hf v d) (h' : Fz K Hf w e) (f : dFlat d = true) (f' : dFlat e = true) : eqV v w = PyData.eqv d e := by
  cases h <;> cases h' <;> first
    | (simp only [eqV, PyData.eqv]; done)
    | (cases f; done)
    | (cases f'; done)
theorem inV_flat {K : PySem.W.Frag} {Hf : Hp} {x : V} {d : D} (h : Fz K Hf x d) (f : dFlat d = true) : ∀ {vs : List V} {ds : List D}, FzAll K Hf vs ds → ds.all dFlat = true → inV x vs = ds.any fun z => PyData.eqv z d
  | _, _, .nil, _ => rfl
  | _, _, .cons hz r, fa => by
    rw [List.all_cons, Bool.and_eq_true] at fa
    have ih := inV_flat h f r fa.2
    unfold inV at ih ⊢
    rw [List.any_cons, List.any_cons, ih, eqV_flat hz h fa.1 f]
def dInB : D → D → Option Bool
  | x, .list ds => if dFlat x && ds.all dFlat then some (ds.any fun z => PyData.eqv z x) else none
  | x, .tuple ds => if dFlat x && ds.all dFlat then some (ds.any fun z => PyData.eqv z x) else none
  | .str i, .str j => some (!(Builtin.Str.occurrences j i 0 j.length 1).isEmpty)
  | x, .dict [(.none, .tuple ds)] => if dFlat x && ds.all dFlat then some (ds.any fun z => PyData.eqv z x) else none
  | _, _ => none
def dIn (a b : D) : Option Va := b2 (dInB a b)
def dNin (a b : D) : Option Va := b2 ((dInB a b).map not)
def rInV (K : PySem.W.Frag) : R2 := fun x y H Q => rIn K false x y H Q ∨ ∃ i j, x = .str i ∧ y = .str j ∧ Q (.bl (!(Builtin.Str.occurrences j i 0 j.length 1).isEmpty)) H
def rNinV (K : PySem.W.Frag) : R2 := fun x y H Q => rIn K true x y H Q ∨ ∃ i j, x = .str i ∧ y = .str j ∧ Q (.bl (!(!(Builtin.Str.occurrences j i 0 j.length 1).isEmpty))) H
section
variable {X : Cx} {K : PySem.W.Frag}
theorem op_inV : OpR X (compareOp .In) (rInV X.K) := op_in_seq.or op_in_str
theorem op_ninV : OpR X (compareOp .NotIn) (rNinV X.K) := op_notIn_seq.or L2.op_notin_str
theorem inB_ok {Hf H : Hp} {x y : V} {dx dy : D} {c : Bool} (s : Same Hf H) (h1 : Fz1 K Hf H x dx) (h2 : Fz1 K Hf H y dy) (e : dInB dx dy = some c) :
    (∃ p xs, y = .ref p ∧ (SqL K H p xs ∨ SqT K H p xs) ∧ flatV x = true ∧ xs.all flatV = true ∧ inV x xs = c) ∨ ∃ i j, x = .str i ∧ y = .str j ∧ (!(Builtin.Str.occurrences j i 0 j.length 1).isEmpty) = c := by
  have fz : ∀ {d : D}, Fz1 K Hf H x d → dFlat d = true → Fz K Hf x d := fun {d} h f => by
    rcases h with h | ⟨a, vs, ds, rfl, rfl, h, r⟩
    · exact h
    · cases f
  unfold dInB at e
  split at e
  · split at e
    · rename_i hf
      rw [Bool.and_eq_true] at hf
      obtain ⟨a, vs, rfl, r, f⟩ := h2.list s
      have z := fz h1 hf.1
      refine .inl ⟨a, vs, rfl, .inl (SqL.of r), flat_of z hf.1, flat_all f hf.2, ?_⟩
      rw [inV_flat z hf.1 f hf.2]
      exact Option.some.inj e
    · cases e
  · split at e
    · rename_i hf
      rw [Bool.and_eq_true] at hf
      obtain ⟨a, vs, rfl, r, f⟩ := h2.tup
      have z := fz h1 hf.1
      refine .inl ⟨a, vs, rfl, .inr (Same.seqT s r), flat_of z hf.1, flat_all f hf.2, ?_⟩
      rw [inV_flat z hf.1 f hf.2]
      exact Option.some.inj e
    · cases e
  · exact .inr ⟨_, _, h1.str, h2.str, Option.some.inj e⟩
  · split at e
    · rename_i hf
      rw [Bool.and_eq_true] at hf
      obtain ⟨a, vs, rfl, r, f⟩ := h2.kt
      have z := fz h1 hf.1
      refine .inl ⟨a, vs, rfl, .inr (Same.seqT s r), flat_of z hf.1, flat_all f hf.2, ?_⟩
      rw [inV_flat z hf.1 f hf.2]
      exact Option.some.inj e
    · cases e
  · cases e
theorem ops_in : OpS K (rInV K) dIn := fun Hf H x y dx dy z Q s h1 h2 e q => by
  cases h : dInB dx dy with
  | none => rw [dIn, h] at e; cases e
  | some c =>
    rw [dIn, h] at e
    cases e
    have fin := q _ H Hf (.z s (.bl c))
    rcases inB_ok s h1 h2 h with ⟨p, xs, e1, e2, e3, e4, e5⟩ | ⟨i, j, e1, e2, e3⟩
    · exact .inl ⟨p, xs, e1, e2, e3, e4, by rw [if_neg Bool.false_ne_true, e5]; exact fin⟩
    · exact .inr ⟨i, j, e1, e2, by rw [e3]; exact fin⟩
theorem ops_nin : OpS K (rNinV K) dNin := fun Hf H x y dx dy z Q s h1 h2 e q => by
  cases h : dInB dx dy with
  | none => rw [dNin, h] at e; cases e
  | some c =>
    rw [dNin, h] at e
    cases e
    have fin := q _ H Hf (.z s (.bl (!c)))
    rcases inB_ok s h1 h2 h with ⟨p, xs, e1, e2, e3, e4, e5⟩ | ⟨i, j, e1, e2, e3⟩
    · exact .inl ⟨p, xs, e1, e2, e3, e4, by rw [if_pos rfl, e5]; exact fin⟩
    · exact .inr ⟨i, j, e1, e2, by rw [e3]; exact fin⟩
end

/-! ### frozen dicts: {}, d.get(k, x) -/
def fDct0 : Ev → Out D := fun Γ => .ok (.dict []) Γ
def fGet2 (fd fk fx : Ev → Out D) : Ev → Out D := fun Γ => (fd Γ).bind fun d Γ1 => match d with
  | .dict kvs => if (kvs.all fun p => (dKey p.1).isSome) = true then ((fk Γ1).bind fun k Γ2 => (fx Γ2).bind fun x Γ3 => .of ((dKey k).map fun y => (dLook kvs y).getD x) Γ3) else .st
  | _ => .st
theorem NewV.dct {K : PySem.W.Frag} {Hf H : Hp} {p : Addr} {kvs : List (Key × V)} {ds : List D} (s : Same Hf H) (n : H p = none) (h : FzAll K Hf (kvs.map (·.2)) ds) : NewV K Hf H (upd H p (.dK kvs)) (upd Hf p (.dK kvs)) (.ref p) (.z, .dict ((kvs.map fun p => kD p.1).zip ds)) := by
  have nf : Hf p = none := Same.free s n
  refine ⟨same_new n, same_new nf, fun b o e => ?_, fun b e => ?_, [], ⟨rfl, .dK (.inl upd_same) (h.mono (same_new nf))⟩, List.nodup_nil, fun _ z => nomatch z⟩
  · by_cases z : b = p
    · subst z; rw [upd_same] at e ⊢; exact e
    · rw [upd_ne z] at e ⊢; exact s b o e
  · by_cases z : b = p
    · subst z; exact .inr n
    · rw [upd_ne z] at e; exact .inl e
section
variable {X : Cx} {W : WX} {o e f : Expr} {pos apos cpos : Pos}
theorem pf_dct0 : PF X W (.Dict [] [] pos) fDct0 := ⟨fun f0 h0 => pe_dnewK.imp fun σ H Q ⟨Hf, Γ, fr, st, p⟩ a n => by
  have nv := NewV.dct (K := X.K) (kvs := []) (ds := []) st.sub n .nil
  have st1 := st.pushN nv
  exact p _ _ _ nv.f1 ⟨st1.pop, st1.top⟩⟩
theorem fz_dict {K : PySem.W.Frag} {Hf : Hp} {v : V} {kvs : List (D × D)} (h : Fz K Hf v (.dict kvs)) (hk : (kvs.all fun p => (dKey p.1).isSome) = true) : ∃ a kvs' ds, v = .ref a ∧ Rd Hf a (.dK kvs') ∧ FzAll K Hf (kvs'.map (·.2)) ds ∧ kvs = (kvs'.map fun p => kD p.1).zip ds := by
  generalize hd : PyData.dict kvs = d at h
  cases h with
  | scr ns h =>
    cases hd
    cases hk
  | raw a =>
    unfold rawD at hd
    cases hd
    cases hk
  | kt h r =>
    cases hd
    cases hk
  | dT h r =>
    cases hd
    cases hk
  | dN _ _ _ _ =>
    cases hd
    cases hk
  | rng _ _ _ =>
    cases hd
    cases hk
  | ob h r =>
    cases hd
    cases hk
  | dK h r =>
    cases hd
    exact ⟨_, _, _, rfl, h, r, rfl⟩
  | _ => cases hd
theorem pf_get2 {fd fk fx : Ev → Out D} (hu : X.A.units + 1 < cLine) (hd : PF X W o fd) (hk : PF X W e fk) (hx : PF X W f fx) (m : M2 X o "get" apos e f cpos) : PF X W (.Call (.Attribute o "get" apos) [e, f] [] cpos) (fGet2 fd fk fx) :=
  ⟨fun f0 h0 => (pe_dget2 hu (hd.run f0 h0) (hk.run f0 h0) (hx.run f0 h0) m).imp fun σ H Q ⟨Hf, Γ, fr, st, p⟩ => ⟨Hf, Γ, fr, st, Post.bind p fun d Γ1 _ v H1 Hf1 s1 ⟨st1, z⟩ q => by
    split at q
    · rename_i kvs
      split at q
      · rename_i hk
        obtain ⟨a, kvs', ds, rfl, ha, fd, rfl⟩ := fz_dict z hk
        refine ⟨a, rfl, .inl ⟨kvs', Same.rd st1.sub ha⟩, Hf1, Γ1, fr, st1, Post.bind q fun k Γ2 _ w H2 Hf2 s2 ⟨st2, zk⟩ q => ⟨Hf2, Γ2, fr, st2, Post.bind q fun x Γ3 _ u H3 Hf3 s3 ⟨st3, zx⟩ q => ?_⟩⟩
        obtain ⟨c, e, q⟩ := Post.of q
        cases hy : dKey k with
        | none => rw [hy] at e; cases e
        | some y =>
          rw [hy] at e
          cases e
          dsimp only at q
          have ek : w = kV y := by
            have := dKey_eq hy
            subst this
            cases y <;> cases zk <;> rfl
          have hb : Rd H3 a (.dK kvs') := Same.rd st3.sub (Same.rd (s2.trans s3) ha)
          refine ⟨valV kvs' y, by rw [ek]; exact .inl ⟨kvs', y, hb, rfl, rfl⟩, ?_⟩
          rcases look_ok y fd with ⟨h1, h2⟩ | ⟨v', d', h1, h2, h3⟩
          · rw [h1]
            rw [h2] at q
            exact q u H3 Hf3 (Same.refl _) ⟨st3, zx⟩
          · rw [h1]
            rw [h2] at q
            exact q v' H3 Hf3 (Same.refl _) ⟨st3, h3.mono (s2.trans s3)⟩
      · exact q.elim
    · exact q.elim⟩⟩
end
end PV
namespace PV
open PySem PySem.Spec PyProof.Rows L2

/-! ### list(range(n)), tuple(range(n)) -/
def vLR1 (f : Ev → Out D) : Ev → Out Va := fun Γ => (f Γ).bind fun d Γ1 => match d with | .int j => if 0 ≤ j ∧ j ≤ 16777216 then .ok (.l .z, .list (rangeL 0 j.toNat)) Γ1 else .st | _ => .st
def fTR1 (f : Ev → Out D) : Ev → Out D := fun Γ => (f Γ).bind fun d Γ1 => match d with | .int j => if 0 ≤ j ∧ j ≤ 16777216 then .ok (.tuple (rangeL 0 j.toNat)) Γ1 else .st | _ => .st
theorem fz_range {K : PySem.W.Frag} {Hf : Hp} (a b : Int) : FzAll K Hf (rgV a b) (rangeL a (b - a).toNat) := by
  have : ∀ l : List Nat, FzAll K Hf (l.map fun i => V.int (a + (i : Nat))) (l.map fun i => PyData.int (a + (i : Nat))) := fun l => by
    induction l with
    | nil => exact .nil
    | cons x l ih => exact .cons (.int _) ih
  exact this _
section
variable {X : Cx} {W : WX} {a b c : Expr} {p p2 pos pos2 : Pos}
theorem pv_lr1 {f : Ev → Out D} (hc : X.calm = true) (hg : Gl X "list") (hm : X.mg "list" = none) (hg2 : Gl X "range") (hm2 : X.mg "range" = none) (h : PF X W a f) (na : starEach [a] X.env = (false, eval a X.env) :: starEach [] X.env := by rfl)
    (na2 : starEach [.Call (.Name "range" p2) [a] [] pos2] X.env = (false, eval (.Call (.Name "range" p2) [a] [] pos2) X.env) :: starEach [] X.env := by rfl) : PV X W (.Call (.Name "list" p) [.Call (.Name "range" p2) [a] [] pos2] [] pos) (vLR1 f) :=
  ⟨fun f0 h0 => (pe_listRg hc hg hm (prg_1 hg2 hm2 (h.run f0 h0) na) na2).imp fun σ H Q ⟨Hf, Γ, fr, st, p⟩ => ⟨Hf, Γ, fr, st, Post.bind p fun d Γ1 _ v H1 Hf1 s1 ⟨st1, z⟩ q => by
    cases d with
    | int j =>
      cases z
      dsimp only at q
      split at q
      · rename_i c
        refine ⟨j, rfl, .of_le (Int.le_refl _) c.2 (by decide) c.1, fun l n => q _ _ Hf1 (Same.refl _) (st1.pushN ?_)⟩
        have := fz_range (K := X.K) (Hf := Hf1) 0 j
        rw [Int.sub_zero] at this
        exact .lst st1.sub n this
      · exact q.elim
    | _ => exact q.elim⟩⟩
theorem pf_tr1 {f : Ev → Out D} (hc : X.calm = true) (hg : Gl X "tuple") (hm : X.mg "tuple" = none) (hg2 : Gl X "range") (hm2 : X.mg "range" = none) (h : PF X W a f) (na : starEach [a] X.env = (false, eval a X.env) :: starEach [] X.env := by rfl)
    (na2 : starEach [.Call (.Name "range" p2) [a] [] pos2] X.env = (false, eval (.Call (.Name "range" p2) [a] [] pos2) X.env) :: starEach [] X.env := by rfl) : PF X W (.Call (.Name "tuple" p) [.Call (.Name "range" p2) [a] [] pos2] [] pos) (fTR1 f) :=
  ⟨fun f0 h0 => (pe_tupRg hc hg hm (prg_1 hg2 hm2 (h.run f0 h0) na) na2).imp fun σ H Q ⟨Hf, Γ, fr, st, p⟩ => ⟨Hf, Γ, fr, st, Post.bind p fun d Γ1 _ v H1 Hf1 s1 ⟨st1, z⟩ q => by
    cases d with
    | int j =>
      cases z
      dsimp only at q
      split at q
      · rename_i c
        refine ⟨j, rfl, .of_le (Int.le_refl _) c.2 (by decide) c.1, fun l n => ?_⟩
        have := fz_range (K := X.K) (Hf := Hf1) 0 j
        rw [Int.sub_zero] at this
        have nv := NewV.tup st1.sub n this
        have st2 := st1.pushN nv
        exact q _ _ _ nv.f1 ⟨st2.pop, st2.top⟩
      · exact q.elim
    | _ => exact q.elim⟩⟩
/-! ### int(..) of ints, flags, texts -/
def dIntV : List D → Option Va
  | [.int i] => some (.z, .int i)
  | [.bool b] => some (.z, .int (if b then 1 else 0))
  | [.str a] => if a.length ≤ 640 then (PySem.intText? a).map fun n => (.z, .int n) else none
  | _ => none
def rIntV : List V → Hp → VK → Prop := fun xs H Q => ((∃ i, xs = [.int i] ∧ Q (.int i) H) ∨ ∃ k, xs = [.bl k] ∧ Q (.int (if k then 1 else 0)) H) ∨ ∃ a n, xs = [.str a] ∧ PySem.intText? a = some n ∧ a.length ≤ 640 ∧ Q (.int n) H
theorem call_intV : CallR X (.type "int") rIntV := call_int1.or call_int_str
theorem cs_intV {K : PySem.W.Frag} : CallS K rIntV dIntV := fun Hf H xs ds z Q s h e q => by
  unfold dIntV at e
  split at e
  · obtain ⟨v, rfl, hh⟩ := h.one
    cases e
    cases hh.int
    exact .inl (.inl ⟨_, rfl, q _ H Hf (.z s (.int _))⟩)
  · obtain ⟨v, rfl, hh⟩ := h.one
    cases e
    cases hh.bool
    exact .inl (.inr ⟨_, rfl, q _ H Hf (.z s (.int _))⟩)
  · obtain ⟨v, rfl, hh⟩ := h.one
    split at e
    · cases hi : PySem.intText? ‹Str› with
      | none => rw [hi] at e; cases e
      | some n =>
        rw [hi] at e
        cases e
        cases hh.str
        exact .inr ⟨_, n, rfl, hi, ‹_›, q _ H Hf (.z s (.int _))⟩
    · cases e
  · cases e
theorem call_maxV (hc : X.calm = true) : CallR X (.builtin "max") (rMaxV X.K) := (cr_max hc).or (call_max2 hc)
theorem call_minV (hc : X.calm = true) : CallR X (.builtin "min") (rMinV X.K) := (cr_min hc).or (call_min2 hc)
/-! ### a < b < c -/
def vCh (op op' : D → D → Option Va) (a b c : Opn) : Ev → Out D := fun Γ => (a.f Γ).bind fun x Γ1 => (b.f Γ1).bind fun y Γ2 => match (a.l Γ2 x).bind fun x => (b.l Γ2 y).bind fun y => op x y with
  | some (.z, .bool true) => (c.f Γ2).bind fun w Γ3 => .of (((b.l Γ3 y).bind fun y => (c.l Γ3 w).bind fun w => op' y w).bind fun z => match z with | (.z, .bool k) => some (.bool k) | _ => none) Γ3
  | some (.z, .bool false) => .ok (.bool false) Γ2
  | _ => .st
theorem chain_of {g : GW} {r r' : R2} {op op' : D → D → Option Va} {oa ob oc : Opn} (hs : OpS g.h.K r op) (hs' : OpS g.h.K r' op') {σ : St} {H : Hp} {Q : VK} (h : tF g (vCh op op' oa ob oc) σ H Q) : tChain r r' (tO g oa) (tO g ob) (tO g oc) σ H Q := by
  obtain ⟨Hf, Γ, fr, st, p⟩ := h
  refine ⟨Hf, Γ, fr, st, Post.bind p fun x Γ1 _ v H1 Hf1 s1 ⟨st1, l1⟩ q => ⟨Hf1, Γ1, fr, st1, Post.bind q fun y Γ2 _ u H2 Hf2 s2 ⟨st2, l2⟩ q => ?_⟩⟩
  cases hb : (oa.l Γ2 x).bind fun x => (ob.l Γ2 y).bind fun y => op x y with
  | none => rw [hb] at q; exact q.elim
  | some z =>
    rw [hb] at q
    obtain ⟨x', y', e1, e2, e3⟩ := bind2 hb
    refine hs Hf2 H2 v u x' y' z _ st2.sub (l1 Γ2 Hf2 H2 fr s2 st2 x' e1) (l2 Γ2 Hf2 H2 fr (Same.refl _) st2 y' e2) e3 fun v' H' Hf' n => ?_
    have st3 := st2.pushN n
    obtain ⟨s, d⟩ := z
    cases s with
    | z =>
      cases d with
      | bool k =>
        have z3 := st3.top
        cases z3
        cases k with
        | false => exact ⟨false, rfl, q _ H' Hf' n.f1 ⟨st3.pop, .bl _⟩⟩
        | true =>
          refine ⟨true, rfl, Hf', Γ2, fr, st3.pop, Post.bind (Post.mono q n.f1) fun w Γ3 _ t H4 Hf4 s4 ⟨st4, l4⟩ q => ?_⟩
          obtain ⟨c, e, q⟩ := Post.of q
          cases hb2 : (ob.l Γ3 y).bind fun y => (oc.l Γ3 w).bind fun w => op' y w with
          | none => rw [hb2] at e; cases e
          | some z' =>
            rw [hb2] at e
            obtain ⟨y2, w2, f1, f2, f3⟩ := bind2 hb2
            refine hs' Hf4 H4 u t y2 w2 z' _ st4.sub (l2 Γ3 Hf4 H4 fr (n.f1.trans s4) st4 y2 f1) (l4 Γ3 Hf4 H4 fr (Same.refl _) st4 w2 f2) f3 fun v' H5 Hf5 n5 => ?_
            have st5 := st4.pushN n5
            obtain ⟨s, d⟩ := z'
            cases s with
            | z =>
              cases d with
              | bool k =>
                cases e
                exact q _ H5 Hf5 n5.f1 ⟨st5.pop, st5.top⟩
              | _ => cases e
            | _ => cases d <;> cases e
      | _ => exact q.elim
    | _ => cases d <;> exact q.elim
theorem pf_ch {op op' : CmpOp} {r r' : R2} {f f' : D → D → Option Va} {oa ob oc : Opn} (ho : OpR X (compareOp op) r) (hs : OpS X.K r f) (ho' : OpR X (compareOp op') r') (hs' : OpS X.K r' f') (ha : PZ X W a oa) (hb : PZ X W b ob) (hc : PZ X W c oc)
    (hm : lastMarks [op, op'] [b, c] = false := by with_unfolding_all rfl) : PF X W (.Compare a [op, op'] [b, c] pos) (vCh f f' oa ob oc) :=
  ⟨fun f0 h0 => (pe_chain ho ho' (ha.run f0 h0) (hb.run f0 h0) (hc.run f0 h0) hm).imp fun σ H Q h => chain_of hs hs' h⟩
theorem pb_ch {op op' : CmpOp} {r r' : R2} {f f' : D → D → Option Va} {oa ob oc : Opn} (ho : OpR X (compareOp op) r) (hs : OpS X.K r f) (ho' : OpR X (compareOp op') r') (hs' : OpS X.K r' f') (ha : PZ X W a oa) (hb : PZ X W b ob) (hc : PZ X W c oc)
    (hm : lastMarks [op, op'] [b, c] = false := by with_unfolding_all rfl) : PB X W (.Compare a [op, op'] [b, c] pos) (bF (vCh f f' oa ob oc)) :=
  ⟨fun f0 h0 => (pt_chain ho ho' (ha.run f0 h0) (hb.run f0 h0) (hc.run f0 h0) hm).imp fun σ H Q h => tTestF (f := vCh f f' oa ob oc) (fun Q h => chain_of (g := gh X W f0 h0) hs hs' h) h⟩
/-! ### a list or a tuple that is walked -/
def iLT (f : Ev → Out D) : Ev → Out (List D) := fun Γ => (f Γ).bind fun d Γ1 => match d with | .list ds => .ok ds Γ1 | .tuple ds => .ok ds Γ1 | .dict [(.none, .tuple ds)] => .ok ds Γ1 | _ => .st
theorem pi_lt {tg e : Expr} {f : Ev → Out D} (h : PF X W e f) : PIt X W tg e (iLT f) := ⟨fun f0 h0 => ⟨fun pins s σ H R I ⟨Hf, Γ, fr, st, q⟩ => by
  have hl := ((pi_l (tg := tg) h).run f0 h0).run pins s σ H R I
  have ht := ((pi_t (tg := tg) h).run f0 h0).run pins s σ H R I
  unfold iLT at q
  cases hf : f Γ with
  | ok d Γ1 =>
    rw [hf] at q
    dsimp only [Out.bind] at q
    split at q
    · exact hl ⟨Hf, Γ, fr, st, by unfold iL; rw [hf]; exact q⟩
    · exact ht ⟨Hf, Γ, fr, st, by unfold iT; rw [hf]; exact q⟩
    · exact ht ⟨Hf, Γ, fr, st, by unfold iT; rw [hf]; exact q⟩
    · exact q.elim
  | ex e Γ1 =>
    rw [hf] at q
    exact hl ⟨Hf, Γ, fr, st, by unfold iL; rw [hf]; exact q⟩
  | st => rw [hf] at q; exact q.elim⟩⟩
/-! ### a slot is frozen behind a statement; a slot is handed on whole -/
def sFz (i : Nat) (a : Ev → SO) : Ev → SO := fun Γ => match a Γ with
  | .nx Γ1 => (match Γ1[i]? with | some (some x) => .nx (Γ1.set i (some (.z, x.2))) | _ => .nx Γ1)
  | r => r
theorem ps_fz (i : Nat) {st : Stmt} {a : Ev → SO} (h : PSt X W st a) : PSt X W st (sFz i a) := ⟨fun f0 h0 => (h.run f0 h0).imp fun D σ H ⟨Hf, Γ, fr, st, q⟩ => by
  refine ⟨Hf, Γ, fr, st, ?_⟩
  unfold sFz at q
  cases ha : a Γ with
  | nx Γ1 =>
    rw [ha] at q
    dsimp only at q
    intro σ' H' Hf' s' st'
    split at q
    · rename_i x hx
      obtain ⟨Hf2, v, s2, _, st2⟩ := st'.frzSlot hx
      exact q σ' H' Hf2 (s'.trans s2) st2.pop
    · exact q σ' H' Hf' s' st'
  | rt x Γ1 => rw [ha] at q; exact q
  | bk Γ1 => rw [ha] at q; exact q
  | ct Γ1 => rw [ha] at q; exact q
  | ex e Γ1 => rw [ha] at q; exact q
  | st => rw [ha] at q; exact q⟩
def vMv (i : Nat) : Ev → Out Va := fun Γ => match Γ[i]? with | some (some x) => .ok x (Γ.set i none) | _ => .st
theorem StOk.take {g : Gh} {Hf H : Hp} {σ : St} {Γ : Ev} {fr : List (V × Va)} {i : Nat} {x : Va} (h : StOk g Hf H σ Γ fr) (hi : Γ[i]? = some (some x)) : ∃ v, σ[i]? = some (some v) ∧ StOk g Hf H σ (Γ.set i none) ((v, x) :: fr) := by
  obtain ⟨ω, h⟩ := h
  obtain ⟨v, e1, A, o, nd, hA⟩ := h.slots i x hi
  classical
  refine ⟨v, e1, fun a => if a ∈ A then some (.inr fr.length) else ω a, h.base, h.sub, h.old, h.new, fun a j e => ?_, by rw [List.length_set]; exact h.len, fun j y e => ?_, ⟨⟨A, o, nd, fun a ha => if_pos ha⟩, h.fr.mono (Same.refl _) fun a j hj e => ⟨rfl, ?_⟩⟩⟩
  · by_cases z : a ∈ A
    · exact h.own a _ (hA a z)
    · simp only [if_neg z] at e; exact h.own a j e
  · by_cases hj : i = j
    · subst hj
      rw [List.getElem?_set] at e
      simp at e
    · rw [List.getElem?_set_ne hj] at e
      obtain ⟨w, e2, q⟩ := h.slots j y e
      refine ⟨w, e2, q.mono (Same.refl _) fun a e => ⟨rfl, ?_⟩⟩
      have z : ¬ a ∈ A := fun z => by
        rw [hA a z] at e
        cases e
        exact hj rfl
      simp only [if_neg z]; exact e
  · have z : ¬ a ∈ A := fun z => by
      rw [hA a z] at e
      cases e
    simp only [if_neg z]; exact e
theorem pv_mv (i : Nat) {x : Str} (hN : X.N[i]? = some x := by rfl) (hv : Vis X.env.scope x := by first | exact Or.inl rfl | exact Or.inr (Or.inl rfl) | exact Or.inr (Or.inr rfl)) (hd : (x == ("__debug__" : Str)) = false := by decide)
    (hcd : (x == ("__classdict__" : Str)) = false := by decide) : PV X W (.Name x pos) (vMv i) := ⟨fun f0 h0 => (pe_var hN hv hd hcd).imp fun σ H Q ⟨Hf, Γ, fr, st, p⟩ => by
  unfold vMv at p
  split at p
  · rename_i y e
    obtain ⟨v, e1, st1⟩ := st.take e
    exact ⟨v, e1, p v H Hf (Same.refl _) st1⟩
  · exact p.elim⟩
end
end PV
namespace PV
open PySem PySem.Spec PyProof.Rows L2
abbrev S (x : String) : Str := Str.ofString x
def fuel : Nat := 1000000
theorem hU {k : Nat} {A : Around} (hr : Room k A) : A.units + 64 < cLine := hr.units
theorem hU1 {k : Nat} {A : Around} (hr : Room k A) : A.units + 1 < cLine := hu_of hr
theorem kit_int : ∀ t ∈ ["NoneType", "bool", "int", "str", "list", "tuple", "dict"], kitB t "int" = some (isB t "int") := by decide +kernel
theorem kit_bool : ∀ t ∈ ["NoneType", "bool", "int", "str", "list", "tuple", "dict"], kitB t "bool" = some (isB t "bool") := by decide +kernel
theorem kit_str : ∀ t ∈ ["NoneType", "bool", "int", "str", "list", "tuple", "dict"], kitB t "str" = some (isB t "str") := by decide +kernel
theorem kit_list : ∀ t ∈ ["NoneType", "bool", "int", "str", "list", "tuple", "dict"], kitB t "list" = some (isB t "list") := by decide +kernel
theorem kit_tuple : ∀ t ∈ ["NoneType", "bool", "int", "str", "list", "tuple", "dict"], kitB t "tuple" = some (isB t "tuple") := by decide +kernel
theorem kit_dict : ∀ t ∈ ["NoneType", "bool", "int", "str", "list", "tuple", "dict"], kitB t "dict" = some (isB t "dict") := by decide +kernel
def dAddI : D → D → Option Va
  | .int i, .int j => some (.z, .int (i + j))
  | _, _ => none
theorem ops_addI {K : PySem.W.Frag} : OpS K (rI0 fun i j => .int (i + j)) dAddI := ops_int0 fun dx dy z e => by
  cases dx <;> cases dy <;> cases e
  exact ⟨_, _, rfl, rfl, rfl⟩
theorem cs_abs {K : PySem.W.Frag} : CallS K (fun xs H Q => ∃ i, xs = [.int i] ∧ Q (.int (if i < 0 then -i else i)) H) dAbs := fun Hf H xs ds z Q s h e q => by
  unfold dAbs at e
  split at e
  · obtain ⟨v, rfl, hh⟩ := h.one
    cases e
    cases hh.int
    exact ⟨_, rfl, q _ H Hf (.z s (.int _))⟩
  · cases e
end PV
namespace PV
open PySem PySem.Spec PyProof.Rows L2
/-! ### the end -/
def scr (ns : List Int) : D := .dict [(.none, .list (ns.map .int))]
def spTop (K : PySem.W.Frag) : Sp := fun vs H Q _ => ∃ (a : Addr) (ns : List Int), vs = [.ref a] ∧ SqL K H a (ns.map V.int) ∧ ns.length ≤ 63 ∧ ∀ H', Q (.bl true) H'
theorem top_ok {P : Program} {w : World} {K : PySem.W.Frag} {mg : Str → Option Value} {base : Heap} {CX : CXT} {k : Nat} {f : Addr} {fd : FuncData} {ps : List Str} {F : List D → Res} (h : FnOk P w K mg base CX k f fd ps (spV K mg 1 F))
    (t : ∀ ns : List Int, ns.length ≤ 63 → F [scr ns] = .ok (.z, .bool true)) : FnOk P w K mg base CX k f fd ps (spTop K) := h.imp fun vs H Q E ⟨a, ns, e, hS, hl, q⟩ => by
  subst e
  refine ⟨H, [scr ns], rfl, Same.refl _, .cons (.scr ns hS) .nil, ?_⟩
  rw [t ns hl]
  intro v H' Hf' n
  obtain ⟨A, o, _⟩ := n.o
  have z : Fz K Hf' v (.bool true) := o.2
  cases z
  exact q H'
theorem cx_false {P : Program} {w : World} {outer : List Env} {H : L2.Hp} {s s' : Shared} {e : Value} (h : L2.CX P w outer H s (fun _ _ _ => False) e s') : False := by
  obtain ⟨_, _, _, _, _, _, _, _, _, _, _, _, z⟩ := h
  exact z
theorem exm_of {K : PySem.W.Frag} {C : Addr} (h1 : PySem.W.subIn K (.ref C) (.type "BaseException") = some true) (h2 : PySem.W.isClsIn K C = true) (h3 : PySem.W.typeIn K (.ref C) = some (.type "type")) (h4 : PySem.W.subIn K (.ref C) (.ref C) = some true) :
    PySem.W.exmOne K (.ref C) (.ref C) = some true := by
  have a1 : (PySem.W.subIn K (.ref C) (.type "BaseException") == some true) = true := by rw [h1]; rfl
  have a2 : ((PySem.W.clsIn K C).isSome && PySem.W.typeIn K (.ref C) == some (.type "type")) = true := by
    have z : (PySem.W.clsIn K C).isSome = true := h2
    rw [z, h3]
    rfl
  unfold PySem.W.exmOne
  simp only [a1, if_true]
  unfold PySem.W.kitCls
  simp only [a2, if_true]
  exact h4
/-- the rows of a written dict -/
def TabRows (K : PySem.W.Frag) (a : Addr) : List (Str × Option D) → Prop
  | [] => True
  | (x, none) :: r => PySem.W.nsIn K a x = some none ∧ TabRows K a r
  | (x, some d) :: r => (∃ u v, PySem.W.nsIn K a x = some (some u) ∧ RelV v u ∧ KD K v d) ∧ TabRows K a r
theorem rows_no {K : PySem.W.Frag} {a : Addr} {x : Str} : ∀ {tab : List (Str × Option D)}, TabRows K a tab → (x, none) ∈ tab → PySem.W.nsIn K a x = some none
  | (y, none) :: r, h, m => by
    rcases List.mem_cons.mp m with e | m
    · cases e; exact h.1
    · exact rows_no h.2 m
  | (y, some d) :: r, h, m => by
    rcases List.mem_cons.mp m with e | m
    · cases e
    · exact rows_no h.2 m
theorem rows_yes {K : PySem.W.Frag} {a : Addr} {x : Str} {d : D} : ∀ {tab : List (Str × Option D)}, TabRows K a tab → (x, some d) ∈ tab → ∃ u v, PySem.W.nsIn K a x = some (some u) ∧ RelV v u ∧ KD K v d
  | (y, none) :: r, h, m => by
    rcases List.mem_cons.mp m with e | m
    · cases e
    · exact rows_yes h.2 m
  | (y, some d') :: r, h, m => by
    rcases List.mem_cons.mp m with e | m
    · cases e; exact h.1
    · exact rows_yes h.2 m
theorem ktab_mk {K : PySem.W.Frag} {w : World} {a : Addr} {tab : List (Str × Option D)} (h : ∃ es n, KDict K w a es n) (r : TabRows K a tab) : KTab K w a tab := ⟨h, fun _ m => rows_no r m, fun _ _ m => rows_yes r m⟩
end PV
namespace PV
open PySem PySem.Spec PyProof.Rows L2
/-! ### an item of an owned list is set -/
def setE (i : Nat) (d : D) (o : Option (Option Va)) (k : D) (Γ : Ev) : SO := match o with
  | some (some (.l .z, .list ds)) => (match k with
    | .int n => (match ixN ds.length n with | some j => .nx (Γ.set i (some (.l .z, .list (ds.set j d)))) | none => .st)
    | _ => .st)
  | _ => .st
def setS (o : Option (Option Va)) (r : SO) : SO := match o with
  | some (some (.l .z, .list _)) => r
  | _ => .st
def sSet (i : Nat) (fv fk : Ev → Out D) : Ev → SO := fun Γ => sB (fv Γ) fun d Γ1 => setS (Γ1[i]?) (sB (fk Γ1) fun k Γ2 => setE i d (Γ2[i]?) k Γ2)
section
variable {X : Cx} {W : WX} {pos : Pos}
theorem ps_setL (i : Nat) {x : Str} {p tpos : Pos} {ix value : Expr} {fv fk : Ev → Out D} (hv : PF X W value fv) (hk : PF X W ix fk)
    (hN : X.N[i]? = some x := by rfl) (hvis : Vis X.env.scope x := by first | exact Or.inl rfl | exact Or.inr (Or.inl rfl) | exact Or.inr (Or.inr rfl)) (hd : (x == ("__debug__" : Str)) = false := by decide) (hcd : (x == ("__classdict__" : Str)) = false := by decide)
    (ha : ∀ v, assign (.Subscript (.Name x p) ix tpos) X.env v = (do
      let ov ← holding [v] (eval (.Name x p) X.env)
      let iv ← holding [v, ov] (eval ix X.env)
      standAt tpos
      holding [v, ov, iv] (setItem ov iv v)
      release [v, ov, iv] []) := by intro _; rfl)
    (hs : swapsWithSole [.Subscript (.Name x p) ix tpos] value pos.line X.env = pure false := by rfl) (hw : swappedStores [.Subscript (.Name x p) ix tpos] value X.env = pure none := by rfl)
    (h1 : (assignEach [.Subscript (.Name x p) ix tpos] X.env).map (·.2) = [assign (.Subscript (.Name x p) ix tpos) X.env] := by rfl) :
    PSt X W (.Assign [.Subscript (.Name x p) ix tpos] value pos) (sSet i fv fk) :=
  ⟨fun f0 h0 => (ps_asg (hv.run f0 h0) (pg_sub (pe_var hN hvis hd hcd) (hk.run f0 h0) set_list ha) hs hw h1).imp fun D σ H ⟨Hf, Γ, fr, st, p⟩ => by
    refine ⟨Hf, Γ, fr, st, PostS.bind p fun d Γ1 _ v H1 Hf1 s1 ⟨st1, z1⟩ q => ?_⟩
    unfold setS at q
    split at q
    · rename_i ds0 hΓ
      obtain ⟨a, vs, e1, e2, _⟩ := st1.getLz hΓ
      refine ⟨.ref a, e1, Hf1, Γ1, fr, st1, PostS.bind q fun k Γ2 _ y H2 Hf2 s2 ⟨st2, z2⟩ q2 => ?_⟩
      unfold setE at q2
      split at q2
      · rename_i ds hΓ2
        obtain ⟨a', vs2, e3, e4, f4⟩ := st2.getLz hΓ2
        rw [e1] at e3
        cases e3
        split at q2
        · rename_i n _ _
          cases hj : ixN ds.length n with
          | none => rw [hj] at q2; exact q2.elim
          | some j =>
            rw [hj] at q2
            cases z2
            exact ⟨a, vs2, n, j, rfl, rfl, e4, by rw [f4.length]; exact hj, q2 _ _ Hf2 (Same.refl _) (st2.mut hΓ2 e1 (FzAll.set (z1.mono s2) j f4))⟩
        · exact q2.elim
      · exact q2.elim
    · exact q.elim⟩
end
end PV
namespace PV
open PySem PySem.Spec PyProof.Rows L2
/-! ### dicts at a slot -/
def rows (kvs : List (Key × V)) (ds : List D) : List (D × D) := (kvs.map fun p => kD p.1).zip ds
def dHas (rs : List (D × D)) (k : Key) : Bool := rs.any fun p => decide (dKey p.1 = some k)
def dPutL (rs : List (D × D)) (k : Key) (d : D) : List (D × D) := if dHas rs k = true then rs.map (fun p => if dKey p.1 = some k then (p.1, d) else p) else rs ++ [(kD k, d)]
section
variable {K : PySem.W.Frag} {H : Hp} {k : Key} {v : V} {d : D}
theorem rows_len : ∀ {kvs : List (Key × V)} {ds : List D}, FzAll K H (kvs.map (·.2)) ds → (rows kvs ds).length = kvs.length
  | [], _, .nil => rfl
  | _ :: kvs, _, .cons _ r => congrArg (· + 1) (rows_len (kvs := kvs) r)
theorem rows_has : ∀ {kvs : List (Key × V)} {ds : List D}, FzAll K H (kvs.map (·.2)) ds → dHas (rows kvs ds) k = kvs.any fun kv => decide (kv.1 = k)
  | [], _, .nil => rfl
  | p :: kvs, d :: ds, .cons _ r => by
    have ih := rows_has (kvs := kvs) r
    unfold dHas at ih ⊢
    show ((kD p.1, d) :: rows kvs ds).any _ = _
    rw [List.any_cons, List.any_cons, ih]
    congr 1
    show decide (dKey (kD p.1) = some k) = _
    rw [dKey_kD]
    by_cases e : p.1 = k
    · rw [decide_eq_true (congrArg some e), decide_eq_true e]
    · rw [decide_eq_false (fun z => e (Option.some.inj z)), decide_eq_false e]
theorem rows_map (hd : Fz K H v d) : ∀ {kvs : List (Key × V)} {ds : List D}, FzAll K H (kvs.map (·.2)) ds →
    ∃ ds', (rows kvs ds).map (fun p => if dKey p.1 = some k then (p.1, d) else p) = rows (kvs.map fun kv => if kv.1 = k then (kv.1, v) else kv) ds' ∧ FzAll K H ((kvs.map fun kv => if kv.1 = k then (kv.1, v) else kv).map (·.2)) ds'
  | [], _, .nil => ⟨[], rfl, .nil⟩
  | p :: kvs, d0 :: ds, .cons h r => by
    obtain ⟨ds', e, f⟩ := rows_map hd (kvs := kvs) r
    by_cases q : p.1 = k
    · refine ⟨d :: ds', ?_, ?_⟩
      · show (if dKey (kD p.1) = some k then (kD p.1, d) else (kD p.1, d0)) :: (rows kvs ds).map _ = rows ((if p.1 = k then (p.1, v) else p) :: _) (d :: ds')
        rw [dKey_kD, if_pos (congrArg some q), if_pos q, e]
        rfl
      · show FzAll K H ((if p.1 = k then (p.1, v) else p).2 :: _) (d :: ds')
        rw [if_pos q]
        exact .cons hd f
    · refine ⟨d0 :: ds', ?_, ?_⟩
      · show (if dKey (kD p.1) = some k then (kD p.1, d) else (kD p.1, d0)) :: (rows kvs ds).map _ = rows ((if p.1 = k then (p.1, v) else p) :: _) (d0 :: ds')
        rw [dKey_kD, if_neg (fun z => q (Option.some.inj z)), if_neg q, e]
        rfl
      · show FzAll K H ((if p.1 = k then (p.1, v) else p).2 :: _) (d0 :: ds')
        rw [if_neg q]
        exact .cons h f
theorem rows_app {ds : List D} : ∀ {kvs : List (Key × V)}, FzAll K H (kvs.map (·.2)) ds → rows kvs ds ++ [(kD k, d)] = rows (kvs ++ [(k, v)]) (ds ++ [d]) := fun {kvs} h => by
  unfold rows
  rw [List.map_append, List.zip_append]
  · rfl
  · have := h.length
    rw [List.length_map] at this
    rw [List.length_map]
    exact this
theorem rows_put (hd : Fz K H v d) {kvs : List (Key × V)} {ds : List D} (h : FzAll K H (kvs.map (·.2)) ds) : ∃ ds', dPutL (rows kvs ds) k d = rows (putK kvs k v) ds' ∧ FzAll K H ((putK kvs k v).map (·.2)) ds' := by
  unfold dPutL putK
  rw [rows_has h]
  by_cases q : (kvs.any fun kv => decide (kv.1 = k)) = true
  · rw [if_pos q, if_pos q]
    exact rows_map hd h
  · rw [if_neg q, if_neg q]
    refine ⟨ds ++ [d], rows_app h, ?_⟩
    rw [List.map_append]
    exact h.append (.cons hd .nil)
theorem rows_look {kvs : List (Key × V)} {ds : List D} (h : FzAll K H (kvs.map (·.2)) ds) : (valV kvs k = none ∧ dLook (rows kvs ds) k = none) ∨ ∃ v d, valV kvs k = some v ∧ dLook (rows kvs ds) k = some d ∧ Fz K H v d := look_ok k h
end
section
variable {g : Gh} {Hf H : Hp} {σ : St} {Γ : Ev} {fr : List (V × Va)}
theorem NewV.od {K : PySem.W.Frag} {p : Addr} {kvs : List (Key × V)} {ds : List D} (s : Same Hf H) (n : H p = none) (h : FzAll K Hf (kvs.map (·.2)) ds) : NewV K Hf H (upd H p (.dK kvs)) Hf (.ref p) (.d .z, .dict (rows kvs ds)) :=
  ⟨same_new n, Same.refl _, s.trans (same_new n), fun _ n => .inl n, [p], ⟨p, kvs, ds, [], rfl, rfl, upd_same, OwnL.of_zs h, rfl⟩, by simp, fun a ha => by rw [List.mem_singleton.mp ha]; exact ⟨n, Same.free s n⟩⟩
/-- the object at a slot's own address is another one -/
theorem StOk.mutH {i : Nat} {x x' : Va} {a : Addr} {u : HO} (h : StOk g Hf H σ Γ fr) (hi : Γ[i]? = some (some x)) (ha : σ[i]? = some (some (.ref a))) (hx : ∀ A, Own g.K Hf H x.1 (.ref a) x.2 A → a ∈ A) (hv : Own g.K Hf (upd H a u) x'.1 (.ref a) x'.2 [a]) :
    StOk g Hf (upd H a u) σ (Γ.set i (some x')) fr := by
  obtain ⟨ω, h⟩ := h
  obtain ⟨v, e, A, o, nd, hA⟩ := h.slots i _ hi
  rw [e] at ha
  cases ha
  have wa : ω a = some (.inl i) := hA a (hx A o)
  have ow := h.own a _ wa
  have k : ∀ b j, j ≠ Sum.inl i → ω b = some j → upd H a u b = H b := fun b j hj e => upd_ne (fun z => hj (by rw [z, wa] at e; exact (Option.some.inj e).symm))
  refine ⟨ω, fun b o e => ?_, fun b o e => ?_, h.old, h.new, fun b j e => ⟨(h.own b j e).1, (h.own b j e).2.1, ?_⟩, by rw [List.length_set]; exact h.len, fun j y e' => ?_, h.fr.mono (Same.refl _) fun b j _ e => ⟨k b (.inr j) (fun z => nomatch z) e, e⟩⟩
  · rw [upd_ne (ne_of_none e ow.1)]; exact h.base b o e
  · rw [upd_ne (ne_of_none e ow.2.1)]; exact h.sub b o e
  · by_cases z : b = a
    · subst z; rw [upd_same]; exact fun z => nomatch z
    · rw [upd_ne z]; exact (h.own b j e).2.2
  · by_cases hj : i = j
    · subst hj
      rw [List.getElem?_set_self (List.getElem?_eq_some_iff.mp hi).1] at e'
      cases e'
      exact ⟨.ref a, e, [a], hv, by simp, fun b hb => by rw [List.mem_singleton.mp hb]; exact wa⟩
    · rw [List.getElem?_set_ne hj] at e'
      obtain ⟨w, e2, q⟩ := h.slots j y e'
      exact ⟨w, e2, q.mono (Same.refl _) fun b e => ⟨k b _ (fun z => by cases z; exact hj rfl) e, e⟩⟩
/-- .. on the top of the frame -/
theorem StOk.mutTopH {x x' : Va} {a : Addr} {u : HO} (h : StOk g Hf H σ Γ ((.ref a, x) :: fr)) (hx : ∀ A, Own g.K Hf H x.1 (.ref a) x.2 A → a ∈ A) (hv : Own g.K Hf (upd H a u) x'.1 (.ref a) x'.2 [a]) : StOk g Hf (upd H a u) σ Γ ((.ref a, x') :: fr) := by
  obtain ⟨ω, h⟩ := h
  obtain ⟨⟨A, o, nd, hA⟩, hr⟩ := h.fr
  have wa : ω a = some (.inr fr.length) := hA a (hx A o)
  have ow := h.own a _ wa
  have k : ∀ b j, j ≠ Sum.inr fr.length → ω b = some j → upd H a u b = H b := fun b j hj e => upd_ne (fun z => hj (by rw [z, wa] at e; exact (Option.some.inj e).symm))
  refine ⟨ω, fun b o e => ?_, fun b o e => ?_, h.old, h.new, fun b j e => ⟨(h.own b j e).1, (h.own b j e).2.1, ?_⟩, h.len, fun j y e' => ?_, ⟨⟨[a], hv, by simp, fun b hb => by rw [List.mem_singleton.mp hb]; exact wa⟩, hr.mono (Same.refl _) fun b j hj e => ⟨k b (.inr j) (fun z => by cases z; exact absurd hj (Nat.lt_irrefl _)) e, e⟩⟩⟩
  · rw [upd_ne (ne_of_none e ow.1)]; exact h.base b o e
  · rw [upd_ne (ne_of_none e ow.2.1)]; exact h.sub b o e
  · by_cases z : b = a
    · subst z; rw [upd_same]; exact fun z => nomatch z
    · rw [upd_ne z]; exact (h.own b j e).2.2
  · obtain ⟨w, e2, q⟩ := h.slots j y e'
    exact ⟨w, e2, q.mono (Same.refl _) fun b e => ⟨k b (.inl j) (fun z => nomatch z) e, e⟩⟩
theorem own_d_mem {K : PySem.W.Frag} {s : Sh} {a : Addr} {d : D} {A : List Addr} (h : Own K Hf H (.d s) (.ref a) d A) : a ∈ A := by
  obtain ⟨a', kvs, ds, B, e1, e2, e3, r, e4⟩ := h
  cases e1
  rw [e4]
  exact List.mem_cons_self
theorem own_d_z {K : PySem.W.Frag} {a : Addr} {kvs : List (Key × V)} {ds : List D} (h : FzAll K Hf (kvs.map (·.2)) ds) : Own K Hf (upd H a (.dK kvs)) (.d .z) (.ref a) (.dict (rows kvs ds)) [a] := ⟨a, kvs, ds, [], rfl, rfl, upd_same, OwnL.of_zs h, rfl⟩
/-- the rows of a dict that a slot holds, owned or frozen -/
def dic (o : Option (Option Va)) : Option (List (D × D)) := match o with
  | some (some (.d .z, .dict rs)) => some rs
  | some (some (.kd, .dict rs)) => some rs
  | some (some (.z, .dict rs)) => if (rs.all fun p => (dKey p.1).isSome) = true then some rs else none
  | _ => none
theorem DGet.kR {H : Hp} {a : Addr} {kvs : List (Key × V)} {k : Key} (e : Rd H a (.dK kvs)) : DGet H a (kV k) (valV kvs k) := .inl ⟨kvs, k, e, rfl, rfl⟩
theorem StOk.getDic {i : Nat} {rs : List (D × D)} (h : StOk g Hf H σ Γ fr) (hi : dic (Γ[i]?) = some rs) : ∃ a kvs ds, σ[i]? = some (some (.ref a)) ∧ Rd H a (.dK kvs) ∧ FzAll g.K Hf (kvs.map (·.2)) ds ∧ rs = rows kvs ds := by
  unfold dic at hi
  split at hi
  · rename_i rs' hg
    cases hi
    obtain ⟨ω, h⟩ := h
    obtain ⟨v, e, A, o, _⟩ := h.slots i _ hg
    obtain ⟨a, kvs, ds, B, e1, e2, e3, r, e4⟩ := o
    subst e1
    cases e2
    exact ⟨a, kvs, ds, e, .inl e3, r.zs.2, rfl⟩
  · rename_i rs' hg
    cases hi
    obtain ⟨ω, h⟩ := h
    obtain ⟨v, e, A, o, _⟩ := h.slots i _ hg
    obtain ⟨a, ob, kvs, ds, e1, e2, e3, r, e4⟩ := o
    subst e1
    cases e2
    exact ⟨a, kvs, ds, e, .inr ⟨ob, e3⟩, r, rfl⟩
  · rename_i rs' hg
    split at hi
    · rename_i hk
      cases hi
      obtain ⟨v, e, z⟩ := h.getZ hg
      obtain ⟨a, kvs, ds, rfl, ha, f, e2⟩ := fz_dict z hk
      have sub : Same Hf H := by
        obtain ⟨ω, h⟩ := h
        exact h.sub
      exact ⟨a, kvs, ds, e, Same.rd sub ha, f, e2⟩
    · cases hi
  · cases hi
theorem StOk.getOd {i : Nat} {rs : List (D × D)} (h : StOk g Hf H σ Γ fr) (hi : Γ[i]? = some (some (.d .z, .dict rs))) : ∃ a kvs ds, σ[i]? = some (some (.ref a)) ∧ H a = some (.dK kvs) ∧ FzAll g.K Hf (kvs.map (·.2)) ds ∧ rs = rows kvs ds := by
  obtain ⟨ω, h⟩ := h
  obtain ⟨v, e, A, o, _⟩ := h.slots i _ hi
  obtain ⟨a, kvs, ds, B, e1, e2, e3, r, e4⟩ := o
  subst e1
  cases e2
  exact ⟨a, kvs, ds, e, e3, r.zs.2, rfl⟩
theorem StOk.mutD {i : Nat} {x : D} {a : Addr} {kvs : List (Key × V)} {ds : List D} (h : StOk g Hf H σ Γ fr) (hi : Γ[i]? = some (some (.d .z, x))) (ha : σ[i]? = some (some (.ref a))) (hv : FzAll g.K Hf (kvs.map (·.2)) ds) : StOk g Hf (upd H a (.dK kvs)) σ (Γ.set i (some (.d .z, .dict (rows kvs ds)))) fr :=
  h.mutH hi ha (fun _ o => own_d_mem o) (own_d_z hv)
end
theorem key_val {K : PySem.W.Frag} {H : Hp} {v : V} {d : D} {k : Key} (h : Fz K H v d) (e : dKey d = some k) : v = kV k ∧ d = kD k := by
  cases h <;> cases e <;> exact ⟨rfl, rfl⟩
/-! ### the terms -/
def vDct0 : Ev → Out Va := fun Γ => .ok (.d .z, .dict []) Γ
def fDIn (neg : Bool) (i : Nat) (fk : Ev → Out D) : Ev → Out D := fun Γ => (fk Γ).bind fun k Γ1 => .of ((dic (Γ1[i]?)).bind fun rs => (dKey k).map fun y => .bool (if neg then !(dLook rs y).isSome else (dLook rs y).isSome)) Γ1
def dicS (o : Option (Option Va)) (r : Out D) : Out D := match dic o with
  | some _ => r
  | none => .st
def fDAt (i : Nat) (fk : Ev → Out D) : Ev → Out D := fun Γ => dicS (Γ[i]?) <| (fk Γ).bind fun k Γ1 => .of ((dic (Γ1[i]?)).bind fun rs => (dKey k).bind fun y => dLook rs y) Γ1
def fDG1 (i : Nat) (fk : Ev → Out D) : Ev → Out D := fun Γ => dicS (Γ[i]?) <| (fk Γ).bind fun k Γ1 => .of ((dic (Γ1[i]?)).bind fun rs => (dKey k).map fun y => (dLook rs y).getD .none) Γ1
def fDG2 (i : Nat) (fk fx : Ev → Out D) : Ev → Out D := fun Γ => dicS (Γ[i]?) <| (fk Γ).bind fun k Γ1 => (fx Γ1).bind fun x Γ2 => .of ((dic (Γ2[i]?)).bind fun rs => (dKey k).map fun y => (dLook rs y).getD x) Γ2
def dputE (i : Nat) (d : D) (o : Option (Option Va)) (k : D) (Γ : Ev) : SO := match o with
  | some (some (.d .z, .dict rs)) => (match dKey k with | some y => if rs.length < 16777216 then .nx (Γ.set i (some (.d .z, .dict (dPutL rs y d)))) else .st | none => .st)
  | _ => .st
def dputS (o : Option (Option Va)) (r : SO) : SO := match o with
  | some (some (.d .z, .dict _)) => r
  | _ => .st
def sDPutI (i : Nat) (fv fk : Ev → Out D) : Ev → SO := fun Γ => sB (fv Γ) fun d Γ1 => dputS (Γ1[i]?) (sB (fk Γ1) fun k Γ2 => dputE i d (Γ2[i]?) k Γ2)
section
variable {X : Cx} {W : WX} {e f ix value : Expr} {x : Str} {p pos apos cpos tpos : Pos} {fk fx fv : Ev → Out D}
theorem pv_dct0 : PV X W (.Dict [] [] pos) vDct0 := ⟨fun f0 h0 => pe_dnewK.imp fun σ H Q ⟨Hf, Γ, fr, st, p⟩ a n =>
  p _ _ _ (Same.refl _) (st.pushN (NewV.od (kvs := []) (ds := []) st.sub n .nil))⟩
theorem pf_din_core {g : GW} {i : Nat} {fk : Ev → Out D} {σ : St} {H : Hp} {Q : VK} (h : tF g (fDIn false i fk) σ H Q) : tDIn (tF g fk) (tVar i) σ H Q := by
  obtain ⟨Hf, Γ, fr, st, p⟩ := h
  exact ⟨Hf, Γ, fr, st, Post.bind p fun k Γ1 _ w H1 Hf1 s1 ⟨st1, z1⟩ q => by
    obtain ⟨c, e, q'⟩ := Post.of q
    clear q
    cases hr : dic (Γ1[i]?) with
    | none => rw [hr] at e; cases e
    | some rs =>
      rw [hr] at e
      obtain ⟨a, kvs, ds, e1, e2, f1, rfl⟩ := st1.getDic hr
      cases hy : dKey k with
      | none => rw [Option.bind_some, hy] at e; cases e
      | some y =>
        rw [Option.bind_some, hy] at e
        cases e
        obtain ⟨rfl, rfl⟩ := key_val z1 hy
        refine ⟨.ref a, e1, a, valV kvs y, rfl, DGet.kR e2, ?_⟩
        rcases rows_look (k := y) f1 with ⟨h1, h2⟩ | ⟨v', d', h1, h2, h3⟩
        · rw [h1]; dsimp only at q'; rw [h2] at q'
          exact q' _ H1 Hf1 (Same.refl _) ⟨st1, .bl _⟩
        · rw [h1]; dsimp only at q'; rw [h2] at q'
          exact q' _ H1 Hf1 (Same.refl _) ⟨st1, .bl _⟩⟩
theorem pf_din (i : Nat) (hu : X.A.units + 1 < cLine) (hk : PF X W e fk) (hm : behindInMarks .In (.Name x p) = false := by rfl)
    (hN : X.N[i]? = some x := by rfl) (hv : Vis X.env.scope x := by first | exact Or.inl rfl | exact Or.inr (Or.inl rfl) | exact Or.inr (Or.inr rfl)) (hd : (x == ("__debug__" : Str)) = false := by decide) (hcd : (x == ("__classdict__" : Str)) = false := by decide) :
    PF X W (.Compare e [.In] [.Name x p] pos) (fDIn false i fk) :=
  ⟨fun f0 h0 => (pe_cmp (pc_din hu (hk.run f0 h0) (pe_var hN hv hd hcd)) hm).imp fun σ H Q h => pf_din_core (g := gh X W f0 h0) h⟩
theorem pb_din (i : Nat) (hu : X.A.units + 1 < cLine) (hk : PF X W e fk) (hm : behindInMarks .In (.Name x p) = false := by rfl)
    (hN : X.N[i]? = some x := by rfl) (hv : Vis X.env.scope x := by first | exact Or.inl rfl | exact Or.inr (Or.inl rfl) | exact Or.inr (Or.inr rfl)) (hd : (x == ("__debug__" : Str)) = false := by decide) (hcd : (x == ("__classdict__" : Str)) = false := by decide) :
    PB X W (.Compare e [.In] [.Name x p] pos) (bF (fDIn false i fk)) :=
  ⟨fun f0 h0 => (pt_cmp (pc_din hu (hk.run f0 h0) (pe_var hN hv hd hcd)) hm).imp fun σ H Q h => tTestF (f := fDIn false i fk) (fun Q h => pf_din_core (g := gh X W f0 h0) h) h⟩
theorem pf_dnin_core {g : GW} {i : Nat} {fk : Ev → Out D} {σ : St} {H : Hp} {Q : VK} (h : tF g (fDIn true i fk) σ H Q) : tDNotIn (tF g fk) (tVar i) σ H Q := by
  obtain ⟨Hf, Γ, fr, st, p⟩ := h
  exact ⟨Hf, Γ, fr, st, Post.bind p fun k Γ1 _ w H1 Hf1 s1 ⟨st1, z1⟩ q => by
    obtain ⟨c, e, q'⟩ := Post.of q
    clear q
    cases hr : dic (Γ1[i]?) with
    | none => rw [hr] at e; cases e
    | some rs =>
      rw [hr] at e
      obtain ⟨a, kvs, ds, e1, e2, f1, rfl⟩ := st1.getDic hr
      cases hy : dKey k with
      | none => rw [Option.bind_some, hy] at e; cases e
      | some y =>
        rw [Option.bind_some, hy] at e
        cases e
        obtain ⟨rfl, rfl⟩ := key_val z1 hy
        refine ⟨.ref a, e1, a, valV kvs y, rfl, DGet.kR e2, ?_⟩
        rcases rows_look (k := y) f1 with ⟨h1, h2⟩ | ⟨v', d', h1, h2, h3⟩
        · rw [h1]; dsimp only at q'; rw [h2] at q'
          exact q' _ H1 Hf1 (Same.refl _) ⟨st1, .bl _⟩
        · rw [h1]; dsimp only at q'; rw [h2] at q'
          exact q' _ H1 Hf1 (Same.refl _) ⟨st1, .bl _⟩⟩
theorem pf_dnin (i : Nat) (hu : X.A.units + 1 < cLine) (hk : PF X W e fk) (hm : behindInMarks .NotIn (.Name x p) = false := by rfl)
    (hN : X.N[i]? = some x := by rfl) (hv : Vis X.env.scope x := by first | exact Or.inl rfl | exact Or.inr (Or.inl rfl) | exact Or.inr (Or.inr rfl)) (hd : (x == ("__debug__" : Str)) = false := by decide) (hcd : (x == ("__classdict__" : Str)) = false := by decide) :
    PF X W (.Compare e [.NotIn] [.Name x p] pos) (fDIn true i fk) :=
  ⟨fun f0 h0 => (pe_cmp (pc_dnotin hu (hk.run f0 h0) (pe_var hN hv hd hcd)) hm).imp fun σ H Q h => pf_dnin_core (g := gh X W f0 h0) h⟩
theorem pb_dnin (i : Nat) (hu : X.A.units + 1 < cLine) (hk : PF X W e fk) (hm : behindInMarks .NotIn (.Name x p) = false := by rfl)
    (hN : X.N[i]? = some x := by rfl) (hv : Vis X.env.scope x := by first | exact Or.inl rfl | exact Or.inr (Or.inl rfl) | exact Or.inr (Or.inr rfl)) (hd : (x == ("__debug__" : Str)) = false := by decide) (hcd : (x == ("__classdict__" : Str)) = false := by decide) :
    PB X W (.Compare e [.NotIn] [.Name x p] pos) (bF (fDIn true i fk)) :=
  ⟨fun f0 h0 => (pt_cmp (pc_dnotin hu (hk.run f0 h0) (pe_var hN hv hd hcd)) hm).imp fun σ H Q h => tTestF (f := fDIn true i fk) (fun Q h => pf_dnin_core (g := gh X W f0 h0) h) h⟩
theorem dic_at {g : GW} {Hf H : Hp} {σ : St} {Γ : Ev} {fr : List (V × Va)} {i : Nat} {rs : List (D × D)} (st : StOk g.h Hf H σ Γ fr) (h : dic (Γ[i]?) = some rs) {k : D} {y : Key} {w : V} (hy : dKey k = some y) (z : Fz g.h.K Hf w k) : ∃ a o, σ[i]? = some (some (.ref a)) ∧ IsD H a ∧ DGet H a w o ∧ ((o = none ∧ dLook rs y = none) ∨ ∃ v d, o = some v ∧ dLook rs y = some d ∧ Fz g.h.K Hf v d) := by
  obtain ⟨a, kvs, ds, e1, e2, f1, rfl⟩ := st.getDic h
  obtain ⟨rfl, rfl⟩ := key_val z hy
  exact ⟨a, valV kvs y, e1, .inl ⟨kvs, e2⟩, DGet.kR e2, rows_look f1⟩
theorem pf_dat (i : Nat) (hu : X.A.units + 1 < cLine) (hk : PF X W e fk) (hs : NoSl e)
    (hN : X.N[i]? = some x := by rfl) (hv : Vis X.env.scope x := by first | exact Or.inl rfl | exact Or.inr (Or.inl rfl) | exact Or.inr (Or.inr rfl)) (hd : (x == ("__debug__" : Str)) = false := by decide) (hcd : (x == ("__classdict__" : Str)) = false := by decide) :
    PF X W (.Subscript (.Name x p) e pos) (fDAt i fk) :=
  ⟨fun f0 h0 => (pe_dget hu (pe_var hN hv hd hcd) (hk.run f0 h0) hs).imp fun σ H Q ⟨Hf, Γ, fr, st, p⟩ => by
    unfold fDAt dicS at p
    cases hr : dic (Γ[i]?) with
    | none => rw [hr] at p; exact p.elim
    | some rs0 =>
      rw [hr] at p
      obtain ⟨a, kvs, ds, e1, _⟩ := st.getDic hr
      refine ⟨.ref a, e1, Hf, Γ, fr, st, Post.bind p fun k Γ1 _ w H1 Hf1 s1 ⟨st1, z1⟩ q => ?_⟩
      obtain ⟨c, e, q'⟩ := Post.of q
      clear q
      cases hr1 : dic (Γ1[i]?) with
      | none => rw [hr1] at e; cases e
      | some rs =>
        rw [hr1, Option.bind_some] at e
        cases hy : dKey k with
        | none => rw [hy] at e; cases e
        | some y =>
          rw [hy, Option.bind_some] at e
          obtain ⟨a', o, e3, d, g, hh⟩ := dic_at (g := gh X W f0 h0) st1 hr1 hy z1
          rw [e1] at e3
          cases e3
          rcases hh with ⟨_, h2⟩ | ⟨v, d', rfl, h2, h3⟩
          · rw [h2] at e; cases e
          · rw [h2] at e
            cases e
            exact ⟨a, v, rfl, g, q' _ H1 Hf1 (Same.refl _) ⟨st1, h3⟩⟩⟩
theorem pf_dg1 (i : Nat) (hu : X.A.units + 1 < cLine) (hk : PF X W e fk) (m : M1 X (.Name x p) "get" apos e cpos)
    (hN : X.N[i]? = some x := by rfl) (hv : Vis X.env.scope x := by first | exact Or.inl rfl | exact Or.inr (Or.inl rfl) | exact Or.inr (Or.inr rfl)) (hd : (x == ("__debug__" : Str)) = false := by decide) (hcd : (x == ("__classdict__" : Str)) = false := by decide) :
    PF X W (.Call (.Attribute (.Name x p) "get" apos) [e] [] cpos) (fDG1 i fk) :=
  ⟨fun f0 h0 => (pe_dget1 hu (pe_var hN hv hd hcd) (hk.run f0 h0) m).imp fun σ H Q ⟨Hf, Γ, fr, st, p⟩ => by
    unfold fDG1 dicS at p
    cases hr : dic (Γ[i]?) with
    | none => rw [hr] at p; exact p.elim
    | some rs0 =>
      rw [hr] at p
      obtain ⟨a, kvs, ds, e1, e2, _⟩ := st.getDic hr
      refine ⟨.ref a, e1, a, rfl, .inl ⟨kvs, e2⟩, Hf, Γ, fr, st, Post.bind p fun k Γ1 _ w H1 Hf1 s1 ⟨st1, z1⟩ q => ?_⟩
      obtain ⟨c, e, q'⟩ := Post.of q
      clear q
      cases hr1 : dic (Γ1[i]?) with
      | none => rw [hr1] at e; cases e
      | some rs =>
        rw [hr1, Option.bind_some] at e
        cases hy : dKey k with
        | none => rw [hy] at e; cases e
        | some y =>
          rw [hy, Option.map_some] at e
          cases e
          obtain ⟨a', o, e3, d, g, hh⟩ := dic_at (g := gh X W f0 h0) st1 hr1 hy z1
          rw [e1] at e3
          cases e3
          rcases hh with ⟨rfl, h2⟩ | ⟨v, d', rfl, h2, h3⟩
          · try dsimp only at q'
            rw [h2] at q'
            exact ⟨none, g, q' _ H1 Hf1 (Same.refl _) ⟨st1, .non⟩⟩
          · try dsimp only at q'
            rw [h2] at q'
            exact ⟨some v, g, q' _ H1 Hf1 (Same.refl _) ⟨st1, h3⟩⟩⟩
theorem pf_dg2 (i : Nat) (hu : X.A.units + 1 < cLine) (hk : PF X W e fk) (hx : PF X W f fx) (m : M2 X (.Name x p) "get" apos e f cpos)
    (hN : X.N[i]? = some x := by rfl) (hv : Vis X.env.scope x := by first | exact Or.inl rfl | exact Or.inr (Or.inl rfl) | exact Or.inr (Or.inr rfl)) (hd : (x == ("__debug__" : Str)) = false := by decide) (hcd : (x == ("__classdict__" : Str)) = false := by decide) :
    PF X W (.Call (.Attribute (.Name x p) "get" apos) [e, f] [] cpos) (fDG2 i fk fx) :=
  ⟨fun f0 h0 => (pe_dget2 hu (pe_var hN hv hd hcd) (hk.run f0 h0) (hx.run f0 h0) m).imp fun σ H Q ⟨Hf, Γ, fr, st, p⟩ => by
    unfold fDG2 dicS at p
    cases hr : dic (Γ[i]?) with
    | none => rw [hr] at p; exact p.elim
    | some rs0 =>
      rw [hr] at p
      obtain ⟨a, kvs, ds, e1, e2, _⟩ := st.getDic hr
      refine ⟨.ref a, e1, a, rfl, .inl ⟨kvs, e2⟩, Hf, Γ, fr, st, Post.bind p fun k Γ1 _ w H1 Hf1 s1 ⟨st1, z1⟩ q => ⟨Hf1, Γ1, fr, st1, Post.bind q fun xd Γ2 _ u H2 Hf2 s2 ⟨st2, z2⟩ q2 => ?_⟩⟩
      obtain ⟨c, e, q'⟩ := Post.of q2
      clear q2 q
      cases hr1 : dic (Γ2[i]?) with
      | none => rw [hr1] at e; cases e
      | some rs =>
        rw [hr1, Option.bind_some] at e
        cases hy : dKey k with
        | none => rw [hy] at e; cases e
        | some y =>
          rw [hy, Option.map_some] at e
          cases e
          obtain ⟨a', o, e3, d, g, hh⟩ := dic_at (g := gh X W f0 h0) st2 hr1 hy (z1.mono s2)
          rw [e1] at e3
          cases e3
          rcases hh with ⟨rfl, h2⟩ | ⟨v, d', rfl, h2, h3⟩
          · try dsimp only at q'
            rw [h2] at q'
            exact ⟨none, g, q' _ H2 Hf2 (Same.refl _) ⟨st2, z2⟩⟩
          · try dsimp only at q'
            rw [h2] at q'
            exact ⟨some v, g, q' _ H2 Hf2 (Same.refl _) ⟨st2, h3⟩⟩⟩
theorem ps_dputI (i : Nat) (hu : X.A.units + 1 < cLine) (hv : PF X W value fv) (hk : PF X W ix fk)
    (hN : X.N[i]? = some x := by rfl) (hvis : Vis X.env.scope x := by first | exact Or.inl rfl | exact Or.inr (Or.inl rfl) | exact Or.inr (Or.inr rfl)) (hd : (x == ("__debug__" : Str)) = false := by decide) (hcd : (x == ("__classdict__" : Str)) = false := by decide)
    (hs : swapsWith value (some (.Subscript (.Name x p) ix tpos)) pos.line X.env = pure false := by rfl) :
    PSt X W (.Assign [.Subscript (.Name x p) ix tpos] value pos) (sDPutI i fv fk) :=
  ⟨fun f0 h0 => (ps_dput hu (pe_var hN hvis hd hcd) (hk.run f0 h0) (hv.run f0 h0) hs).imp fun D σ H ⟨Hf, Γ, fr, st, p⟩ => by
    refine ⟨Hf, Γ, fr, st, PostS.bind p fun d Γ1 _ v H1 Hf1 s1 ⟨st1, z1⟩ q => ?_⟩
    unfold dputS at q
    split at q
    · rename_i rs0 hΓ
      obtain ⟨a, kvs, ds, e1, e2, f1, _⟩ := st1.getOd hΓ
      refine ⟨.ref a, e1, Hf1, Γ1, fr, st1, PostS.bind q fun k Γ2 _ y H2 Hf2 s2 ⟨st2, z2⟩ q2 => ?_⟩
      unfold dputE at q2
      split at q2
      · rename_i rs hΓ2
        cases hy : dKey k with
        | none => rw [hy] at q2; exact q2.elim
        | some y' =>
          rw [hy] at q2
          dsimp only at q2
          split at q2
          · rename_i hlen
            obtain ⟨a', kvs2, ds2, e3, e4, f4, rfl⟩ := st2.getOd hΓ2
            rw [e1] at e3
            cases e3
            obtain ⟨rfl, rfl⟩ := key_val z2 hy
            obtain ⟨ds', e5, f5⟩ := rows_put (k := y') (z1.mono s2) f4
            rw [e5] at q2
            rw [rows_len f4] at hlen
            exact ⟨a, _, rfl, DPut.k e4 (by rw [sizeLine_eq]; exact hlen), q2 _ _ Hf2 (Same.refl _) (st2.mutD hΓ2 e1 f5)⟩
          · exact q2.elim
      · exact q2.elim
    · exact q.elim⟩
end
end PV
namespace PV
open PySem PySem.Spec PyProof.Rows L2
/-! ### {k: v} -/
def vDct1 (fk fv : Ev → Out D) : Ev → Out Va := fun Γ => (fk Γ).bind fun k Γ1 => (fv Γ1).bind fun d Γ2 => .of ((dKey k).map fun _ => ((.d .z, PyData.dict [(k, d)]) : Va)) Γ2
section
variable {g : GW} {σ : St} {fr : List (V × Va)} {q : V × Va}
theorem PEx.push {Hf : Hp} {e : Exc} {Γ : Ev} (h : PEx g Hf σ fr e Γ) : PEx g Hf σ (q :: fr) e Γ := fun cls dx H' Hf' s xo st => h cls dx H' Hf' s xo st.pop
end
section
variable {X : Cx} {W : WX} {pos : Pos}
theorem pv_dct1 {ek ev : Expr} {fk fv : Ev → Out D} (hk : PF X W ek fk) (hv : PF X W ev fv) : PV X W (.Dict [some ek] [ev] pos) (vDct1 fk fv) :=
  ⟨fun f0 h0 => (pe_disp (pps_cons (hk.run f0 h0) (hv.run f0 h0) pps_nil) rfl rfl (fun h => nomatch h) (show (1 : Nat) ≤ 15 by decide)).imp fun σ H Q ⟨Hf, Γ, fr, st, p⟩ a n => by
    have st1 := st.pushN (NewV.od (K := X.K) (kvs := []) (ds := []) st.sub n .nil)
    unfold vDct1 at p
    refine ⟨Hf, Γ, (.ref a, (.d .z, .dict (rows [] []))) :: fr, st1, ?_⟩
    cases h1 : fk Γ with
    | st => rw [h1] at p; exact p.elim
    | ex e Γ1 => rw [h1] at p; exact PEx.push (show PEx _ Hf σ fr e Γ1 from p)
    | ok k Γ1 =>
      rw [h1] at p
      intro x H1 Hf1 s1 ⟨st2, z2⟩
      refine ⟨Hf1, Γ1, _, st2, ?_⟩
      have p := Post.mono p s1
      cases h2 : fv Γ1 with
      | st => dsimp only [Out.bind] at p; rw [h2] at p; exact p.elim
      | ex e Γ2 => dsimp only [Out.bind] at p; rw [h2] at p; exact PEx.push (show PEx _ Hf1 σ fr e Γ2 from p)
      | ok d Γ2 =>
        dsimp only [Out.bind] at p
        rw [h2] at p
        intro y H2 Hf2 s2 ⟨st3, z3⟩
        have p := Post.mono p s2
        dsimp only at p
        obtain ⟨c, e, p⟩ := Post.of p
        cases hy : dKey k with
        | none => rw [hy] at e; cases e
        | some kk =>
          rw [hy] at e
          cases e
          obtain ⟨rfl, rfl⟩ := key_val z2 hy
          obtain ⟨ω, w⟩ := id st3
          obtain ⟨⟨A, ⟨a', kvs, ds, B, e1, e2, e3, r, e4⟩, nd, hA⟩, hr⟩ := w.fr
          cases e1
          have hk0 : kvs = [] := by
            cases kvs with
            | nil => rfl
            | cons kv kvs =>
              cases r with
              | cons _ _ => cases e2
          subst hk0
          have hf : FzAll X.K Hf2 (([(kk, y)] : List (Key × V)).map (·.2)) [d] := .cons z3 .nil
          exact ⟨e3, [(kk, y)], rfl, (show (1 : Nat) ≤ 15 by decide), p _ _ Hf2 (Same.refl _) (st3.mutTopH (fun _ o => own_d_mem o) (own_d_z hf))⟩⟩
end
/-! ### comprehensions with two clauses -/
def compL2 (is : List Nat) (t : D → Ev → Option Ev) (c : Ev → Out Bool) (f1 : Ev → Out (List D)) (is1 : List Nat) (t1 : D → Ev → Option Ev) (c1 : Ev → Out Bool) (fe : Ev → Out D) : List D → Ev → Option (List D × Ev)
  | [], Γ => some ([], Γ)
  | d :: ds, Γ => match t d Γ with
    | none => none
    | some Γ1 => match c Γ1 with
      | .ok true Γ2 => (match f1 Γ2 with
        | .ok ds1 Γ3 => (match compL is1 t1 c1 fe ds1 (wipeG Γ3 is1) with
          | some (es, Γ4) => (compL2 is t c f1 is1 t1 c1 fe ds (wipeG Γ4 is)).map fun p => (es ++ p.1, p.2)
          | none => none)
        | _ => none)
      | .ok false Γ2 => compL2 is t c f1 is1 t1 c1 fe ds (wipeG Γ2 is)
      | _ => none
def vComp2 (is : List Nat) (f : Ev → Out (List D)) (t : D → Ev → Option Ev) (c : Ev → Out Bool) (f1 : Ev → Out (List D)) (is1 : List Nat) (t1 : D → Ev → Option Ev) (c1 : Ev → Out Bool) (fe : Ev → Out D) : Ev → Out Va := fun Γ => (f Γ).bind fun ds Γ1 =>
    (match compL2 is t c f1 is1 t1 c1 fe ds (wipeG Γ1 is) with | some (es, Γ2) => if es.length ≤ 16777216 then .ok (.l .z, .list es) (restG Γ1 Γ2 is) else .st | none => .st)
/-- the names of a block wiped twice -/
theorem wipe_twice {σ : St} {is : List Nat} : ∀ js : List Nat, (∀ j ∈ js, j ∈ is) → wipe (wipe σ is) js = wipe σ is
  | [], _ => rfl
  | j :: js, hj => by
    show (wipe (wipe σ is) js).set j none = wipe σ is
    rw [wipe_twice js fun k hk => hj k (List.mem_cons_of_mem _ hk)]
    have hj' := hj j List.mem_cons_self
    apply List.ext_getElem?
    intro k
    by_cases e : j = k
    · subst e
      rw [List.getElem?_set]
      have : ∀ {l : List Nat}, j ∈ l → ∀ {τ : St}, (wipe τ l)[j]? = if j < τ.length then some none else none := fun {l} hl {τ} => by
        induction l with
        | nil => cases hl
        | cons b l ih2 =>
          show ((wipe τ l).set b none)[j]? = _
          by_cases e2 : b = j
          · subst e2
            rw [List.getElem?_set]
            simp [wipe_length]
          · rw [List.getElem?_set_ne e2]
            exact ih2 ((List.mem_cons.mp hl).resolve_left (fun z => e2 z.symm))
      rw [this hj' (τ := σ)]
      simp [wipe_length]
    · rw [List.getElem?_set_ne e]
/-- the loop of the second clause -/
theorem comp_in {g : GW} {is1 : List Nat} {t1 : D → Ev → Option Ev} {c1 : Ev → Out Bool} {fe : Ev → Out D} {σ2 : St} {H4 Hf4 : Hp} {J1 : It} {ds1 es : List D} {Γ3 Γ4 : Ev} {fr : List (V × Va)} {a : Addr} {acc0 : List D} {Nx : Hp → Prop}
    (it : ItOk g.h.K Hf4 J1 ds1) (st : StOk g.h Hf4 H4 (wipe σ2 is1) Γ3 ((.ref a, (.l .z, .list acc0)) :: fr)) (hn : ∀ j ∈ is1, ∀ x, Γ3[j]? ≠ some (some x)) (hcl : compL is1 t1 c1 fe ds1 Γ3 = some (es, Γ4)) (hlen : acc0.length + es.length ≤ 16777216)
    (q : ∀ H' Hf', Same Hf4 Hf' → StOk g.h Hf' H' (wipe σ2 is1) Γ4 ((.ref a, (.l .z, .list (acc0 ++ es))) :: fr) → Nx H') :
    ∃ W1 : Nat → Nat → Hp → Prop, (∃ m, W1 0 m H4) ∧ ∀ j k H, W1 j k H →
      (J1.stop j H ∧ Nx H) ∨ (J1.go j H ∧ ∃ Nx1 : Hp → Prop, (∀ H', Nx1 H' → ∃ k', k' < k ∧ W1 (j + 1) k' H') ∧ ∀ x H', J1.yld j H x H' → tG g is1 t1 x (wipe σ2 is1) H' fun σ3 H5 => wipe σ3 is1 = wipe σ2 is1 ∧ tT ⟨g.h, g.mg, W0⟩ c1 σ3 H5 fun b H6 =>
        if b = true then tF ⟨g.h, g.mg, W0⟩ fe σ3 H6 fun y H7 => ∃ acc, H7 a = some (.lst acc) ∧ acc.length < sizeLine ∧ Nx1 (upd H7 a (.lst (acc ++ [y]))) else Nx1 H6) := by
  refine ⟨fun i m H => m = ds1.length - i ∧ i ≤ ds1.length ∧ ∃ Hf2 Γ5 acc es', Same Hf4 Hf2 ∧ StOk g.h Hf2 H (wipe σ2 is1) Γ5 ((.ref a, (.l .z, .list acc)) :: fr) ∧ (∀ j ∈ is1, ∀ x, Γ5[j]? ≠ some (some x)) ∧
    compL is1 t1 c1 fe (ds1.drop i) Γ5 = some (es', Γ4) ∧ acc ++ es' = acc0 ++ es, ⟨_, rfl, Nat.zero_le _, Hf4, Γ3, acc0, es, Same.refl _, st, hn, hcl, rfl⟩, ?_⟩
  rintro i m H2 ⟨rfl, hi, Hf2, Γ5, acc, es', s2, st2, hn2, hcl2, hes⟩
  obtain ⟨g1, g2⟩ := it i Hf2 H2 s2 st2.sub
  cases h : ds1[i]? with
  | none =>
    rw [List.drop_eq_nil_of_le (List.getElem?_eq_none_iff.mp h)] at hcl2
    have hcl' : ([], Γ5) = (es', Γ4) := Option.some.inj hcl2
    cases hcl'
    rw [List.append_nil] at hes
    subst hes
    exact .inl ⟨g2 h, q H2 Hf2 s2 st2⟩
  | some d =>
    obtain ⟨go, yl⟩ := g1 d h
    have hlt := (List.getElem?_eq_some_iff.mp h).1
    have ed : ds1.drop i = d :: ds1.drop (i + 1) := by
      rw [List.drop_eq_getElem_cons hlt]
      rw [List.getElem?_eq_getElem hlt] at h
      rw [Option.some.inj h]
    rw [ed] at hcl2
    refine .inr ⟨go, fun H' => (i + 1 ≤ ds1.length ∧ ∃ Hf2 Γ5 acc' es'', Same Hf4 Hf2 ∧ StOk g.h Hf2 H' (wipe σ2 is1) Γ5 ((.ref a, (.l .z, .list acc')) :: fr) ∧ (∀ j ∈ is1, ∀ x, Γ5[j]? ≠ some (some x)) ∧
      compL is1 t1 c1 fe (ds1.drop (i + 1)) Γ5 = some (es'', Γ4) ∧ acc' ++ es'' = acc0 ++ es), fun H' n => ⟨ds1.length - (i + 1), by omega, rfl, n⟩, fun x H' y => ?_⟩
    obtain ⟨Hf3, a1, a2, a3, a4, z⟩ := yl x H' y
    have st3 := st2.freeze a1 a2 a3 a4
    unfold compL at hcl2
    cases ht : t1 d Γ5 with
    | none => rw [ht] at hcl2; cases hcl2
    | some Γ6 =>
      rw [ht] at hcl2
      dsimp only at hcl2
      refine ⟨Hf3, Γ5, _, d, st3, z, Γ6, ht, fun σ5 H5 Hf5 s5 st5 w5 => ?_⟩
      have w5' : wipe σ5 is1 = wipe σ2 is1 := by rw [w5]; exact wipe_twice is1 fun j hj => hj
      refine ⟨w5', Hf5, Γ6, _, st5, ?_⟩
      have sA : Same Hf4 Hf5 := (s2.trans a2).trans s5
      cases hcc : c1 Γ6 with
      | ex e Γ7 => rw [hcc] at hcl2; cases hcl2
      | st => rw [hcc] at hcl2; cases hcl2
      | ok k Γ7 =>
        rw [hcc] at hcl2
        intro k' H6 Hf6 s6 ⟨st6, ek⟩
        subst ek
        cases k' with
        | false =>
          dsimp only at hcl2
          rw [if_neg Bool.false_ne_true]
          exact ⟨hlt, Hf6, _, acc, es', sA.trans s6, st6.back w5', wipeG_none, hcl2, hes⟩
        | true =>
          dsimp only at hcl2
          rw [if_pos rfl]
          refine ⟨Hf6, Γ7, _, st6, ?_⟩
          cases he : fe Γ7 with
          | ex e Γ8 => rw [he] at hcl2; cases hcl2
          | st => rw [he] at hcl2; cases hcl2
          | ok e Γ8 =>
            rw [he] at hcl2
            dsimp only at hcl2
            intro v H7 Hf7 s7 ⟨st7, z7⟩
            obtain ⟨vs, e8, f8⟩ := st7.topL
            cases hr : compL is1 t1 c1 fe (ds1.drop (i + 1)) (wipeG Γ8 is1) with
            | none => rw [hr] at hcl2; cases hcl2
            | some r =>
              obtain ⟨es2, Γ9⟩ := r
              rw [hr] at hcl2
              cases hcl2
              have hl : acc.length + (es2.length + 1) = acc0.length + es.length := by
                have := congrArg List.length hes
                rw [List.length_append, List.length_append, List.length_cons] at this
                exact this
              refine ⟨vs, e8, ?_, hlt, Hf7, _, acc ++ [e], es2, (sA.trans s6).trans s7, (st7.mutTop (f8.append (.cons z7 .nil))).back w5', wipeG_none, hr, ?_⟩
              · rw [f8.length, sizeLine_eq]; omega
              · rw [List.append_assoc]; exact hes
theorem wipe_get {l : List Nat} {τ : St} {j : Nat} : (wipe τ l)[j]? = if j ∈ l then (if j < τ.length then some none else none) else τ[j]? := by
  by_cases h : j ∈ l
  · rw [if_pos h]
    induction l with
    | nil => cases h
    | cons b l ih =>
      show ((wipe τ l).set b none)[j]? = _
      by_cases e : b = j
      · subst e
        rw [List.getElem?_set]
        simp [wipe_length]
      · rw [List.getElem?_set_ne e]
        exact ih ((List.mem_cons.mp h).resolve_left (fun z => e z.symm))
  · rw [if_neg h]
    exact wipe_out h
theorem wipe_in {σ : St} {is1 is : List Nat} (hv : ∀ i ∈ is1, i ∈ is) : wipe (wipe σ is1) is = wipe σ is := by
  apply List.ext_getElem?
  intro j
  have e1 : (wipe (wipe σ is1) is)[j]? = if j ∈ is then (if j < (wipe σ is1).length then some none else none) else (wipe σ is1)[j]? := wipe_get
  have e2 : (wipe σ is)[j]? = if j ∈ is then (if j < σ.length then some none else none) else σ[j]? := wipe_get
  have e3 : (wipe σ is1)[j]? = if j ∈ is1 then (if j < σ.length then some none else none) else σ[j]? := wipe_get
  rw [e1, e2, wipe_length]
  by_cases h : j ∈ is
  · rw [if_pos h, if_pos h]
  · rw [if_neg h, if_neg h, e3, if_neg fun z => h (hv j z)]
section
variable {X : Cx} {W : WX}
theorem comp2_core {g : GW} {is is1 : List Nat} {f f1 : Ev → Out (List D)} {t t1 : D → Ev → Option Ev} {c c1 : Ev → Out Bool} {fe : Ev → Out D} {σ : St} {H : Hp} {Q : VK} (hv : ∀ i ∈ is1, i ∈ is) (h : tV g (vComp2 is f t c f1 is1 t1 c1 fe) σ H Q) :
    tLc2 (tI g f) (tG g is t) (tT ⟨g.h, g.mg, W0⟩ c) (tI ⟨g.h, g.mg, W0⟩ f1) (tG g is1 t1) (tT ⟨g.h, g.mg, W0⟩ c1) (tF ⟨g.h, g.mg, W0⟩ fe) is is1 σ H Q := by
  obtain ⟨Hf, Γ, fr, st, p⟩ := h
  refine ⟨Hf, Γ, fr, st, Post.bind p fun ds Γ1 _ J H1 Hf1 s1 ⟨st1, it⟩ q => ?_⟩
  cases hc : compL2 is t c f1 is1 t1 c1 fe ds (wipeG Γ1 is) with
  | none => rw [hc] at q; exact q.elim
  | some r =>
    obtain ⟨es, Γ2⟩ := r
    rw [hc] at q
    dsimp only at q
    split at q
    · rename_i lenOk
      intro a na
      have stD : StOk g.h Hf1 (upd H1 a (.lst [])) (wipe σ is) (wipeG Γ1 is) ((.ref a, (.l .z, .list [])) :: fr) := ((st1.pushN (NewV.lst st1.sub na .nil)).wipe is)
      refine ⟨fun i m H => m = ds.length - i ∧ i ≤ ds.length ∧ ∃ Hf2 Γ3 acc es', Same Hf1 Hf2 ∧ StOk g.h Hf2 H (wipe σ is) Γ3 ((.ref a, (.l .z, .list acc)) :: fr) ∧ (∀ j ∈ is, ∀ x, Γ3[j]? ≠ some (some x)) ∧
        compL2 is t c f1 is1 t1 c1 fe (ds.drop i) Γ3 = some (es', Γ2) ∧ acc ++ es' = es, ⟨_, rfl, Nat.zero_le _, Hf1, _, [], es, Same.refl _, stD, wipeG_none, hc, rfl⟩, ?_⟩
      rintro i m H2 ⟨rfl, hi, Hf2, Γ3, acc, es', s2, st2, hn, hcl, hes⟩
      obtain ⟨g1, g2⟩ := it i Hf2 H2 s2 st2.sub
      cases h : ds[i]? with
      | none =>
        rw [List.drop_eq_nil_of_le (List.getElem?_eq_none_iff.mp h)] at hcl
        have hcl' : ([], Γ3) = (es', Γ2) := Option.some.inj hcl
        cases hcl'
        rw [List.append_nil] at hes
        subst hes
        exact .inl ⟨g2 h, q _ H2 Hf2 s2 (StOk.rest st1 s2 st2 hn is)⟩
      | some d =>
        obtain ⟨go, yl⟩ := g1 d h
        have hlt := (List.getElem?_eq_some_iff.mp h).1
        have ed : ds.drop i = d :: ds.drop (i + 1) := by
          rw [List.drop_eq_getElem_cons hlt]
          rw [List.getElem?_eq_getElem hlt] at h
          rw [Option.some.inj h]
        rw [ed] at hcl
        refine .inr ⟨go, fun H' => (i + 1 ≤ ds.length ∧ ∃ Hf2 Γ3 acc' es'', Same Hf1 Hf2 ∧ StOk g.h Hf2 H' (wipe σ is) Γ3 ((.ref a, (.l .z, .list acc')) :: fr) ∧ (∀ j ∈ is, ∀ x, Γ3[j]? ≠ some (some x)) ∧
          compL2 is t c f1 is1 t1 c1 fe (ds.drop (i + 1)) Γ3 = some (es'', Γ2) ∧ acc' ++ es'' = es), fun H' n => ⟨ds.length - (i + 1), by omega, rfl, n⟩, fun x H' y => ?_⟩
        obtain ⟨Hf3, a1, a2, a3, a4, z⟩ := yl x H' y
        have st3 := st2.freeze a1 a2 a3 a4
        unfold compL2 at hcl
        cases ht : t d Γ3 with
        | none => rw [ht] at hcl; cases hcl
        | some Γ4 =>
          rw [ht] at hcl
          dsimp only at hcl
          refine ⟨Hf3, Γ3, _, d, st3, z, Γ4, ht, fun σ5 H5 Hf5 s5 st5 w5 => ?_⟩
          have w5' : wipe σ5 is = wipe σ is := by rw [w5]; exact wipe_twice is fun j hj => hj
          refine ⟨w5', Hf5, Γ4, _, st5, ?_⟩
          have sA : Same Hf1 Hf5 := (s2.trans a2).trans s5
          cases hcc : c Γ4 with
          | ex e Γ5 => rw [hcc] at hcl; cases hcl
          | st => rw [hcc] at hcl; cases hcl
          | ok k Γ5 =>
            rw [hcc] at hcl
            intro k' H6 Hf6 s6 ⟨st6, ek⟩
            subst ek
            cases k' with
            | false =>
              dsimp only at hcl
              rw [if_neg Bool.false_ne_true]
              exact ⟨hlt, Hf6, _, acc, es', sA.trans s6, st6.back w5', wipeG_none, hcl, hes⟩
            | true =>
              dsimp only at hcl
              rw [if_pos rfl]
              refine ⟨Hf6, Γ5, _, st6, ?_⟩
              cases he : f1 Γ5 with
              | ex e Γ6 => rw [he] at hcl; cases hcl
              | st => rw [he] at hcl; cases hcl
              | ok ds1 Γ6 =>
                rw [he] at hcl
                dsimp only at hcl
                intro J1 H7 Hf7 s7 ⟨st7, it7⟩
                cases hr1 : compL is1 t1 c1 fe ds1 (wipeG Γ6 is1) with
                | none => rw [hr1] at hcl; cases hcl
                | some r1 =>
                  obtain ⟨es1, Γ7⟩ := r1
                  rw [hr1] at hcl
                  dsimp only at hcl
                  cases hr : compL2 is t c f1 is1 t1 c1 fe (ds.drop (i + 1)) (wipeG Γ7 is) with
                  | none => rw [hr] at hcl; cases hcl
                  | some r =>
                    obtain ⟨es2, Γ8⟩ := r
                    rw [hr] at hcl
                    cases hcl
                    have hl : acc.length + (es1.length + es2.length) = es.length := by
                      have := congrArg List.length hes
                      rw [List.length_append, List.length_append] at this
                      exact this
                    refine comp_in (g := g) it7 (st7.wipe is1) wipeG_none hr1 (by omega) fun H8 Hf8 s8 st8 => ?_
                    refine ⟨hlt, Hf8, wipeG Γ7 is, acc ++ es1, es2, ((sA.trans s6).trans s7).trans s8, ?_, wipeG_none, hr, by rw [List.append_assoc]; exact hes⟩
                    exact st8.back (by rw [wipe_in hv]; exact w5')
    · exact q.elim
theorem pv_lc2 {elt tg iter tg1 iter1 : Expr} {ifs ifs1 : List Expr} {scope : Scope} {own : List (Str × Nat)} {is1 : List Nat} {pos : Pos} {f f1 : Ev → Out (List D)} {t t1 : D → Ev → Option Ev} {c c1 : Ev → Out Bool} {fe : Ev → Out D} (hc : X.calm = true) (hN : X.N.Nodup) (ok : BlkOk X.N X.env.scope scope own) (hi : PIt X W tg iter f) (hv : ∀ i ∈ is1, i ∈ own.map (·.2))
    (hg : ∀ (s : Shared) (H : L2.Hp) (C : Addr) (cl : List (Str × Addr)) (fp : List Addr), PGt (X.blk s H scope (compEnvC scope cl C X.env) fp) tg (own.map (·.2)) t)
    (ht : ∀ (s : Shared) (H : L2.Hp) (C : Addr) (cl : List (Str × Addr)) (fp : List Addr), PBs (X.blk s H scope (compEnvC scope cl C X.env) fp) W0 ifs c)
    (hi1 : ∀ (s : Shared) (H : L2.Hp) (C : Addr) (cl : List (Str × Addr)) (fp : List Addr), PIt (X.blk s H scope (compEnvC scope cl C X.env) fp) W0 tg1 iter1 f1)
    (hg1 : ∀ (s : Shared) (H : L2.Hp) (C : Addr) (cl : List (Str × Addr)) (fp : List Addr), PGt (X.blk s H scope (compEnvC scope cl C X.env) fp) tg1 is1 t1)
    (ht1 : ∀ (s : Shared) (H : L2.Hp) (C : Addr) (cl : List (Str × Addr)) (fp : List Addr), PBs (X.blk s H scope (compEnvC scope cl C X.env) fp) W0 ifs1 c1)
    (he : ∀ (s : Shared) (H : L2.Hp) (C : Addr) (cl : List (Str × Addr)) (fp : List Addr), PF (X.blk s H scope (compEnvC scope cl C X.env) fp) W0 elt fe) (hs : ∀ x, foldedSetIterable iter X.env x = pure x := by intro _; rfl) (hs1 : ∀ env x, foldedSetIterable iter1 env x = pure x := by intro _ _; rfl) :
    PV X W (.ListComp elt [⟨tg, iter, ifs, 0⟩, ⟨tg1, iter1, ifs1, 0⟩] scope pos) (vComp2 (own.map (·.2)) f t c f1 is1 t1 c1 fe) :=
  ⟨fun f0 h0 => (pe_lc2 hc hN (hi.run f0 h0) ok hv (fun s H C cl fp => (hg s H C cl fp).run (gh X W f0 h0) rfl) (fun s H C cl fp => (ht s H C cl fp).run f0 h0) (fun s H C cl fp => (hi1 s H C cl fp).run f0 h0) (fun s H C cl fp => (hg1 s H C cl fp).run (gh X W f0 h0) rfl) (fun s H C cl fp => (ht1 s H C cl fp).run f0 h0) (fun s H C cl fp => (he s H C cl fp).run f0 h0) hs hs1).imp fun σ H Q h => comp2_core (g := gh X W f0 h0) hv h⟩
theorem ps_lc2 (i : Nat) {y : Str} {py : Pos} {elt tg iter tg1 iter1 : Expr} {ifs ifs1 : List Expr} {scope : Scope} {own : List (Str × Nat)} {is1 : List Nat} {pos spos : Pos} {f f1 : Ev → Out (List D)} {t t1 : D → Ev → Option Ev} {c c1 : Ev → Out Bool} {fe : Ev → Out D} (hc : X.calm = true) (hN : X.N.Nodup) (ok : BlkOk X.N X.env.scope scope own)
    (hy : X.N[i]? = some y) (hyl : X.env.scope.names.lookup y = some .local) (hsw : swapsWith (.ListComp elt [⟨tg, iter, ifs, 0⟩, ⟨tg1, iter1, ifs1, 0⟩] scope pos) (some (.Name y py)) spos.line X.env = pure true) (hi : PIt X W tg iter f) (hv : ∀ i ∈ is1, i ∈ own.map (·.2))
    (hg : ∀ (s : Shared) (H : L2.Hp) (C : Addr) (cl : List (Str × Addr)) (fp : List Addr), PGt (X.blk s H scope (compEnvC scope cl C X.env) fp) tg (own.map (·.2)) t)
    (ht : ∀ (s : Shared) (H : L2.Hp) (C : Addr) (cl : List (Str × Addr)) (fp : List Addr), PBs (X.blk s H scope (compEnvC scope cl C X.env) fp) W0 ifs c)
    (hi1 : ∀ (s : Shared) (H : L2.Hp) (C : Addr) (cl : List (Str × Addr)) (fp : List Addr), PIt (X.blk s H scope (compEnvC scope cl C X.env) fp) W0 tg1 iter1 f1)
    (hg1 : ∀ (s : Shared) (H : L2.Hp) (C : Addr) (cl : List (Str × Addr)) (fp : List Addr), PGt (X.blk s H scope (compEnvC scope cl C X.env) fp) tg1 is1 t1)
    (ht1 : ∀ (s : Shared) (H : L2.Hp) (C : Addr) (cl : List (Str × Addr)) (fp : List Addr), PBs (X.blk s H scope (compEnvC scope cl C X.env) fp) W0 ifs1 c1)
    (he : ∀ (s : Shared) (H : L2.Hp) (C : Addr) (cl : List (Str × Addr)) (fp : List Addr), PF (X.blk s H scope (compEnvC scope cl C X.env) fp) W0 elt fe) (hs : ∀ x, foldedSetIterable iter X.env x = pure x := by intro _; rfl) (hs1 : ∀ env x, foldedSetIterable iter1 env x = pure x := by intro _ _; rfl) :
    PSt X W (.Assign [.Name y py] (.ListComp elt [⟨tg, iter, ifs, 0⟩, ⟨tg1, iter1, ifs1, 0⟩] scope pos) spos) (sAsg i (vComp2 (own.map (·.2)) f t c f1 is1 t1 c1 fe)) :=
  ⟨fun f0 h0 => (ps_setLc2 hc hN hy hyl hsw (hi.run f0 h0) ok hv (fun s H C cl fp => (hg s H C cl fp).run (gh X W f0 h0) rfl) (fun s H C cl fp => (ht s H C cl fp).run f0 h0) (fun s H C cl fp => (hi1 s H C cl fp).run f0 h0) (fun s H C cl fp => (hg1 s H C cl fp).run (gh X W f0 h0) rfl) (fun s H C cl fp => (ht1 s H C cl fp).run f0 h0) (fun s H C cl fp => (he s H C cl fp).run f0 h0) hs hs1).imp fun D σ H ⟨Hf, Γ, fr, st, p⟩ =>
    comp2_core (g := gh X W f0 h0) hv ⟨Hf, Γ, fr, st, PostS.bind p fun x Γ1 _ v H1 Hf1 s1 st1 q => q _ H1 Hf1 (Same.refl _) (st1.store i)⟩⟩
end
/-! ### try .. except C as e -/
theorem raw_inv {K : PySem.W.Frag} {H : Hp} {v : V} {a : Addr} (h : Fz K H v (.dict [(.none, .int ((a : Nat) : Int))])) : v = .ref a := by
  generalize hd : PyData.dict [(PyData.none, PyData.int ((a : Nat) : Int))] = d at h
  cases h with
  | raw a' =>
    unfold rawD at hd
    have e := PyData.dict.inj hd
    have e2 := congrArg (fun l : List (D × D) => match l with | [(_, .int n)] => n | _ => 0) e
    have e3 : ((a : Nat) : Int) = ((a' : Nat) : Int) := e2
    exact congrArg V.ref (Int.ofNat.inj e3).symm
  | scr ns h =>
    have e := PyData.dict.inj hd
    have e2 := congrArg (fun l : List (D × D) => match l with | [(_, .int _)] => true | _ => false) e
    cases e2
  | @dK a0 kvs ds h r =>
    have e := PyData.dict.inj hd
    exfalso
    cases kvs with
    | nil => cases e
    | cons kv kvs =>
      cases r with
      | cons _ _ =>
        have e2 := congrArg (fun l : List (D × D) => match l with | (.none, _) :: _ => true | _ => false) e
        obtain ⟨k, w⟩ := kv
        cases k <;> cases e2
  | _ => cases hd
def sClr (i : Nat) (r : SO) : SO := match r with
  | .nx Γ => .nx (Γ.set i none)
  | .rt x Γ => .rt x (Γ.set i none)
  | .bk Γ => .bk (Γ.set i none)
  | .ct Γ => .ct (Γ.set i none)
  | .ex _ _ => .st
  | .st => .st
def tryA (m : Str → Option Bool) (i : Nat) (fs : Addr → Exc → Ev → SO) (r : SO) : SO := match r with
  | .ex e Γ1 => (match m e.c with
    | some true => if e.fs.isEmpty = true then sClr i (fs 0 e (Γ1.set i (some (.z, rawD 0)))) else .st
    | some false => .ex e Γ1
    | none => .st)
  | r => r
def sTryA (m : Str → Option Bool) (i : Nat) (fb : Ev → SO) (fs : Addr → Exc → Ev → SO) : Ev → SO := fun Γ => tryA m i fs (fb Γ)
def rawS (a : Addr) (o : Option (Option Va)) (r : Out D) : Out D := match o with
  | some (some (.z, .dict [(.none, .int n)])) => if n = (a : Nat) then r else .st
  | _ => .st
/-- isinstance(e, C), e the caught exception -/
def fIsX (i : Nat) (isx : Str → Option Bool) (a : Addr) (e : Exc) : Ev → Out D := fun Γ => rawS a (Γ[i]?) (match isx e.c with | some b => .ok (.bool b) Γ | none => .st)
section
variable {g : GW} {D : Ends} {fr : List (V × Va)} {Hf H : Hp} {σ : St} {Γ : Ev}
theorem StOk.clr (h : StOk g.h Hf H σ Γ fr) (i : Nat) : StOk g.h Hf H (σ.set i none) (Γ.set i none) fr := by
  have hl : Γ.length = σ.length := by
    obtain ⟨ω, h⟩ := h
    exact h.len
  refine h.weak (by rw [List.length_set, List.length_set, hl]) fun j x e => ?_
  have hj : i ≠ j := fun z => by
    subst z
    rw [List.getElem?_set] at e
    simp at e
  rw [List.getElem?_set_ne hj] at e
  exact ⟨e, List.getElem?_set_ne hj⟩
theorem PostS.clr {mg' : Str → Option Value} {W' : WX} {i : Nat} {r : SO} (p : PostS g D fr Hf (sClr i r)) : PostS ⟨g.h, mg', W'⟩ { nx := fun σ' H' => D.nx (σ'.set i none) H', rt := D.rt, bk := fun σ' H' => D.bk (σ'.set i none) H', ct := fun σ' H' => D.ct (σ'.set i none) H' } fr Hf r := by
  cases r with
  | nx Γ => exact fun σ' H' Hf' s st => p _ H' Hf' s (st.clr i)
  | rt x Γ => exact fun v σ' H' Hf' s st => p v _ H' Hf' s (st.clr i)
  | bk Γ => exact fun σ' H' Hf' s st => p _ H' Hf' s (st.clr i)
  | ct Γ => exact fun σ' H' Hf' s st => p _ H' Hf' s (st.clr i)
  | ex e Γ => exact p.elim
  | st => exact p.elim
end
section
variable {X : Cx} {W : WX} {pos : Pos}
theorem pf_isx {x y n : Str} {p p1 p2 : Pos} {i : Nat} {a Dd : Addr} {oe : Obj} {pn : List (Addr × Obj)} {isx : Str → Option Bool} {e : Exc} {Cc : Addr} (hz : Zc (.ref Dd) none oe) (hf : ∃ vs, oe.data = .fields vs) (hD : X.mg e.c = some (.ref Dd))
    (hk : ∀ c b D0, isx c = some b → X.mg c = some (.ref D0) → ExcC X.K D0 ∧ PySem.W.kitOne X.K (.ref D0) (.ref Cc) = some b)
    (hg : Gl (X.suite a ((a, oe) :: pn)) x) (hm : X.mg x = none) (hv : bootBuiltins x = some (.builtin "isinstance"))
    (hN : X.N[i]? = some n) (hvis : Vis X.env.scope n) (hd : (n == ("__debug__" : Str)) = false) (hcd : (n == ("__classdict__" : Str)) = false)
    (hg2 : Gl (X.suite a ((a, oe) :: pn)) y) (hm2 : X.mg y = some (.ref Cc))
    (hn : x ≠ "__name__" := by decide) (hdb : (x == ("__debug__" : Str)) = false := by decide) (hdb2 : (y == ("__debug__" : Str)) = false := by decide)
    (he : starEach [.Name n p1, .Name y p2] X.env = (false, eval (.Name n p1) X.env) :: starEach [.Name y p2] X.env := by rfl) (hpl : (backTo pos (starEach [.Name y p2] X.env)).any (·.1) = false := by rfl)
    (he2 : starEach [.Name y p2] X.env = (false, eval (.Name y p2) X.env) :: starEach [] X.env := by rfl) :
    PF (X.suite a ((a, oe) :: pn)) W (.Call (.Name x p) [.Name n p1, .Name y p2] [] pos) (fIsX i isx a e) :=
  ⟨fun f0 h0 => by
    cases hb : isx e.c with
    | none =>
      refine ⟨fun pins s σ H Q I h => ?_⟩
      obtain ⟨Hf, Γ, fr, st, q⟩ := h
      exfalso
      unfold fIsX rawS at q
      rw [hb] at q
      split at q
      · split at q <;> exact q.elim
      · exact q.elim
    | some b =>
      obtain ⟨hC, hkit⟩ := hk e.c b Dd hb hD
      refine (pe_callB (call_isE hC hz hf) hg hm hv (pa_cons (pe_var (X := X.suite a ((a, oe) :: pn)) hN hvis hd hcd) (pa_cons (pe_glob hg2 hm2 (v := .ref Cc) rfl hdb2) pa_nil he2) he) hn hdb he hpl).imp fun σ H Q ⟨Hf, Γ, fr, st, q⟩ => ?_
      unfold fIsX rawS at q
      rw [hb] at q
      split at q
      · rename_i k hg
        split at q
        · rename_i hka
          subst hka
          obtain ⟨v, e1, z⟩ := st.getZ hg
          have ev : v = .ref a := raw_inv z
          subst ev
          exact ⟨.ref a, e1, .ref Cc, .ref Cc, b, rfl, fun u r => r, hkit, q _ H Hf (Same.refl _) ⟨st, .bl _⟩⟩
        · exact q.elim
      · exact q.elim⟩
theorem ps_tryA {x n : Str} {i : Nat} {c : Value} {body suite : List Stmt} {b₀ : Stmt} {np pos' : Pos} {m : Str → Option Bool} {fb : Ev → SO} {fs : Addr → Exc → Ev → SO} (hs : X.stack = X.env :: X.outer) (hf : X.env.frame = some X.env.locals) (hN : X.N.Nodup) (hi : X.N[i]? = some n) (hln : X.env.kindOf n = some .local) (hc : Names X x c) (tk : Takes X W)
    (hm : ∀ n b cls, m n = some b → X.mg n = some cls → PySem.W.exmOne X.K cls c = some b) (hcr : ∀ n cls, m n = some true → X.mg n = some cls → ∃ D0, cls = .ref D0)
    (hp : ∀ (a : Addr) (e : Exc) (Γ : Ev), sClr i (fs a e (Γ.set i (some (.z, rawD a)))) = sClr i (fs 0 e (Γ.set i (some (.z, rawD 0)))))
    (hb : ∀ (W' : WX) (pn : List (Addr × Obj)) (xe : Value → Shared → Prop), Takes (X.tr pn xe) W' → PassesOwn (model X.prog X.w) X.A X.env xe → PSts (X.tr pn xe) W' body fb)
    (hsu : ∀ (a : Addr) (oe : Obj) (Dd : Addr) (e : Exc) (pn : List (Addr × Obj)), Zc (.ref Dd) none oe → (∃ vs, oe.data = .fields vs) → X.mg e.c = some (.ref Dd) → PSts (X.suite a ((a, oe) :: pn)) W0 (b₀ :: suite) (fs a e)) :
    PSt X W (.Try body [.ExceptHandler (some (.Name x np)) (some n) (b₀ :: suite) pos'] [] [] pos) (sTryA m i fb fs) :=
  ⟨fun f0 h0 => (L2.ps_try_as (tb := fun W' => tS ⟨⟨X.K, f0, h0⟩, X.mg, W'⟩ fb) (ts := fun a cls d D σ H => ∃ e Dd, X.mg e.c = some (.ref Dd) ∧ cls = .ref Dd ∧ d = none ∧ tS ⟨⟨X.K, f0, h0⟩, X.mg, W0⟩ (fs a e) D σ H) hs hf hN hi hln hc tk (fun W' pn xe tk' pw => (hb W' pn xe tk' pw).run f0 h0)
    (fun a oe cls d pn hz hfl => ⟨fun pins s σ H D I h => by
      obtain ⟨e, Dd, h1, rfl, rfl, h2⟩ := h
      exact ((hsu a oe Dd e pn hz hfl h1).run f0 h0).run pins s σ H D I h2⟩)).imp fun D σ H ⟨Hf, Γ, fr, st, p⟩ => by
    refine ⟨Hf, Γ, fr, st, ?_⟩
    unfold sTryA at p
    cases h : fb Γ with
    | nx Γ1 => rw [h] at p; exact p
    | rt x Γ1 => rw [h] at p; exact p
    | bk Γ1 => rw [h] at p; exact p
    | ct Γ1 => rw [h] at p; exact p
    | st => rw [h] at p; exact p
    | ex e Γ1 =>
      rw [h] at p
      unfold tryA at p
      dsimp only at p
      intro σ' cls dx H' Hf' s' xo st'
      cases hmm : m e.c with
      | none => rw [hmm] at p; exact p.elim
      | some b =>
        rw [hmm] at p
        refine ⟨b, hm e.c b cls hmm xo.1, fun eb a na => ?_, fun eb => ?_⟩
        · subst eb
          dsimp only at p
          split at p
          · rename_i hfs
            obtain ⟨Dd, rfl⟩ := hcr _ _ hmm xo.1
            have hdx : dx = none := by
              rcases xo.2 with ⟨_, z⟩ | ⟨a1, fv, z1, z2, z3, z4, z5⟩
              · exact z
              · exact absurd (List.isEmpty_iff.mp hfs) z5
            refine ⟨e, Dd, xo.1, rfl, hdx, Hf', Γ1.set i (some (.z, rawD a)), fr, (st'.push (.raw a)).store i, ?_⟩
            rw [← hp a] at p
            exact PostS.mono (PostS.clr (g := gh X W f0 h0) p) s'
          · exact p.elim
        · subst eb
          exact p σ' cls dx H' Hf' s' xo st'⟩
end
end PV
namespace PV
open PySem PySem.Spec PyProof.Rows L2
/-! ### classes of exceptions, one against another -/
section
variable {K : PySem.W.Frag} {R C : Addr} {b : Bool}
theorem kitCls_of (h2 : PySem.W.isClsIn K C = true) (h3 : PySem.W.typeIn K (.ref C) = some (.type "type")) (h4 : PySem.W.subIn K (.ref R) (.ref C) = some b) : PySem.W.kitCls K (.ref R) (.ref C) = some b := by
  have a2 : ((PySem.W.clsIn K C).isSome && PySem.W.typeIn K (.ref C) == some (.type "type")) = true := by
    have z : (PySem.W.clsIn K C).isSome = true := h2
    rw [z, h3]
    rfl
  unfold PySem.W.kitCls
  simp only [a2, if_true]
  exact h4
theorem exm_of2 (h1 : PySem.W.subIn K (.ref C) (.type "BaseException") = some true) (h2 : PySem.W.isClsIn K C = true) (h3 : PySem.W.typeIn K (.ref C) = some (.type "type")) (h4 : PySem.W.subIn K (.ref R) (.ref C) = some b) :
    PySem.W.exmOne K (.ref R) (.ref C) = some b := by
  have a1 : (PySem.W.subIn K (.ref C) (.type "BaseException") == some true) = true := by rw [h1]; rfl
  unfold PySem.W.exmOne
  simp only [a1, if_true]
  exact kitCls_of h2 h3 h4
theorem kit_of2 (h0 : PySem.W.subIn K (.ref R) (.ref R) = some true) (h2 : PySem.W.isClsIn K C = true) (h3 : PySem.W.typeIn K (.ref C) = some (.type "type")) (h4 : PySem.W.subIn K (.ref R) (.ref C) = some b) :
    PySem.W.kitOne K (.ref R) (.ref C) = some b := by
  unfold PySem.W.kitOne
  by_cases e : ((Value.ref R == Value.ref C) = true)
  · rw [if_pos e]
    have e' : R = C := Value.ref.inj (beq_iff_eq.mp e)
    subst e'
    rw [h0] at h4
    exact h4
  · rw [if_neg e]
    exact kitCls_of h2 h3 h4
end
end PV
namespace PV
open PySem PySem.Spec PyProof.Rows L2
/-! ### slots forgotten -/
def sWp (is : List Nat) (a : Ev → SO) : Ev → SO := fun Γ => match a Γ with
  | .nx Γ1 => .nx (wipeG Γ1 is)
  | .ct Γ1 => .ct (wipeG Γ1 is)
  | .bk Γ1 => .bk (wipeG Γ1 is)
  | r => r
def sPre (is : List Nat) (a : Ev → SO) : Ev → SO := fun Γ => a (wipeG Γ is)
theorem StOk.wiped {g : Gh} {Hf H : Hp} {σ : St} {Γ : Ev} {fr : List (V × Va)} (h : StOk g Hf H σ Γ fr) (is : List Nat) : StOk g Hf H σ (wipeG Γ is) fr := by
  have hl : Γ.length = σ.length := by
    obtain ⟨ω, h⟩ := h
    exact h.len
  exact h.weak (by rw [wipeG_len, hl]) fun i x e => ⟨(wipeG_get e).1, rfl⟩
theorem PostS.unwp {g : GW} {D : Ends} {fr : List (V × Va)} {Hf : Hp} {is : List Nat} {a : Ev → SO} {Γ : Ev} (q : PostS g D fr Hf (sWp is a Γ)) : PostS g D fr Hf (a Γ) := by
  unfold sWp at q
  cases h : a Γ with
  | nx Γ1 => rw [h] at q; exact fun σ' H' Hf' s st => q σ' H' Hf' s (st.wiped is)
  | ct Γ1 => rw [h] at q; exact fun σ' H' Hf' s st => q σ' H' Hf' s (st.wiped is)
  | bk Γ1 => rw [h] at q; exact fun σ' H' Hf' s st => q σ' H' Hf' s (st.wiped is)
  | rt x Γ1 => rw [h] at q; exact q
  | ex e Γ1 => rw [h] at q; exact q
  | st => rw [h] at q; exact q
theorem ps_wp {X : Cx} {W : WX} {st : Stmt} {a : Ev → SO} (is : List Nat) (h : PSt X W st a) : PSt X W st (sWp is a) := ⟨fun f0 h0 => (h.run f0 h0).imp fun D σ H ⟨Hf, Γ, fr, st, q⟩ => ⟨Hf, Γ, fr, st, q.unwp⟩⟩
theorem pss_wp {X : Cx} {W : WX} {st : List Stmt} {a : Ev → SO} (is : List Nat) (h : PSts X W st a) : PSts X W st (sWp is a) := ⟨fun f0 h0 => (h.run f0 h0).imp fun D σ H ⟨Hf, Γ, fr, st, q⟩ => ⟨Hf, Γ, fr, st, q.unwp⟩⟩
theorem ps_pre {X : Cx} {W : WX} {st : Stmt} {a : Ev → SO} (is : List Nat) (h : PSt X W st a) : PSt X W st (sPre is a) := ⟨fun f0 h0 => (h.run f0 h0).imp fun D σ H ⟨Hf, Γ, fr, st, q⟩ => ⟨Hf, wipeG Γ is, fr, st.wiped is, q⟩⟩
theorem wp_nx {is : List Nat} {a : Ev → SO} {Γ Γ1 : Ev} (h : a Γ = .nx Γ1) : sWp is a Γ = .nx (wipeG Γ1 is) := by unfold sWp; rw [h]
end PV
namespace PV
open PySem PySem.Spec PyProof.Rows L2
theorem hU65 {k : Nat} {A : Around} (hr : Room k A) : A.units + 65 < cLine := by have := hr.un; omega
/-! ### in, not in: data of any depth -/
def dInX (x y : D) : Option Bool := match y with
  | .list ds => if SeqAt.shaped x && SeqAt.shaped (.list ds) then some (ds.any fun z => PyData.eqv z x) else none
  | _ => none
def dInD (a b : D) : Option Va := b2 (dInX a b)
def dNinD (a b : D) : Option Va := b2 ((dInX a b).map not)
section
variable {K : PySem.W.Frag}
theorem inX_ok {Hf H : Hp} {x y : V} {dx dy : D} {c : Bool} (s : Same Hf H) (h1 : Fz1 K Hf H x dx) (h2 : Fz1 K Hf H y dy) (e : dInX dx dy = some c) : ∃ d ds, Dp K H x d ∧ Dp K H y (.list ds) ∧ SeqAt.shaped d = true ∧ SeqAt.shaped (.list ds) = true ∧ (ds.any fun z => PyData.eqv z d) = c := by
  unfold dInX at e
  split at e
  · split at e
    · rename_i hf
      rw [Bool.and_eq_true] at hf
      exact ⟨_, _, h1.dp s (SeqAt.canLay_of_shaped hf.1), h2.dp s (SeqAt.canLay_of_shaped hf.2), hf.1, hf.2, Option.some.inj e⟩
    · cases e
  · cases e
theorem ops_inD : OpS K (rInD K) dInD := fun Hf H x y dx dy z Q s h1 h2 e q => by
  cases h : dInX dx dy with
  | none => rw [dInD, h] at e; cases e
  | some c =>
    rw [dInD, h] at e
    cases e
    obtain ⟨d, ds, a1, a2, a3, a4, a5⟩ := inX_ok s h1 h2 h
    exact ⟨d, ds, a1, a2, a3, a4, by rw [a5]; exact q _ H Hf (.z s (.bl c))⟩
theorem ops_ninD : OpS K (rNotInD K) dNinD := fun Hf H x y dx dy z Q s h1 h2 e q => by
  cases h : dInX dx dy with
  | none => rw [dNinD, h] at e; cases e
  | some c =>
    rw [dNinD, h] at e
    cases e
    obtain ⟨d, ds, a1, a2, a3, a4, a5⟩ := inX_ok s h1 h2 h
    exact ⟨d, ds, a1, a2, a3, a4, by rw [a5]; exact q _ H Hf (.z s (.bl (!c)))⟩
end
/-! ### a built-in method of a frozen receiver that changes nothing -/
def rcvT (T : String) (d : D) : Bool := match d with
  | .list _ => T == "list"
  | .str _ => T == "str"
  | _ => false
def fBM (T : String) (op : D → List D → Option Va) (fr : Ev → Out D) (fs : Ev → Out (List D)) : Ev → Out Va := fun Γ => (fr Γ).bind fun d Γ1 => if rcvT T d = true then ((fs Γ1).bind fun ds Γ2 => .of (op d ds) Γ2) else .st
def BmS (K : PySem.W.Frag) (r : V → List V → Hp → VK → Prop) (op : D → List D → Option Va) : Prop := ∀ (Hf H : Hp) (x : V) (xs : List V) (d : D) (ds : List D) (z : Va) (Q : VK), Same Hf H → Fz K Hf x d → FzAll K Hf xs ds → op d ds = some z → (∀ v H' Hf', NewV K Hf H H' Hf' v z → Q v H') → r x xs H Q
theorem rcv_ty {K : PySem.W.Frag} {Hf H : Hp} {v : V} {d : D} {T : String} (h : Fz K Hf v d) (s : Same Hf H) (c : rcvT T d = true) : tyV K T v H := by
  cases h with
  | lst h r => exact .inl ⟨eq_of_beq c, _, SqL.of (s _ _ h)⟩
  | str x => exact eq_of_beq c
  | _ => cases c
section
variable {X : Cx} {W : WX} {e o : Expr} {es : List Expr} {name : Str} {apos cpos : Pos} {T id : String} {r : V → List V → Hp → VK → Prop} {op : D → List D → Option Va} {fr : Ev → Out D} {fs : Ev → Out (List D)}
theorem pv_bm (pa : PlainAttrs T) (slot : Slot T name id) (hty : typeOf (.builtin id) = pure (.type "method_descriptor")) (hm : MtR X id r) (hs : BmS X.K r op) (ho : PF X W o fr) (ha : PFs X W (e :: es) fs)
    (hbase : attributeBase o name X.env (eval o X.env) = eval o X.env := by rfl)
    (hfew : ((backTo cpos (starEach (e :: es) X.env)).all (fun x => !x.1) && (backToKw cpos (keywordEach [] X.env)).all (fun x => x.1.isSome)
      && decide ((e :: es).length + ([] : List Keyword).length + (if ([] : List Keyword).isEmpty then 0 else 1) < 30)) = true := by rfl)
    (hline : (apos.endLine == cpos.line) = true := by rfl) (hst : starEach (e :: es) X.env = (false, eval e X.env) :: starEach es X.env := by rfl) (hplain : (backTo cpos (starEach es X.env)).any (·.1) = false := by rfl) :
    PV X W (.Call (.Attribute o name apos) (e :: es) [] cpos) (fBM T op fr fs) :=
  ⟨fun f0 h0 => (pe_bm pa slot hty hm (ho.run f0 h0) (ha.run f0 h0) hbase hfew hline hst hplain).imp fun σ H Q ⟨Hf, Γ, fr, st, p⟩ => ⟨Hf, Γ, fr, st, Post.bind p fun d Γ1 _ v H1 Hf1 s1 ⟨st1, z⟩ q => by
    split at q
    · rename_i c
      refine ⟨rcv_ty z st1.sub c, Hf1, Γ1, fr, st1, Post.bind q fun ds Γ2 _ vs H2 Hf2 s2 ⟨st2, l2⟩ q => ?_⟩
      obtain ⟨x, e, q⟩ := Post.of q
      exact hs Hf2 H2 v vs d ds x Q st2.sub (z.mono s2) l2 e fun v H' Hf' n => q v H' Hf' n.f1 (st2.pushN n)
    · exact q.elim⟩⟩
theorem pv_bm0 (pa : PlainAttrs T) (slot : Slot T name id) (hty : typeOf (.builtin id) = pure (.type "method_descriptor")) (hm : MtR X id r) (hs : BmS X.K r op) (ho : PF X W o fr)
    (hbase : attributeBase o name X.env (eval o X.env) = eval o X.env := by rfl) (hline : (apos.endLine == cpos.line) = true := by rfl) :
    PV X W (.Call (.Attribute o name apos) [] [] cpos) (fBM T op fr fsN) :=
  ⟨fun f0 h0 => (pe_bm0 pa slot hty hm (ho.run f0 h0) hbase hline).imp fun σ H Q ⟨Hf, Γ, fr, st, p⟩ => ⟨Hf, Γ, fr, st, Post.bind p fun d Γ1 _ v H1 Hf1 s1 ⟨st1, z⟩ q => by
    split at q
    · rename_i c
      have q' : Post (gh X W f0 h0) σ fr (RV (gh X W f0 h0) σ fr) Hf1 Q (.of (op d []) Γ1) := q
      obtain ⟨x, e, q⟩ := Post.of q'
      exact ⟨rcv_ty z st1.sub c, hs Hf1 H1 v [] d [] x Q st1.sub z .nil e fun v H' Hf' n => q v H' Hf' n.f1 (st1.pushN n)⟩
    · exact q.elim⟩⟩
end
/-! list.index -/
def dIndex : D → List D → Option Va
  | .list ds, [k] => if SeqAt.shaped k && SeqAt.shaped (.list ds) then (ds.findIdx? fun z => PyData.eqv z k).map fun j => (.z, .int (j : Nat)) else none
  | _, _ => none
theorem bm_index {K : PySem.W.Frag} : BmS K (rIndexD K) dIndex := fun Hf H x xs d ds z Q s h1 h2 e q => by
  unfold dIndex at e
  split at e
  · rename_i ds k
    split at e
    · rename_i hf
      rw [Bool.and_eq_true] at hf
      obtain ⟨v, rfl, hv⟩ := h2.one
      cases hj : ds.findIdx? fun z => PyData.eqv z k with
      | none => rw [hj] at e; cases e
      | some j =>
        rw [hj] at e
        cases e
        cases h1 with
        | lst hl r =>
          have hdl : Dp K H _ (.list ds) := Fz.dp ((Fz.lst hl r).mono s) (SeqAt.canLay_of_shaped hf.2)
          have hdk : Dp K H v k := Fz.dp (hv.mono s) (SeqAt.canLay_of_shaped hf.1)
          obtain ⟨hlt, h3, h4⟩ := List.findIdx?_eq_some_iff_getElem.mp hj
          refine ⟨_, v, k, ds, j, ds[j], rfl, rfl, hdl, hdk, hf.2, hf.1, List.getElem?_eq_getElem hlt, h3, fun m z' hm hz' => ?_, q _ H Hf (.z s (.int _))⟩
          have hml : m < ds.length := by omega
          rw [List.getElem?_eq_getElem hml] at hz'
          cases hz'
          have := h4 m hm
          cases hc : PyData.eqv ds[m] k with
          | true => exact absurd hc this
          | false => rfl
    · cases e
  · cases e
end PV
namespace PV
open PySem PySem.Spec PyProof.Rows L2
/-! ### dicts whose keys are tuples -/
def dKeys : List D → Option (List Key)
  | [] => some []
  | d :: ds => (dKey d).bind fun k => (dKeys ds).map (k :: ·)
def tKey : D → Option (List Key)
  | .tuple ds => dKeys ds
  | _ => none
theorem dKeys_kD : ∀ (ks : List Key), dKeys (ks.map kD) = some ks
  | [] => rfl
  | k :: ks => by
    show ((dKey (kD k)).bind fun k => (dKeys (ks.map kD)).map (k :: ·)) = _
    rw [dKey_kD, dKeys_kD ks]; rfl
theorem tKey_kT (ks : List Key) : tKey (kT ks) = some ks := dKeys_kD ks
theorem dKeys_val {K : PySem.W.Frag} {H : Hp} : ∀ {vs : List V} {ds : List D} {ks : List Key}, FzAll K H vs ds → dKeys ds = some ks → vs = ks.map kV ∧ ds = ks.map kD
  | _, _, _, .nil, e => by cases e; exact ⟨rfl, rfl⟩
  | _, _, _, .cons (d := d) (ds := ds) h r, e => by
    change ((dKey d).bind fun k => (dKeys ds).map (k :: ·)) = _ at e
    cases h1 : dKey d with
    | none => rw [h1] at e; cases e
    | some k =>
      cases h2 : dKeys ds with
      | none => rw [h1, h2] at e; cases e
      | some ks' =>
        rw [h1, h2] at e
        cases e
        obtain ⟨e1, e2⟩ := dKeys_val r h2
        obtain ⟨e3, e4⟩ := key_val h h1
        exact ⟨by rw [e1, e3]; rfl, by rw [e2, e4]; rfl⟩
theorem tkey_val {K : PySem.W.Frag} {H : Hp} {v : V} {d : D} {ks : List Key} (h : Fz K H v d) (e : tKey d = some ks) : ∃ b, v = .ref b ∧ H b = some (.tup (ks.map kV)) ∧ d = kT ks := by
  cases h with
  | tup h r =>
    obtain ⟨rfl, rfl⟩ := dKeys_val r e
    exact ⟨_, rfl, h, rfl⟩
  | _ => cases e
def tLook : List (D × D) → List Key → Option D
  | [], _ => none
  | (k, d) :: r, x => if tKey k = some x then some d else tLook r x
theorem tlook_ok {K : PySem.W.Frag} {Hf : Hp} (x : List Key) : ∀ {kvs : List (List Key × V)} {ds : List D}, FzAll K Hf (kvs.map (·.2)) ds → (valV kvs x = none ∧ tLook ((kvs.map fun p => kT p.1).zip ds) x = none) ∨ ∃ v d, valV kvs x = some v ∧ tLook ((kvs.map fun p => kT p.1).zip ds) x = some d ∧ Fz K Hf v d
  | [], _, _ => .inl ⟨rfl, by cases ‹List D› <;> rfl⟩
  | (k, v) :: kvs, _, .cons (d := d) (ds := ds) h r => by
    show (valV ((k, v) :: kvs) x = none ∧ (if tKey (kT k) = some x then some d else tLook ((kvs.map fun p => kT p.1).zip ds) x) = none) ∨ _
    rw [tKey_kT]
    by_cases e : k = x
    · subst e
      exact .inr ⟨v, d, by unfold valV; simp, by
        show (if tKey (kT k) = some k then some d else _) = some d
        rw [tKey_kT, if_pos rfl], h⟩
    · have n : ¬ (some k = some x) := fun z => e (Option.some.inj z)
      have e2 : valV ((k, v) :: kvs) x = valV kvs x := by
        unfold valV
        rw [List.find?_cons_of_neg (by simpa using e)]
      rw [if_neg n, e2]
      rcases tlook_ok x r with h | ⟨v', d', h1, h2, h3⟩
      · exact .inl h
      · exact .inr ⟨v', d', h1, by
          show (if tKey (kT k) = some x then some d else _) = some d'
          rw [tKey_kT, if_neg n]
          exact h2, h3⟩
/-! ### dicts at a slot -/
def trows (kvs : List (List Key × V)) (ds : List D) : List (D × D) := (kvs.map fun p => kT p.1).zip ds
def tHas (rs : List (D × D)) (k : List Key) : Bool := rs.any fun p => decide (tKey p.1 = some k)
def tPutL (rs : List (D × D)) (k : List Key) (d : D) : List (D × D) := if tHas rs k = true then rs.map (fun p => if tKey p.1 = some k then (p.1, d) else p) else rs ++ [(kT k, d)]
section
variable {K : PySem.W.Frag} {H : Hp} {k : List Key} {v : V} {d : D}
theorem trows_len : ∀ {kvs : List (List Key × V)} {ds : List D}, FzAll K H (kvs.map (·.2)) ds → (trows kvs ds).length = kvs.length
  | [], _, .nil => rfl
  | _ :: kvs, _, .cons _ r => congrArg (· + 1) (trows_len (kvs := kvs) r)
theorem trows_has : ∀ {kvs : List (List Key × V)} {ds : List D}, FzAll K H (kvs.map (·.2)) ds → tHas (trows kvs ds) k = kvs.any fun kv => decide (kv.1 = k)
  | [], _, .nil => rfl
  | p :: kvs, d :: ds, .cons _ r => by
    have ih := trows_has (kvs := kvs) r
    unfold tHas at ih ⊢
    show ((kT p.1, d) :: trows kvs ds).any _ = _
    rw [List.any_cons, List.any_cons, ih]
    congr 1
    show decide (tKey (kT p.1) = some k) = _
    rw [tKey_kT]
    by_cases e : p.1 = k
    · rw [decide_eq_true (congrArg some e), decide_eq_true e]
    · rw [decide_eq_false (fun z => e (Option.some.inj z)), decide_eq_false e]
theorem trows_map (hd : Fz K H v d) : ∀ {kvs : List (List Key × V)} {ds : List D}, FzAll K H (kvs.map (·.2)) ds →
    ∃ ds', (trows kvs ds).map (fun p => if tKey p.1 = some k then (p.1, d) else p) = trows (kvs.map fun kv => if kv.1 = k then (kv.1, v) else kv) ds' ∧ FzAll K H ((kvs.map fun kv => if kv.1 = k then (kv.1, v) else kv).map (·.2)) ds'
  | [], _, .nil => ⟨[], rfl, .nil⟩
  | p :: kvs, d0 :: ds, .cons h r => by
    obtain ⟨ds', e, f⟩ := trows_map hd (kvs := kvs) r
    by_cases q : p.1 = k
    · refine ⟨d :: ds', ?_, ?_⟩
      · show (if tKey (kT p.1) = some k then (kT p.1, d) else (kT p.1, d0)) :: (trows kvs ds).map _ = trows ((if p.1 = k then (p.1, v) else p) :: _) (d :: ds')
        rw [tKey_kT, if_pos (congrArg some q), if_pos q, e]
        rfl
      · show FzAll K H ((if p.1 = k then (p.1, v) else p).2 :: _) (d :: ds')
        rw [if_pos q]
        exact .cons hd f
    · refine ⟨d0 :: ds', ?_, ?_⟩
      · show (if tKey (kT p.1) = some k then (kT p.1, d) else (kT p.1, d0)) :: (trows kvs ds).map _ = trows ((if p.1 = k then (p.1, v) else p) :: _) (d0 :: ds')
        rw [tKey_kT, if_neg (fun z => q (Option.some.inj z)), if_neg q, e]
        rfl
      · show FzAll K H ((if p.1 = k then (p.1, v) else p).2 :: _) (d0 :: ds')
        rw [if_neg q]
        exact .cons h f
theorem trows_app {ds : List D} : ∀ {kvs : List (List Key × V)}, FzAll K H (kvs.map (·.2)) ds → trows kvs ds ++ [(kT k, d)] = trows (kvs ++ [(k, v)]) (ds ++ [d]) := fun {kvs} h => by
  unfold trows
  rw [List.map_append, List.zip_append]
  · rfl
  · have := h.length
    rw [List.length_map] at this
    rw [List.length_map]
    exact this
theorem trows_put (hd : Fz K H v d) {kvs : List (List Key × V)} {ds : List D} (h : FzAll K H (kvs.map (·.2)) ds) : ∃ ds', tPutL (trows kvs ds) k d = trows (putK kvs k v) ds' ∧ FzAll K H ((putK kvs k v).map (·.2)) ds' := by
  unfold tPutL putK
  rw [trows_has h]
  by_cases q : (kvs.any fun kv => decide (kv.1 = k)) = true
  · rw [if_pos q, if_pos q]
    exact trows_map hd h
  · rw [if_neg q, if_neg q]
    refine ⟨ds ++ [d], trows_app h, ?_⟩
    rw [List.map_append]
    exact h.append (.cons hd .nil)
theorem trows_look {kvs : List (List Key × V)} {ds : List D} (h : FzAll K H (kvs.map (·.2)) ds) : (valV kvs k = none ∧ tLook (trows kvs ds) k = none) ∨ ∃ v d, valV kvs k = some v ∧ tLook (trows kvs ds) k = some d ∧ Fz K H v d := tlook_ok k h
end
section
variable {g : Gh} {Hf H : Hp} {σ : St} {Γ : Ev} {fr : List (V × Va)}
theorem NewV.te {K : PySem.W.Frag} {p : Addr} {kvs : List (List Key × V)} {ds : List D} (s : Same Hf H) (n : H p = none) (h : FzAll K Hf (kvs.map (·.2)) ds) : NewV K Hf H (upd H p (.dT kvs)) Hf (.ref p) (.e .z, .dict ((.bool true, .none) :: trows kvs ds)) :=
  ⟨same_new n, Same.refl _, s.trans (same_new n), fun _ n => .inl n, [p], ⟨p, kvs, ds, [], rfl, rfl, upd_same, OwnL.of_zs h, rfl⟩, by simp, fun a ha => by rw [List.mem_singleton.mp ha]; exact ⟨n, Same.free s n⟩⟩

theorem own_e_mem {K : PySem.W.Frag} {s : Sh} {a : Addr} {d : D} {A : List Addr} (h : Own K Hf H (.e s) (.ref a) d A) : a ∈ A := by
  obtain ⟨a', kvs, ds, B, e1, e2, e3, r, e4⟩ := h
  cases e1
  rw [e4]
  exact List.mem_cons_self
theorem own_e_z {K : PySem.W.Frag} {a : Addr} {kvs : List (List Key × V)} {ds : List D} (h : FzAll K Hf (kvs.map (·.2)) ds) : Own K Hf (upd H a (.dT kvs)) (.e .z) (.ref a) (.dict ((.bool true, .none) :: trows kvs ds)) [a] := ⟨a, kvs, ds, [], rfl, rfl, upd_same, OwnL.of_zs h, rfl⟩

theorem fz_dT {K : PySem.W.Frag} {Hf : Hp} {v : V} {rs : List (D × D)} (h : Fz K Hf v (.dict ((.bool true, .none) :: rs))) : ∃ a kvs ds, v = .ref a ∧ Rd Hf a (.dT kvs) ∧ FzAll K Hf (kvs.map (·.2)) ds ∧ rs = trows kvs ds := by
  generalize hd : PyData.dict ((.bool true, .none) :: rs) = d at h
  cases h with
  | dT h r =>
    unfold tRows at hd
    injection hd with hd
    injection hd with _ hd
    exact ⟨_, _, _, rfl, h, r, hd⟩
  | @dK a kvs ds' h r =>
    injection hd with hd
    cases kvs with
    | nil => cases ds' <;> cases hd
    | cons p kvs =>
      cases ds' with
      | nil => cases hd
      | cons d' ds' =>
        rw [List.map_cons, List.zip_cons_cons] at hd
        injection hd with hd _
        injection hd with hd _
        obtain ⟨k, w⟩ := p
        cases k <;> cases hd
  | raw a => unfold rawD at hd; cases hd
  | _ => cases hd
def tdic (o : Option (Option Va)) : Option (List (D × D)) := match o with
  | some (some (.e .z, .dict ((.bool true, .none) :: rs))) => some rs
  | some (some (.ke, .dict ((.bool true, .none) :: rs))) => some rs
  | some (some (.z, .dict ((.bool true, .none) :: rs))) => some rs
  | _ => none
theorem DGet.tR {H : Hp} {a b : Addr} {kvs : List (List Key × V)} {k : List Key} (e : Rd H a (.dT kvs)) (eb : H b = some (.tup (k.map kV))) : DGet H a (.ref b) (valV kvs k) := .inr ⟨kvs, k, b, e, rfl, eb, rfl⟩
theorem StOk.getTd {i : Nat} {rs : List (D × D)} (h : StOk g Hf H σ Γ fr) (hi : tdic (Γ[i]?) = some rs) : ∃ a kvs ds, σ[i]? = some (some (.ref a)) ∧ Rd H a (.dT kvs) ∧ FzAll g.K Hf (kvs.map (·.2)) ds ∧ rs = trows kvs ds := by
  unfold tdic at hi
  split at hi
  · rename_i rs' hg
    cases hi
    obtain ⟨ω, h⟩ := h
    obtain ⟨v, e, A, o, _⟩ := h.slots i _ hg
    obtain ⟨a, kvs, ds, B, e1, e2, e3, r, e4⟩ := o
    subst e1
    unfold tRows at e2
    injection e2 with e2
    injection e2 with _ e2
    exact ⟨a, kvs, ds, e, .inl e3, r.zs.2, e2⟩
  · rename_i rs' hg
    cases hi
    obtain ⟨ω, h⟩ := h
    obtain ⟨v, e, A, o, _⟩ := h.slots i _ hg
    obtain ⟨a, ob, kvs, ds, e1, e2, e3, r, e4⟩ := o
    subst e1
    unfold tRows at e2
    injection e2 with e2
    injection e2 with _ e2
    exact ⟨a, kvs, ds, e, .inr ⟨ob, e3⟩, r, e2⟩
  · rename_i rs' hg
    cases hi
    obtain ⟨v, e, z⟩ := h.getZ hg
    obtain ⟨a, kvs, ds, rfl, ha, f, e2⟩ := fz_dT z
    have sub : Same Hf H := by
      obtain ⟨ω, h⟩ := h
      exact h.sub
    exact ⟨a, kvs, ds, e, Same.rd sub ha, f, e2⟩
  · cases hi
theorem StOk.getTo {i : Nat} {rs : List (D × D)} (h : StOk g Hf H σ Γ fr) (hi : Γ[i]? = some (some (.e .z, .dict ((.bool true, .none) :: rs)))) : ∃ a kvs ds, σ[i]? = some (some (.ref a)) ∧ H a = some (.dT kvs) ∧ FzAll g.K Hf (kvs.map (·.2)) ds ∧ rs = trows kvs ds := by
  obtain ⟨ω, h⟩ := h
  obtain ⟨v, e, A, o, _⟩ := h.slots i _ hi
  obtain ⟨a, kvs, ds, B, e1, e2, e3, r, e4⟩ := o
  subst e1
  unfold tRows at e2
  injection e2 with e2
  injection e2 with _ e2
  exact ⟨a, kvs, ds, e, e3, r.zs.2, e2⟩
theorem StOk.mutTd {i : Nat} {x : D} {a : Addr} {kvs : List (List Key × V)} {ds : List D} (h : StOk g Hf H σ Γ fr) (hi : Γ[i]? = some (some (.e .z, x))) (ha : σ[i]? = some (some (.ref a))) (hv : FzAll g.K Hf (kvs.map (·.2)) ds) : StOk g Hf (upd H a (.dT kvs)) σ (Γ.set i (some (.e .z, .dict ((.bool true, .none) :: trows kvs ds)))) fr :=
  h.mutH hi ha (fun _ o => own_e_mem o) (own_e_z hv)
end
/-! ### the terms -/
def vTct0 : Ev → Out Va := fun Γ => .ok (.e .z, .dict [(.bool true, .none)]) Γ
def fTIn (neg : Bool) (i : Nat) (fk : Ev → Out D) : Ev → Out D := fun Γ => (fk Γ).bind fun k Γ1 => .of ((tdic (Γ1[i]?)).bind fun rs => (tKey k).map fun y => .bool (if neg then !(tLook rs y).isSome else (tLook rs y).isSome)) Γ1
def tdicS (o : Option (Option Va)) (r : Out D) : Out D := match tdic o with
  | some _ => r
  | none => .st
def fTAt (i : Nat) (fk : Ev → Out D) : Ev → Out D := fun Γ => tdicS (Γ[i]?) <| (fk Γ).bind fun k Γ1 => .of ((tdic (Γ1[i]?)).bind fun rs => (tKey k).bind fun y => tLook rs y) Γ1
def fTG1 (i : Nat) (fk : Ev → Out D) : Ev → Out D := fun Γ => tdicS (Γ[i]?) <| (fk Γ).bind fun k Γ1 => .of ((tdic (Γ1[i]?)).bind fun rs => (tKey k).map fun y => (tLook rs y).getD .none) Γ1
def fTG2 (i : Nat) (fk fx : Ev → Out D) : Ev → Out D := fun Γ => tdicS (Γ[i]?) <| (fk Γ).bind fun k Γ1 => (fx Γ1).bind fun x Γ2 => .of ((tdic (Γ2[i]?)).bind fun rs => (tKey k).map fun y => (tLook rs y).getD x) Γ2
def tputE (i : Nat) (d : D) (o : Option (Option Va)) (k : D) (Γ : Ev) : SO := match o with
  | some (some (.e .z, .dict ((.bool true, .none) :: rs))) => (match tKey k with | some y => if rs.length < 16777216 then .nx (Γ.set i (some (.e .z, .dict ((.bool true, .none) :: tPutL rs y d)))) else .st | none => .st)
  | _ => .st
def tputS (o : Option (Option Va)) (r : SO) : SO := match o with
  | some (some (.e .z, .dict ((.bool true, .none) :: _))) => r
  | _ => .st
def sTPutI (i : Nat) (fv fk : Ev → Out D) : Ev → SO := fun Γ => sB (fv Γ) fun d Γ1 => tputS (Γ1[i]?) (sB (fk Γ1) fun k Γ2 => tputE i d (Γ2[i]?) k Γ2)
section
variable {X : Cx} {W : WX} {e f ix value : Expr} {x : Str} {p pos apos cpos tpos : Pos} {fk fx fv : Ev → Out D}
theorem pv_tct0 : PV X W (.Dict [] [] pos) vTct0 := ⟨fun f0 h0 => pe_dnewT.imp fun σ H Q ⟨Hf, Γ, fr, st, p⟩ a n =>
  p _ _ _ (Same.refl _) (st.pushN (NewV.te (kvs := []) (ds := []) st.sub n .nil))⟩
theorem pf_tin_core {g : GW} {i : Nat} {fk : Ev → Out D} {σ : St} {H : Hp} {Q : VK} (h : tF g (fTIn false i fk) σ H Q) : tDIn (tF g fk) (tVar i) σ H Q := by
  obtain ⟨Hf, Γ, fr, st, p⟩ := h
  exact ⟨Hf, Γ, fr, st, Post.bind p fun k Γ1 _ w H1 Hf1 s1 ⟨st1, z1⟩ q => by
    obtain ⟨c, e, q'⟩ := Post.of q
    clear q
    cases hr : tdic (Γ1[i]?) with
    | none => rw [hr] at e; cases e
    | some rs =>
      rw [hr] at e
      obtain ⟨a, kvs, ds, e1, e2, f1, rfl⟩ := st1.getTd hr
      cases hy : tKey k with
      | none => rw [Option.bind_some, hy] at e; cases e
      | some y =>
        rw [Option.bind_some, hy] at e
        cases e
        obtain ⟨kb, rfl, hkb, rfl⟩ := tkey_val z1 hy
        refine ⟨.ref a, e1, a, valV kvs y, rfl, DGet.tR e2 (st1.sub _ _ hkb), ?_⟩
        rcases trows_look (k := y) f1 with ⟨h1, h2⟩ | ⟨v', d', h1, h2, h3⟩
        · rw [h1]; dsimp only at q'; rw [h2] at q'
          exact q' _ H1 Hf1 (Same.refl _) ⟨st1, .bl _⟩
        · rw [h1]; dsimp only at q'; rw [h2] at q'
          exact q' _ H1 Hf1 (Same.refl _) ⟨st1, .bl _⟩⟩
theorem pf_tin (i : Nat) (hu : X.A.units + 1 < cLine) (hk : PF X W e fk) (hm : behindInMarks .In (.Name x p) = false := by rfl)
    (hN : X.N[i]? = some x := by rfl) (hv : Vis X.env.scope x := by first | exact Or.inl rfl | exact Or.inr (Or.inl rfl) | exact Or.inr (Or.inr rfl)) (hd : (x == ("__debug__" : Str)) = false := by decide) (hcd : (x == ("__classdict__" : Str)) = false := by decide) :
    PF X W (.Compare e [.In] [.Name x p] pos) (fTIn false i fk) :=
  ⟨fun f0 h0 => (pe_cmp (pc_din hu (hk.run f0 h0) (pe_var hN hv hd hcd)) hm).imp fun σ H Q h => pf_tin_core (g := gh X W f0 h0) h⟩
theorem pb_tin (i : Nat) (hu : X.A.units + 1 < cLine) (hk : PF X W e fk) (hm : behindInMarks .In (.Name x p) = false := by rfl)
    (hN : X.N[i]? = some x := by rfl) (hv : Vis X.env.scope x := by first | exact Or.inl rfl | exact Or.inr (Or.inl rfl) | exact Or.inr (Or.inr rfl)) (hd : (x == ("__debug__" : Str)) = false := by decide) (hcd : (x == ("__classdict__" : Str)) = false := by decide) :
    PB X W (.Compare e [.In] [.Name x p] pos) (bF (fTIn false i fk)) :=
  ⟨fun f0 h0 => (pt_cmp (pc_din hu (hk.run f0 h0) (pe_var hN hv hd hcd)) hm).imp fun σ H Q h => tTestF (f := fTIn false i fk) (fun Q h => pf_tin_core (g := gh X W f0 h0) h) h⟩
theorem pf_tnin_core {g : GW} {i : Nat} {fk : Ev → Out D} {σ : St} {H : Hp} {Q : VK} (h : tF g (fTIn true i fk) σ H Q) : tDNotIn (tF g fk) (tVar i) σ H Q := by
  obtain ⟨Hf, Γ, fr, st, p⟩ := h
  exact ⟨Hf, Γ, fr, st, Post.bind p fun k Γ1 _ w H1 Hf1 s1 ⟨st1, z1⟩ q => by
    obtain ⟨c, e, q'⟩ := Post.of q
    clear q
    cases hr : tdic (Γ1[i]?) with
    | none => rw [hr] at e; cases e
    | some rs =>
      rw [hr] at e
      obtain ⟨a, kvs, ds, e1, e2, f1, rfl⟩ := st1.getTd hr
      cases hy : tKey k with
      | none => rw [Option.bind_some, hy] at e; cases e
      | some y =>
        rw [Option.bind_some, hy] at e
        cases e
        obtain ⟨kb, rfl, hkb, rfl⟩ := tkey_val z1 hy
        refine ⟨.ref a, e1, a, valV kvs y, rfl, DGet.tR e2 (st1.sub _ _ hkb), ?_⟩
        rcases trows_look (k := y) f1 with ⟨h1, h2⟩ | ⟨v', d', h1, h2, h3⟩
        · rw [h1]; dsimp only at q'; rw [h2] at q'
          exact q' _ H1 Hf1 (Same.refl _) ⟨st1, .bl _⟩
        · rw [h1]; dsimp only at q'; rw [h2] at q'
          exact q' _ H1 Hf1 (Same.refl _) ⟨st1, .bl _⟩⟩
theorem pf_tnin (i : Nat) (hu : X.A.units + 1 < cLine) (hk : PF X W e fk) (hm : behindInMarks .NotIn (.Name x p) = false := by rfl)
    (hN : X.N[i]? = some x := by rfl) (hv : Vis X.env.scope x := by first | exact Or.inl rfl | exact Or.inr (Or.inl rfl) | exact Or.inr (Or.inr rfl)) (hd : (x == ("__debug__" : Str)) = false := by decide) (hcd : (x == ("__classdict__" : Str)) = false := by decide) :
    PF X W (.Compare e [.NotIn] [.Name x p] pos) (fTIn true i fk) :=
  ⟨fun f0 h0 => (pe_cmp (pc_dnotin hu (hk.run f0 h0) (pe_var hN hv hd hcd)) hm).imp fun σ H Q h => pf_tnin_core (g := gh X W f0 h0) h⟩
theorem pb_tnin (i : Nat) (hu : X.A.units + 1 < cLine) (hk : PF X W e fk) (hm : behindInMarks .NotIn (.Name x p) = false := by rfl)
    (hN : X.N[i]? = some x := by rfl) (hv : Vis X.env.scope x := by first | exact Or.inl rfl | exact Or.inr (Or.inl rfl) | exact Or.inr (Or.inr rfl)) (hd : (x == ("__debug__" : Str)) = false := by decide) (hcd : (x == ("__classdict__" : Str)) = false := by decide) :
    PB X W (.Compare e [.NotIn] [.Name x p] pos) (bF (fTIn true i fk)) :=
  ⟨fun f0 h0 => (pt_cmp (pc_dnotin hu (hk.run f0 h0) (pe_var hN hv hd hcd)) hm).imp fun σ H Q h => tTestF (f := fTIn true i fk) (fun Q h => pf_tnin_core (g := gh X W f0 h0) h) h⟩
theorem tdic_at {g : GW} {Hf H : Hp} {σ : St} {Γ : Ev} {fr : List (V × Va)} {i : Nat} {rs : List (D × D)} (st : StOk g.h Hf H σ Γ fr) (h : tdic (Γ[i]?) = some rs) {k : D} {y : List Key} {w : V} (hy : tKey k = some y) (z : Fz g.h.K Hf w k) : ∃ a o, σ[i]? = some (some (.ref a)) ∧ IsD H a ∧ DGet H a w o ∧ ((o = none ∧ tLook rs y = none) ∨ ∃ v d, o = some v ∧ tLook rs y = some d ∧ Fz g.h.K Hf v d) := by
  obtain ⟨a, kvs, ds, e1, e2, f1, rfl⟩ := st.getTd h
  obtain ⟨kb, rfl, hkb, rfl⟩ := tkey_val z hy
  exact ⟨a, valV kvs y, e1, .inr ⟨kvs, e2⟩, DGet.tR e2 (st.sub _ _ hkb), trows_look f1⟩
theorem pf_tat (i : Nat) (hu : X.A.units + 1 < cLine) (hk : PF X W e fk) (hs : NoSl e)
    (hN : X.N[i]? = some x := by rfl) (hv : Vis X.env.scope x := by first | exact Or.inl rfl | exact Or.inr (Or.inl rfl) | exact Or.inr (Or.inr rfl)) (hd : (x == ("__debug__" : Str)) = false := by decide) (hcd : (x == ("__classdict__" : Str)) = false := by decide) :
    PF X W (.Subscript (.Name x p) e pos) (fTAt i fk) :=
  ⟨fun f0 h0 => (pe_dget hu (pe_var hN hv hd hcd) (hk.run f0 h0) hs).imp fun σ H Q ⟨Hf, Γ, fr, st, p⟩ => by
    unfold fTAt tdicS at p
    cases hr : tdic (Γ[i]?) with
    | none => rw [hr] at p; exact p.elim
    | some rs0 =>
      rw [hr] at p
      obtain ⟨a, kvs, ds, e1, _⟩ := st.getTd hr
      refine ⟨.ref a, e1, Hf, Γ, fr, st, Post.bind p fun k Γ1 _ w H1 Hf1 s1 ⟨st1, z1⟩ q => ?_⟩
      obtain ⟨c, e, q'⟩ := Post.of q
      clear q
      cases hr1 : tdic (Γ1[i]?) with
      | none => rw [hr1] at e; cases e
      | some rs =>
        rw [hr1, Option.bind_some] at e
        cases hy : tKey k with
        | none => rw [hy] at e; cases e
        | some y =>
          rw [hy, Option.bind_some] at e
          obtain ⟨a', o, e3, d, g, hh⟩ := tdic_at (g := gh X W f0 h0) st1 hr1 hy z1
          rw [e1] at e3
          cases e3
          rcases hh with ⟨_, h2⟩ | ⟨v, d', rfl, h2, h3⟩
          · rw [h2] at e; cases e
          · rw [h2] at e
            cases e
            exact ⟨a, v, rfl, g, q' _ H1 Hf1 (Same.refl _) ⟨st1, h3⟩⟩⟩
theorem pf_tg1 (i : Nat) (hu : X.A.units + 1 < cLine) (hk : PF X W e fk) (m : M1 X (.Name x p) "get" apos e cpos)
    (hN : X.N[i]? = some x := by rfl) (hv : Vis X.env.scope x := by first | exact Or.inl rfl | exact Or.inr (Or.inl rfl) | exact Or.inr (Or.inr rfl)) (hd : (x == ("__debug__" : Str)) = false := by decide) (hcd : (x == ("__classdict__" : Str)) = false := by decide) :
    PF X W (.Call (.Attribute (.Name x p) "get" apos) [e] [] cpos) (fTG1 i fk) :=
  ⟨fun f0 h0 => (pe_dget1 hu (pe_var hN hv hd hcd) (hk.run f0 h0) m).imp fun σ H Q ⟨Hf, Γ, fr, st, p⟩ => by
    unfold fTG1 tdicS at p
    cases hr : tdic (Γ[i]?) with
    | none => rw [hr] at p; exact p.elim
    | some rs0 =>
      rw [hr] at p
      obtain ⟨a, kvs, ds, e1, e2, _⟩ := st.getTd hr
      refine ⟨.ref a, e1, a, rfl, .inr ⟨kvs, e2⟩, Hf, Γ, fr, st, Post.bind p fun k Γ1 _ w H1 Hf1 s1 ⟨st1, z1⟩ q => ?_⟩
      obtain ⟨c, e, q'⟩ := Post.of q
      clear q
      cases hr1 : tdic (Γ1[i]?) with
      | none => rw [hr1] at e; cases e
      | some rs =>
        rw [hr1, Option.bind_some] at e
        cases hy : tKey k with
        | none => rw [hy] at e; cases e
        | some y =>
          rw [hy, Option.map_some] at e
          cases e
          obtain ⟨a', o, e3, d, g, hh⟩ := tdic_at (g := gh X W f0 h0) st1 hr1 hy z1
          rw [e1] at e3
          cases e3
          rcases hh with ⟨rfl, h2⟩ | ⟨v, d', rfl, h2, h3⟩
          · try dsimp only at q'
            rw [h2] at q'
            exact ⟨none, g, q' _ H1 Hf1 (Same.refl _) ⟨st1, .non⟩⟩
          · try dsimp only at q'
            rw [h2] at q'
            exact ⟨some v, g, q' _ H1 Hf1 (Same.refl _) ⟨st1, h3⟩⟩⟩
theorem pf_tg2 (i : Nat) (hu : X.A.units + 1 < cLine) (hk : PF X W e fk) (hx : PF X W f fx) (m : M2 X (.Name x p) "get" apos e f cpos)
    (hN : X.N[i]? = some x := by rfl) (hv : Vis X.env.scope x := by first | exact Or.inl rfl | exact Or.inr (Or.inl rfl) | exact Or.inr (Or.inr rfl)) (hd : (x == ("__debug__" : Str)) = false := by decide) (hcd : (x == ("__classdict__" : Str)) = false := by decide) :
    PF X W (.Call (.Attribute (.Name x p) "get" apos) [e, f] [] cpos) (fTG2 i fk fx) :=
  ⟨fun f0 h0 => (pe_dget2 hu (pe_var hN hv hd hcd) (hk.run f0 h0) (hx.run f0 h0) m).imp fun σ H Q ⟨Hf, Γ, fr, st, p⟩ => by
    unfold fTG2 tdicS at p
    cases hr : tdic (Γ[i]?) with
    | none => rw [hr] at p; exact p.elim
    | some rs0 =>
      rw [hr] at p
      obtain ⟨a, kvs, ds, e1, e2, _⟩ := st.getTd hr
      refine ⟨.ref a, e1, a, rfl, .inr ⟨kvs, e2⟩, Hf, Γ, fr, st, Post.bind p fun k Γ1 _ w H1 Hf1 s1 ⟨st1, z1⟩ q => ⟨Hf1, Γ1, fr, st1, Post.bind q fun xd Γ2 _ u H2 Hf2 s2 ⟨st2, z2⟩ q2 => ?_⟩⟩
      obtain ⟨c, e, q'⟩ := Post.of q2
      clear q2 q
      cases hr1 : tdic (Γ2[i]?) with
      | none => rw [hr1] at e; cases e
      | some rs =>
        rw [hr1, Option.bind_some] at e
        cases hy : tKey k with
        | none => rw [hy] at e; cases e
        | some y =>
          rw [hy, Option.map_some] at e
          cases e
          obtain ⟨a', o, e3, d, g, hh⟩ := tdic_at (g := gh X W f0 h0) st2 hr1 hy (z1.mono s2)
          rw [e1] at e3
          cases e3
          rcases hh with ⟨rfl, h2⟩ | ⟨v, d', rfl, h2, h3⟩
          · try dsimp only at q'
            rw [h2] at q'
            exact ⟨none, g, q' _ H2 Hf2 (Same.refl _) ⟨st2, z2⟩⟩
          · try dsimp only at q'
            rw [h2] at q'
            exact ⟨some v, g, q' _ H2 Hf2 (Same.refl _) ⟨st2, h3⟩⟩⟩
theorem ps_tputI (i : Nat) (hu : X.A.units + 1 < cLine) (hv : PF X W value fv) (hk : PF X W ix fk)
    (hN : X.N[i]? = some x := by rfl) (hvis : Vis X.env.scope x := by first | exact Or.inl rfl | exact Or.inr (Or.inl rfl) | exact Or.inr (Or.inr rfl)) (hd : (x == ("__debug__" : Str)) = false := by decide) (hcd : (x == ("__classdict__" : Str)) = false := by decide)
    (hs : swapsWith value (some (.Subscript (.Name x p) ix tpos)) pos.line X.env = pure false := by rfl) :
    PSt X W (.Assign [.Subscript (.Name x p) ix tpos] value pos) (sTPutI i fv fk) :=
  ⟨fun f0 h0 => (ps_dput hu (pe_var hN hvis hd hcd) (hk.run f0 h0) (hv.run f0 h0) hs).imp fun D σ H ⟨Hf, Γ, fr, st, p⟩ => by
    refine ⟨Hf, Γ, fr, st, PostS.bind p fun d Γ1 _ v H1 Hf1 s1 ⟨st1, z1⟩ q => ?_⟩
    unfold tputS at q
    split at q
    · rename_i rs0 hΓ
      obtain ⟨a, kvs, ds, e1, e2, f1, _⟩ := st1.getTo hΓ
      refine ⟨.ref a, e1, Hf1, Γ1, fr, st1, PostS.bind q fun k Γ2 _ y H2 Hf2 s2 ⟨st2, z2⟩ q2 => ?_⟩
      unfold tputE at q2
      split at q2
      · rename_i rs hΓ2
        cases hy : tKey k with
        | none => rw [hy] at q2; exact q2.elim
        | some y' =>
          rw [hy] at q2
          dsimp only at q2
          split at q2
          · rename_i hlen
            obtain ⟨a', kvs2, ds2, e3, e4, f4, rfl⟩ := st2.getTo hΓ2
            rw [e1] at e3
            cases e3
            obtain ⟨kb, rfl, hkb, rfl⟩ := tkey_val z2 hy
            obtain ⟨ds', e5, f5⟩ := trows_put (k := y') (z1.mono s2) f4
            rw [e5] at q2
            rw [trows_len f4] at hlen
            exact ⟨a, _, rfl, DPut.t e4 (st2.sub _ _ hkb) (by rw [sizeLine_eq]; exact hlen), q2 _ _ Hf2 (Same.refl _) (st2.mutTd hΓ2 e1 f5)⟩
          · exact q2.elim
      · exact q2.elim
    · exact q.elim⟩
end

end PV
namespace PV
open PySem PySem.Spec PyProof.Rows L2
/-! ### dict comprehensions, the keys ints and texts, or tuples of them -/
/-- the block's own write -/
theorem put_blk {X : L2.Cx} {ps : List (Addr × Obj)} {τ : St} {G G' : Hp} {z : Shared} {d : Addr} {x y : V} {ux uy : Value} {Er : Value → Shared → Prop} {Pq : Unit → Shared → Prop} (hu : X.A.units + 1 < cLine) (J : Inv X ps τ G z) (w : DPut G d x y G') (rx : RelV x ux) (ry : RelV y uy)
    (k : ∀ z', Inv X ps τ G' z' → Pq () z') : wpAny (model X.prog X.w) X.A (dictSet d ux uy) Pq Er z := by
  rcases w with ⟨kvs, q, e, rfl, hl, rfl⟩ | ⟨kvs, q, b, e, rfl, eb, hl, rfl⟩
  · obtain ⟨le, nd, us, pr, dd⟩ := dk_of J.hok e
    have l1 : us.length ≤ sizeLine := pr.length ▸ le
    have l2 : (putK kvs q y).length ≤ sizeLine := Nat.le_trans (length_putK kvs q y) hl
    exact wpAny_dictSet_pairs (hsz := l1) (kV_is rx) dd fun g' dd' sb => k _ (d_write J (by rw [e]; trivial) sb (by obtain ⟨o, _, _, ho, _⟩ := dd'; exact ⟨o, ho⟩) (dk_new l2 nd (pr.put q ry) dd'))
  · obtain rfl : ux = .ref b := rx
    obtain ⟨le, nd, us, pr, dd⟩ := dt_of J.hok e
    have l1 : us.length ≤ sizeLine := Paired.length pr ▸ le
    have l2 : (putK kvs q y).length ≤ sizeLine := Nat.le_trans (length_putK kvs q y) hl
    refine wpAny_dictSet_heap (hsz := l1) (show X.A.units < cLine by omega) (key_of J.hok eb) dd fun g' dd' sb => k _ ?_
    obtain ⟨o, es, ep, ho, p2, p3, p4, _, p5⟩ := dd'
    refine d_write J (by rw [e]; trivial) sb ⟨o, ho⟩ ⟨l2, nd, _, KT.keeps (pr.put q eb ry) fun c ys ec => ?_, o, es, ep, ho, p2, p3, p4, p5⟩
    have ne : c ≠ d := ne_of ec e fun z => nomatch z
    rw [upd_ne ne, ec]
/-- what a dict comprehension asks; o0 is the new dict, empty -/
def tDcX (o0 : HO) (wi : TI) (tg : TG) (tt : TT) (tk tv : TE) (js : List Nat) : TE := fun τ G Q => wi τ G fun J G1 => ∀ d, G1 d = none → ∃ Wx : Nat → Nat → Hp → Prop, (∃ m, Wx 0 m (upd G1 d o0)) ∧ ∀ i m G2, Wx i m G2 →
  (J.stop i G2 ∧ Q (.ref d) G2) ∨ (J.go i G2 ∧ ∃ Nx : Hp → Prop, (∀ G3, Nx G3 → ∃ k, k < m ∧ Wx (i + 1) k G3) ∧ ∀ x G3, J.yld i G2 x G3 → tg x (wipe τ js) G3 fun τ2 G4 => wipe τ2 js = wipe τ js ∧ tt τ2 G4 fun b G5 =>
    if b = true then tk τ2 G5 fun y G6 => tv τ2 G6 fun z G7 => ∃ G8, DPut G7 d y z G8 ∧ Nx G8 else Nx G5)
section
variable {X : L2.Cx}
theorem dcX_core {o0 : HO} {ek ev tg iter : Expr} {ifs : List Expr} {sc : Scope} {own : List (Str × Nat)} {pos pos' : Pos} {wi : TI} {gg : TG} {tt : TT} {tk tv : TE} {ps : List (Addr × Obj)} {z : Shared} {τ : St} {G : Hp} {Q : VK} {us : Option (Value → Sem Unit)} {Qf : Value → Shared → Prop}
    (h0 : o0 = .dK [] ∨ o0 = .dT []) (hu : X.A.units + 1 < cLine) (hc : X.calm = true) (hN : X.N.Nodup) (J : Inv X ps τ G z) (hi : PI X tg iter wi) (bok : BlkOk X.N X.env.scope sc own)
    (hg : ∀ z G C cl fp, PG (X.blk z G sc (compEnvC sc cl C X.env) fp) tg gg) (ht : ∀ z G C cl fp, PTs (X.blk z G sc (compEnvC sc cl C X.env) fp) ifs tt)
    (hk : ∀ z G C cl fp, PE (X.blk z G sc (compEnvC sc cl C X.env) fp) ek tk) (hv : ∀ z G C cl fp, PE (X.blk z G sc (compEnvC sc cl C X.env) fp) ev tv)
    (hf : ∀ x, foldedSetIterable iter X.env x = pure x) (h : tDcX o0 wi gg tt tk tv (own.map (·.2)) τ G Q)
    (hend : ∀ d C z' m G', Inv X ps τ G' z' → Q (.ref d) G' → z'.heap.Ns C m → FpOk X ps G' C → compPost (model X.prog X.w) X.A X.xe us Qf (.ref d) C (.ok .next) z') :
    wpAny (model X.prog X.w) X.A (comprehension (.DictComp ek ev [⟨tg, iter, ifs, 0⟩] sc pos) sc X.env pos' newDict false (eval iter X.env) us) Qf X.xe z := by
  have clo : ∀ y ∈ sc.names, y.2 = .free → ∃ c, X.env.cells.lookup y.1 = some c := fun y hy e => (bok.free y hy e).elim (fun k => J.ok.has _ (.inl k)) fun k => J.ok.has _ (.inr k)
  refine wpAny_comprehension_free (use := us) rfl hf (closure_ok clo) bok.kind (fun y hy e => by rw [bok.uniq y hy, e]) (thn (hi.run ps z τ G _ J h) fun xv z1 hx => thn hx fun itv z2 ⟨it, fp, tn, It1, G2, eit, J2, T, t2, f2, q⟩ => ?_)
  subst eit
  refine wpAny_newObj_type (newEnv_comp ?_)
  obtain ⟨d, hd⟩ : ∃ d, z2.heap.objs.size = d := ⟨_, rfl⟩
  rw [hd]
  have dn : G2 d = none := J2.hok.fresh (Nat.le_of_eq hd)
  obtain ⟨Wx, ⟨m0, w0⟩, turn⟩ := q d dn
  obtain ⟨z3, hz3⟩ : ∃ z3 : Shared, z3 = { z2 with heap := z2.heap.push { cls := .type "dict", data := .dict #[] } } := ⟨_, rfl⟩
  have hh3 : z3.heap = z2.heap.push { cls := .type "dict", data := .dict #[] } := by rw [hz3]
  have J3 : Inv X ps τ (upd G2 d o0) z3 := by
    subst hz3
    exact J2.laid (t' := z2.toks) (fun _ _ e => Heap.get?_push_of_some _ e) (Nat.le_of_eq hd) (by
      subst hd
      rcases h0 with rfl | rfl
      · exact dk_empty z2.heap J2.big
      · exact dt_empty z2.heap J2.big)
  have low : ∀ b ∈ fp, b < z2.heap.objs.size := fun b hb => let ⟨_, e, _⟩ := T.obj _ _ t2 b hb; Heap.lt_size e
  have f3 : ∀ b ∈ fp, FpOk X ps (upd G2 d o0) b ∧ b < z3.heap.objs.size := fun b hb => ⟨⟨by rw [upd_ne (hd ▸ Nat.ne_of_lt (low b hb))]; exact (f2 b hb).1, (f2 b hb).2⟩, by rw [hh3, Heap.size_push]; exact Nat.lt_succ_of_lt (low b hb)⟩
  have t3 : tn 0 z3.heap := T.keep _ _ _ t2 fun b _ o e => hh3 ▸ Heap.get?_push_of_some _ e
  have J4 := block_start J3 bok hN f3
  have nfp : ∀ b ∈ fp, upd G2 d o0 b = none := fun b hb => (f3 b hb).1.1
  rw [show ({ z2 with heap := z2.heap.push { cls := .type "dict", data := .dict #[] } } : Shared) = z3 from hz3.symm]
  obtain ⟨ce, hce⟩ : ∃ ce, compEnvC sc (cellsFrom (z3.heap.objs.size + 1) sc.names (cloFrom X.env.cells sc.names [])) z3.heap.objs.size X.env = ce := ⟨_, rfl⟩
  obtain ⟨G3, hG3⟩ : ∃ G3, upd G2 d o0 = G3 := ⟨_, rfl⟩
  have pg := hg z3 G3 z3.heap.objs.size (cellsFrom (z3.heap.objs.size + 1) sc.names (cloFrom X.env.cells sc.names [])) fp
  have pt := ht z3 G3 z3.heap.objs.size (cellsFrom (z3.heap.objs.size + 1) sc.names (cloFrom X.env.cells sc.names [])) fp
  have pk := hk z3 G3 z3.heap.objs.size (cellsFrom (z3.heap.objs.size + 1) sc.names (cloFrom X.env.cells sc.names [])) fp
  have pv := hv z3 G3 z3.heap.objs.size (cellsFrom (z3.heap.objs.size + 1) sc.names (cloFrom X.env.cells sc.names [])) fp
  rw [hG3] at J3 J4 w0 nfp f3
  rw [hce] at J4 pg pt pk pv
  have cl : ce.locals = z3.heap.objs.size := by rw [← hce]; rfl
  obtain ⟨z4, hz4⟩ : ∃ z4 : Shared, z4 = { z3 with heap := pushCells (z3.heap.push { cls := .type "dict", data := .dict #[] }) sc.names } := ⟨_, rfl⟩
  show codeAny _ _ (.compStart (.DictComp ek ev [⟨tg, iter, ifs, 0⟩] sc pos) 0 (.ref it) (.ref d) (compEnvC sc (cellsFrom (z3.heap.objs.size + 1) sc.names (cloFrom X.env.cells sc.names [])) z3.heap.objs.size X.env)) _ { z3 with heap := pushCells (z3.heap.push { cls := .type "dict", data := .dict #[] }) sc.names }
  rw [hce, ← hz4]
  rw [← hz4] at J4
  have t4 : tn 0 z4.heap := T.keep _ _ _ t3 fun b _ o e => hz4 ▸ pushCells_keeps _ _ _ _ (Heap.get?_push_of_some _ e)
  have stat : ∀ {τ' G' z'}, Inv (X.blk z3 G3 sc ce fp) [] τ' G' z' → (∀ b ∈ fp, G' b = none) → ∀ b ∈ fp, FpOk (X.blk z3 G3 sc ce fp) [] G' b := fun J' n b hb =>
    ⟨n b hb, (J'.ok.exf b hb).1, J'.ok.exfs b hb, .inl hb, fun x c e => (J'.ok.exf b hb).2 x c e, fun p hp => absurd (show p ∈ ([] : List (Addr × Obj)) ++ [] from hp) (by simp)⟩
  refine codeAny_compStart_dict ?L (T.self X.A 0 _ _ _ t4 ?L)
  refine compLoop_anyD (fun n z' => ∃ i G', Inv (X.blk z3 G3 sc ce fp) [] (wipe τ (own.map (·.2))) G' z' ∧ tn i z'.heap ∧ (∀ b ∈ fp, G' b = none) ∧ Wx i n G') (fun n z5 ⟨i, G5, J5, t5, n5, w5⟩ => ?_) m0 ⟨0, G3, J4, t4, nfp, w0⟩
  rcases turn i n G5 w5 with ⟨stop, fin⟩ | ⟨go, Nx, hNx, step⟩
  · refine thnF (T.done (X.blk z3 G3 sc ce fp) rfl rfl rfl hc i [] z5 _ G5 (fun _ _ => False) J5 (stat J5 n5) t5 stop) fun r z6 ⟨er, J6⟩ => ?_
    subst er
    have J7 : Inv X ps τ G5 z6 := J3.call' (ch := fp) J6.os J6.base J6.hok J6.bare fun b hb => ⟨(f3 b hb).1.2.2.2.1, (f3 b hb).1.2.1, (f3 b hb).1.2.2.2.2.1, (f3 b hb).1.2.2.2.2.2⟩
    have nC : G5 z3.heap.objs.size = none := cl ▸ (show G5 ce.locals = none from J6.free)
    obtain ⟨mm, hn, _⟩ := J6.loc
    have hn : z6.heap.Ns z3.heap.objs.size mm := cl ▸ (show z6.heap.Ns ce.locals mm from hn)
    exact hend d z3.heap.objs.size z6 mm G5 J7 fin hn (J3.fpOk (Nat.le_refl _) nC)
  · refine thnF (T.item (X.blk z3 G3 sc ce fp) rfl rfl rfl hc i [] z5 _ G5 (fun _ _ => False) J5 (stat J5 n5) t5 go) fun r z6 ⟨u, er, h6⟩ => ?_
    subst er
    refine thnF h6 fun _ z7 ⟨x, G7, J7, r7, y7, t7, n7⟩ => ?_
    refine thnF (pg.run _ z7 _ G7 x u _ (J7.pinned (stat J7 n7) (T.obj _ _ t7)) r7 (step x G7 y7)) fun _ z8 ⟨τ8, G8, J8, w8, q8⟩ => ?_
    refine thnF (pt.run _ z8 τ8 G8 _ J8 q8) fun b z9 ⟨G9, J9, q9⟩ => ?_
    have back : ∀ {z' : Shared} {G' : Hp}, Inv (X.blk z3 G3 sc ce fp) ([] ++ pinsAt fp z7.heap) τ8 G' z' → Nx G' → ∃ m, m < n ∧ ∃ i G', Inv (X.blk z3 G3 sc ce fp) [] (wipe τ (own.map (·.2))) G' z' ∧ tn i z'.heap ∧ (∀ b ∈ fp, G' b = none) ∧ Wx i m G' := fun {z' G'} J' nx => by
      obtain ⟨k, hk, w'⟩ := hNx G' nx
      have pin : ∀ b ∈ fp, ∀ o, z7.heap.get? b = some o → z'.heap.get? b = some o ∧ G' b = none := fun b hb o e =>
        let p := J'.pin (b, o) (List.mem_append_right _ (List.mem_append_right _ (mem_pinsAt hb e)))
        ⟨p.1, p.2.1⟩
      refine ⟨k, hk, i + 1, G', (J'.unpinned (pins := [])).weak (by rw [← w8, wipe_length]) fun j v e => (wipe_some (w8 ▸ e)).1, T.keep _ _ _ t7 fun b hb o e => (pin b hb o e).1, fun b hb => ?_, w'⟩
      obtain ⟨o, e, _⟩ := T.obj _ _ t7 b hb
      exact (pin b hb o e).2
    cases b with
    | false =>
      rw [if_neg Bool.false_ne_true] at q9 ⊢
      exact back J9 q9
    | true =>
      rw [if_pos rfl] at q9 ⊢
      exact thnF (pk.run _ z9 τ8 G9 _ J9 q9) fun u1 zA ⟨yk, GA, JA, rA, qA⟩ => thnF (pv.run _ zA τ8 GA _ JA qA) fun u2 zB ⟨yv, GB, JB, rB, G8', pp, nx⟩ =>
        put_blk (X := X.blk z3 G3 sc ce fp) hu JB pp rA rB fun zC JC => back JC nx
/-- as a value -/
theorem pe_dcX {o0 : HO} {ek ev tg iter : Expr} {ifs : List Expr} {sc : Scope} {own : List (Str × Nat)} {pos : Pos} {wi : TI} {gg : TG} {tt : TT} {tk tv : TE}
    (h0 : o0 = .dK [] ∨ o0 = .dT []) (hu : X.A.units + 1 < cLine) (hc : X.calm = true) (hN : X.N.Nodup) (hi : PI X tg iter wi) (bok : BlkOk X.N X.env.scope sc own)
    (hg : ∀ z G C cl fp, PG (X.blk z G sc (compEnvC sc cl C X.env) fp) tg gg) (ht : ∀ z G C cl fp, PTs (X.blk z G sc (compEnvC sc cl C X.env) fp) ifs tt)
    (hk : ∀ z G C cl fp, PE (X.blk z G sc (compEnvC sc cl C X.env) fp) ek tk) (hv : ∀ z G C cl fp, PE (X.blk z G sc (compEnvC sc cl C X.env) fp) ev tv)
    (hf : ∀ x, foldedSetIterable iter X.env x = pure x := by intro _; rfl) : PE X (.DictComp ek ev [⟨tg, iter, ifs, 0⟩] sc pos) (tDcX o0 wi gg tt tk tv (own.map (·.2))) := by
  refine ⟨fun ps z τ G Q J h => ?_⟩
  rw [arm_eval_DictComp]
  refine dcX_core h0 hu hc hN J hi bok hg ht hk hv hf h fun d C z' mm G' J' q hn ⟨g0, g1, g2, g3, g4, g5⟩ => ?_
  exact ⟨mm, hn, fun h'' sb => ⟨.ref d, G', J'.turned (t' := z'.toks) (fun b o hb e => (sb.2 b hb).trans e) g0 g1 g3 g4 g5, rfl, q⟩⟩
/-- stored at once -/
theorem ps_dcX {i : Nat} {y : Str} {py : Pos} {o0 : HO} {ek ev tg iter : Expr} {ifs : List Expr} {sc : Scope} {own : List (Str × Nat)} {pos spos : Pos} {wi : TI} {gg : TG} {tt : TT} {tk tv : TE}
    (h0 : o0 = .dK [] ∨ o0 = .dT []) (hu : X.A.units + 1 < cLine) (hc : X.calm = true) (hN : X.N.Nodup) (hy : X.N[i]? = some y) (hyl : X.env.scope.names.lookup y = some .local)
    (sw : swapsWith (.DictComp ek ev [⟨tg, iter, ifs, 0⟩] sc pos) (some (.Name y py)) spos.line X.env = pure true) (hi : PI X tg iter wi) (bok : BlkOk X.N X.env.scope sc own)
    (hg : ∀ z G C cl fp, PG (X.blk z G sc (compEnvC sc cl C X.env) fp) tg gg) (ht : ∀ z G C cl fp, PTs (X.blk z G sc (compEnvC sc cl C X.env) fp) ifs tt)
    (hk : ∀ z G C cl fp, PE (X.blk z G sc (compEnvC sc cl C X.env) fp) ek tk) (hv : ∀ z G C cl fp, PE (X.blk z G sc (compEnvC sc cl C X.env) fp) ev tv)
    (hf : ∀ x, foldedSetIterable iter X.env x = pure x := by intro _; rfl) :
    PS X (.Assign [.Name y py] (.DictComp ek ev [⟨tg, iter, ifs, 0⟩] sc pos) spos) (tAsg (tDcX o0 wi gg tt tk tv (own.map (·.2))) (gName i)) := by
  refine ⟨fun ps z τ G R J h => ?_⟩
  rw [exec_Assign_Name_used _ _ _ _ sw]
  refine wpAny_bind (wpAny_standAt (wpAny_bind ?_))
  show wpAny _ X.A ((comprehension (.DictComp ek ev [⟨tg, iter, ifs, 0⟩] sc pos) sc X.env (firstIterPos [⟨tg, iter, ifs, 0⟩] pos) newDict false (eval iter X.env) (some (assign (.Name y py) X.env))) >>= fun _ => _) _ _ z
  refine wpAny_bind (thn (dcX_core (Qf := fun _ z' => SP X ps R .next z') (Q := fun x G1 => gName i x τ G1 R.nx) h0 hu hc hN J hi bok hg ht hk hv hf h fun d C z' mm G' J' q hn f => ?_) fun _ _ hq => wpAny_pure (wpAny_pure hq))
  show wpAny _ _ (assign (.Name y py) X.env (.ref d)) _ _ _
  obtain ⟨g0, g1, g2, g3, g4, g5⟩ := f
  refine wpAny_assign_Name (store_ok2 (v := V.ref d) J' hN hy (.inl hyl) rfl (fun z2 J2 ⟨e, sb, he⟩ => ?_) (.inr hyl))
  have nC : C ≠ e := he.elim (fun k => k ▸ g1) fun k q => g4 y e k q.symm
  exact ⟨mm, hn.sameBut sb nC, fun h3 sb3 => ⟨_, G', J2.turned (t' := z2.toks) (fun b o hb q => (sb3.2 b hb).trans q) g0 g1 g3 g4 g5, q⟩⟩
theorem sw_dc {ek ev : Expr} {gs : List Comprehension} {sc : Scope} {pos py : Pos} {y : Str} {l : Nat} {env : Env} (hk : env.scope.kind = .function) (hy : env.scope.names.lookup y = some .local) (hl : (py.line == pos.line) = true)
    (ha : (sc.names.any fun (n, k) => n == y && (k == .local || k == .cell)) = false) : swapsWith (.DictComp ek ev gs sc pos) (some (.Name y py)) l env = pure true := by
  have e1 : env.kindOf y = some .local := hy
  have e2 : env.blockKind = .function := by unfold Env.blockKind; rw [hk]; rfl
  unfold swapsWith
  simp only [e2, e1, ha, Expr.pos, hl]
  rfl
end
end PV
namespace PV
open PySem PySem.Spec PyProof.Rows L2
/-! ### {k: v for ..}: keys ints and texts (false), tuples of them (true) -/
def flSh : Bool → Sh | false => .d .z | true => .e .z
def flD : Bool → List (D × D) → D | false, rs => .dict rs | true, rs => .dict ((.bool true, .none) :: rs)
def flPut : Bool → List (D × D) → D → D → Option (List (D × D))
  | false, rs, k, d => (dKey k).map fun y => dPutL rs y d
  | true, rs, k, d => (tKey k).map fun y => tPutL rs y d
def flO : Bool → HO | false => .dK [] | true => .dT []
theorem flO_is (t : Bool) : flO t = .dK [] ∨ flO t = .dT [] := by cases t <;> first | exact .inl rfl | exact .inr rfl
def putAll (t : Bool) : List D → List (D × D) → Option (List (D × D))
  | [], rs => some rs
  | .tuple [k, v] :: es, rs => (flPut t rs k v).bind fun rs' => putAll t es rs'
  | _ :: _, _ => none
def vDc (t : Bool) (is : List Nat) (f : Ev → Out (List D)) (g : D → Ev → Option Ev) (c : Ev → Out Bool) (fk fv : Ev → Out D) : Ev → Out Va := fun Γ => (f Γ).bind fun ds Γ1 => if ds.length ≤ 16777216 then
    (match compL is g c (fTup (fsC fk (fsC fv fsN))) ds (wipeG Γ1 is) with | some (es, Γ2) => (match putAll t es [] with | some rs => .ok (flSh t, flD t rs) (restG Γ1 Γ2 is) | none => .st) | none => .st) else .st
section
variable {g : Gh} {Hf H : Hp} {σ : St} {Γ : Ev} {fr : List (V × Va)}
theorem dc_put {t : Bool} {a : Addr} {rs rs' : List (D × D)} {y z : V} {k d : D} (st : StOk g Hf H σ Γ ((.ref a, (flSh t, flD t rs)) :: fr)) (zy : Fz g.K Hf y k) (zv : Fz g.K Hf z d) (e : flPut t rs k d = some rs') (hl : rs.length < 16777216) :
    ∃ H', DPut H a y z H' ∧ StOk g Hf H' σ Γ ((.ref a, (flSh t, flD t rs')) :: fr) ∧ rs'.length ≤ rs.length + 1 := by
  obtain ⟨ω, w⟩ := id st
  cases t with
  | false =>
    obtain ⟨A, ⟨a', kvs, ds, B, e1, e2, e3, r, e4⟩, nd, hA⟩ := w.fr.1
    cases e1
    injection e2 with e2
    subst e2
    change (dKey k).map _ = some rs' at e
    cases hy : dKey k with
    | none => rw [hy] at e; cases e
    | some q =>
      rw [hy] at e
      cases e
      obtain ⟨rfl, rfl⟩ := key_val zy hy
      obtain ⟨ds', e5, f5⟩ := rows_put (k := q) zv r.zs.2
      have l1 : kvs.length < 16777216 := by rw [show (List.map (fun p => kD p.fst) kvs).zip ds = rows kvs ds from rfl, rows_len r.zs.2] at hl; exact hl
      refine ⟨_, DPut.k e3 (by rw [sizeLine_eq]; exact l1), ?_, ?_⟩
      · show StOk g Hf _ σ Γ ((.ref a, (.d .z, .dict (dPutL (rows kvs ds) q d))) :: fr)
        rw [e5]
        exact st.mutTopH (fun _ o => own_d_mem o) (own_d_z f5)
      · show (dPutL (rows kvs ds) q d).length ≤ (rows kvs ds).length + 1
        rw [e5, rows_len f5, rows_len r.zs.2]
        exact length_putK kvs q z
  | true =>
    obtain ⟨A, ⟨a', kvs, ds, B, e1, e2, e3, r, e4⟩, nd, hA⟩ := w.fr.1
    cases e1
    injection e2 with e2
    injection e2 with _ e2
    subst e2
    change (tKey k).map _ = some rs' at e
    cases hy : tKey k with
    | none => rw [hy] at e; cases e
    | some q =>
      rw [hy] at e
      cases e
      obtain ⟨b, rfl, hb, rfl⟩ := tkey_val zy hy
      obtain ⟨ds', e5, f5⟩ := trows_put (k := q) zv r.zs.2
      have l1 : kvs.length < 16777216 := by rw [show (List.map (fun p => kT p.fst) kvs).zip ds = trows kvs ds from rfl, trows_len r.zs.2] at hl; exact hl
      refine ⟨_, DPut.t e3 (st.sub _ _ hb) (by rw [sizeLine_eq]; exact l1), ?_, ?_⟩
      · show StOk g Hf _ σ Γ ((.ref a, (.e .z, .dict ((.bool true, .none) :: tPutL (trows kvs ds) q d))) :: fr)
        rw [e5]
        exact st.mutTopH (fun _ o => own_e_mem o) (own_e_z f5)
      · show (tPutL (trows kvs ds) q d).length ≤ (trows kvs ds).length + 1
        rw [e5, trows_len f5, trows_len r.zs.2]
        exact length_putK kvs q z
theorem dc_new (t : Bool) {a : Addr} (st : StOk g Hf H σ Γ fr) (n : H a = none) : StOk g Hf (upd H a (flO t)) σ Γ ((.ref a, (flSh t, flD t [])) :: fr) := by
  cases t with
  | false => exact st.pushN (NewV.od (kvs := []) (ds := []) st.sub n .nil)
  | true => exact st.pushN (NewV.te (kvs := []) (ds := []) st.sub n .nil)
end
theorem pair_run {fk fv : Ev → Out D} {Γ : Ev} : fTup (fsC fk (fsC fv fsN)) Γ = (fk Γ).bind fun k Γ1 => (fv Γ1).bind fun v Γ2 => .ok (.tuple [k, v]) Γ2 := by
  unfold fTup fsC
  cases fk Γ with
  | ok k Γ1 =>
    simp only [Out.bind]
    cases fv Γ1 with
    | ok v Γ2 => rfl
    | ex e Γ2 => rfl
    | st => rfl
  | ex e Γ1 => rfl
  | st => rfl
theorem dc_core2 {t : Bool} {g : GW} {is : List Nat} {f : Ev → Out (List D)} {tt : D → Ev → Option Ev} {c : Ev → Out Bool} {fk fv : Ev → Out D} {σ : St} {H : Hp} {Q : VK} (h : tV g (vDc t is f tt c fk fv) σ H Q) :
    tDcX (flO t) (tI g f) (tG g is tt) (tT ⟨g.h, g.mg, W0⟩ c) (tF ⟨g.h, g.mg, W0⟩ fk) (tF ⟨g.h, g.mg, W0⟩ fv) is σ H Q := by
  obtain ⟨Hf, Γ, fr, st, p⟩ := h
  refine ⟨Hf, Γ, fr, st, Post.bind p fun ds Γ1 _ J H1 Hf1 s1 ⟨st1, it⟩ q => ?_⟩
  split at q
  · rename_i lenOk
    cases hc : compL is tt c (fTup (fsC fk (fsC fv fsN))) ds (wipeG Γ1 is) with
    | none => rw [hc] at q; exact q.elim
    | some r =>
      obtain ⟨es, Γ2⟩ := r
      rw [hc] at q
      dsimp only at q
      cases hp : putAll t es [] with
      | none => rw [hp] at q; exact q.elim
      | some rsF =>
        rw [hp] at q
        intro a na
        have stD : StOk g.h Hf1 (upd H1 a (flO t)) (wipe σ is) (wipeG Γ1 is) ((.ref a, (flSh t, flD t [])) :: fr) := (dc_new t st1 na).wipe is
        refine ⟨fun i m H => m = ds.length - i ∧ i ≤ ds.length ∧ ∃ Hf2 Γ3 rs es', Same Hf1 Hf2 ∧ rs.length ≤ i ∧ StOk g.h Hf2 H (wipe σ is) Γ3 ((.ref a, (flSh t, flD t rs)) :: fr) ∧ (∀ j ∈ is, ∀ x, Γ3[j]? ≠ some (some x)) ∧
          compL is tt c (fTup (fsC fk (fsC fv fsN))) (ds.drop i) Γ3 = some (es', Γ2) ∧ putAll t es' rs = some rsF, ⟨_, rfl, Nat.zero_le _, Hf1, _, [], es, Same.refl _, Nat.le_refl _, stD, wipeG_none, hc, hp⟩, ?_⟩
        rintro i m H2 ⟨rfl, hi, Hf2, Γ3, rs, es', s2, la, st2, hn, hcl, hpl⟩
        obtain ⟨g1, g2⟩ := it i Hf2 H2 s2 st2.sub
        cases h : ds[i]? with
        | none =>
          rw [List.drop_eq_nil_of_le (List.getElem?_eq_none_iff.mp h)] at hcl
          have hcl' : ([], Γ3) = (es', Γ2) := Option.some.inj hcl
          cases hcl'
          cases hpl
          exact .inl ⟨g2 h, q _ H2 Hf2 s2 (StOk.rest st1 s2 st2 hn is)⟩
        | some d =>
          obtain ⟨go, yl⟩ := g1 d h
          have hlt := (List.getElem?_eq_some_iff.mp h).1
          have ed : ds.drop i = d :: ds.drop (i + 1) := by
            rw [List.drop_eq_getElem_cons hlt]
            rw [List.getElem?_eq_getElem hlt] at h
            rw [Option.some.inj h]
          rw [ed] at hcl
          refine .inr ⟨go, fun H' => (i + 1 ≤ ds.length ∧ ∃ Hf2 Γ3 rs es', Same Hf1 Hf2 ∧ rs.length ≤ i + 1 ∧ StOk g.h Hf2 H' (wipe σ is) Γ3 ((.ref a, (flSh t, flD t rs)) :: fr) ∧ (∀ j ∈ is, ∀ x, Γ3[j]? ≠ some (some x)) ∧
            compL is tt c (fTup (fsC fk (fsC fv fsN))) (ds.drop (i + 1)) Γ3 = some (es', Γ2) ∧ putAll t es' rs = some rsF), fun H' n => ⟨ds.length - (i + 1), by omega, rfl, n⟩, fun x H' y => ?_⟩
          obtain ⟨Hf3, a1, a2, a3, a4, z⟩ := yl x H' y
          have st3 := st2.freeze a1 a2 a3 a4
          unfold compL at hcl
          cases ht : tt d Γ3 with
          | none => rw [ht] at hcl; cases hcl
          | some Γ4 =>
            rw [ht] at hcl
            dsimp only at hcl
            refine ⟨Hf3, Γ3, _, d, st3, z, Γ4, ht, fun σ5 H5 Hf5 s5 st5 w5 => ?_⟩
            have w5' : wipe σ5 is = wipe σ is := by rw [w5]; exact wipe_twice is fun j hj => hj
            refine ⟨w5', Hf5, Γ4, _, st5, ?_⟩
            have sA : Same Hf1 Hf5 := (s2.trans a2).trans s5
            cases hcc : c Γ4 with
            | ex e Γ5 => rw [hcc] at hcl; cases hcl
            | st => rw [hcc] at hcl; cases hcl
            | ok k Γ5 =>
              rw [hcc] at hcl
              intro k' H6 Hf6 s6 ⟨st6, ek⟩
              subst ek
              cases k' with
              | false =>
                dsimp only at hcl
                rw [if_neg Bool.false_ne_true]
                exact ⟨hlt, Hf6, _, rs, es', sA.trans s6, by omega, st6.back w5', wipeG_none, hcl, hpl⟩
              | true =>
                dsimp only at hcl
                rw [if_pos rfl]
                refine ⟨Hf6, Γ5, _, st6, ?_⟩
                rw [pair_run] at hcl
                cases hk : fk Γ5 with
                | ex e Γ6 => simp only [hk, Out.bind] at hcl; cases hcl
                | st => simp only [hk, Out.bind] at hcl; cases hcl
                | ok dk Γ6 =>
                  intro yv H7 Hf7 s7 ⟨st7, z7⟩
                  refine ⟨Hf7, Γ6, _, st7, ?_⟩
                  cases hv : fv Γ6 with
                  | ex e Γ7 => simp only [hk, hv, Out.bind] at hcl; cases hcl
                  | st => simp only [hk, hv, Out.bind] at hcl; cases hcl
                  | ok dv Γ7 =>
                    intro zv H8 Hf8 s8 ⟨st8, z8⟩
                    simp only [hk, hv, Out.bind] at hcl
                    change Option.map _ (compL is tt c (fTup (fsC fk (fsC fv fsN))) (ds.drop (i + 1)) (wipeG Γ7 is)) = _ at hcl
                    cases hr : compL is tt c (fTup (fsC fk (fsC fv fsN))) (ds.drop (i + 1)) (wipeG Γ7 is) with
                    | none => rw [hr] at hcl; cases hcl
                    | some r =>
                      obtain ⟨es2, Γ8⟩ := r
                      rw [hr] at hcl
                      cases hcl
                      change (flPut t rs dk dv).bind _ = _ at hpl
                      cases hq : flPut t rs dk dv with
                      | none => rw [hq] at hpl; cases hpl
                      | some rs' =>
                        rw [hq] at hpl
                        obtain ⟨H9, pp, st9, l9⟩ := dc_put st8 (z7.mono s8) z8 hq (by omega)
                        exact ⟨H9, pp, hlt, Hf8, _, rs', es2, ((sA.trans s6).trans s7).trans s8, by omega, st9.back w5', wipeG_none, hr, hpl⟩
  · exact q.elim
section
variable {X : Cx} {W : WX}
theorem pv_dc (t : Bool) {ek ev tg iter : Expr} {ifs : List Expr} {scope : Scope} {own : List (Str × Nat)} {pos : Pos} {f : Ev → Out (List D)} {tt : D → Ev → Option Ev} {c : Ev → Out Bool} {fk fv : Ev → Out D} (hu : X.A.units + 1 < cLine) (hc : X.calm = true) (hN : X.N.Nodup) (ok : BlkOk X.N X.env.scope scope own) (hi : PIt X W tg iter f)
    (hg : ∀ (s : Shared) (H : L2.Hp) (C : Addr) (cl : List (Str × Addr)) (fp : List Addr), PGt (X.blk s H scope (compEnvC scope cl C X.env) fp) tg (own.map (·.2)) tt)
    (ht : ∀ (s : Shared) (H : L2.Hp) (C : Addr) (cl : List (Str × Addr)) (fp : List Addr), PBs (X.blk s H scope (compEnvC scope cl C X.env) fp) W0 ifs c)
    (hk : ∀ (s : Shared) (H : L2.Hp) (C : Addr) (cl : List (Str × Addr)) (fp : List Addr), PF (X.blk s H scope (compEnvC scope cl C X.env) fp) W0 ek fk)
    (hv : ∀ (s : Shared) (H : L2.Hp) (C : Addr) (cl : List (Str × Addr)) (fp : List Addr), PF (X.blk s H scope (compEnvC scope cl C X.env) fp) W0 ev fv) (hs : ∀ x, foldedSetIterable iter X.env x = pure x := by intro _; rfl) :
    PV X W (.DictComp ek ev [⟨tg, iter, ifs, 0⟩] scope pos) (vDc t (own.map (·.2)) f tt c fk fv) :=
  ⟨fun f0 h0 => (pe_dcX (flO_is t) hu hc hN (hi.run f0 h0) ok (fun s H C cl fp => (hg s H C cl fp).run (gh X W f0 h0) rfl) (fun s H C cl fp => (ht s H C cl fp).run f0 h0) (fun s H C cl fp => (hk s H C cl fp).run f0 h0) (fun s H C cl fp => (hv s H C cl fp).run f0 h0) hs).imp fun σ H Q h => dc_core2 (t := t) (g := gh X W f0 h0) h⟩
theorem ps_dc (t : Bool) (i : Nat) {y : Str} {py : Pos} {ek ev tg iter : Expr} {ifs : List Expr} {scope : Scope} {own : List (Str × Nat)} {pos spos : Pos} {f : Ev → Out (List D)} {tt : D → Ev → Option Ev} {c : Ev → Out Bool} {fk fv : Ev → Out D} (hu : X.A.units + 1 < cLine) (hc : X.calm = true) (hN : X.N.Nodup) (ok : BlkOk X.N X.env.scope scope own)
    (hy : X.N[i]? = some y) (hyl : X.env.scope.names.lookup y = some .local) (hsw : swapsWith (.DictComp ek ev [⟨tg, iter, ifs, 0⟩] scope pos) (some (.Name y py)) spos.line X.env = pure true) (hi : PIt X W tg iter f)
    (hg : ∀ (s : Shared) (H : L2.Hp) (C : Addr) (cl : List (Str × Addr)) (fp : List Addr), PGt (X.blk s H scope (compEnvC scope cl C X.env) fp) tg (own.map (·.2)) tt)
    (ht : ∀ (s : Shared) (H : L2.Hp) (C : Addr) (cl : List (Str × Addr)) (fp : List Addr), PBs (X.blk s H scope (compEnvC scope cl C X.env) fp) W0 ifs c)
    (hk : ∀ (s : Shared) (H : L2.Hp) (C : Addr) (cl : List (Str × Addr)) (fp : List Addr), PF (X.blk s H scope (compEnvC scope cl C X.env) fp) W0 ek fk)
    (hv : ∀ (s : Shared) (H : L2.Hp) (C : Addr) (cl : List (Str × Addr)) (fp : List Addr), PF (X.blk s H scope (compEnvC scope cl C X.env) fp) W0 ev fv) (hs : ∀ x, foldedSetIterable iter X.env x = pure x := by intro _; rfl) :
    PSt X W (.Assign [.Name y py] (.DictComp ek ev [⟨tg, iter, ifs, 0⟩] scope pos) spos) (sAsg i (vDc t (own.map (·.2)) f tt c fk fv)) :=
  ⟨fun f0 h0 => (ps_dcX (flO_is t) hu hc hN hy hyl hsw (hi.run f0 h0) ok (fun s H C cl fp => (hg s H C cl fp).run (gh X W f0 h0) rfl) (fun s H C cl fp => (ht s H C cl fp).run f0 h0) (fun s H C cl fp => (hk s H C cl fp).run f0 h0) (fun s H C cl fp => (hv s H C cl fp).run f0 h0) hs).imp fun D σ H ⟨Hf, Γ, fr, st, p⟩ =>
    dc_core2 (t := t) (g := gh X W f0 h0) ⟨Hf, Γ, fr, st, PostS.bind p fun x Γ1 _ v H1 Hf1 s1 st1 q => q _ H1 Hf1 (Same.refl _) (st1.store i)⟩⟩
end
/-! a block within a block -/
theorem lookup_relab {x : Str} {P : Str → NameKind → Bool} : ∀ {names : List (Str × NameKind)}, names.lookup x = some .cell ∨ names.lookup x = some .free →
    (names.map fun (n, k) => if P n k = true then (n, NameKind.cell) else (n, k)).lookup x = some .cell ∨ (names.map fun (n, k) => if P n k = true then (n, NameKind.cell) else (n, k)).lookup x = some .free
  | [], h => by rcases h with h | h <;> cases h
  | (n, k) :: r, h => by
    rw [List.map_cons]
    rw [List.lookup_cons] at h
    by_cases c : P n k = true
    · dsimp only
      rw [if_pos c, List.lookup_cons]
      cases hx : x == n with
      | true => exact .inl rfl
      | false => rw [hx] at h; exact lookup_relab h
    · dsimp only
      rw [if_neg c, List.lookup_cons]
      cases hx : x == n with
      | true => rw [hx] at h; exact h
      | false => rw [hx] at h; exact lookup_relab h
theorem blkOk_nest {N : List Str} {sc1 scope : Scope} {own : List (Str × Nat)} {cl : List (Str × Addr)} {C : Addr} {env : Env} (h : blkC N sc1 scope own = true) : BlkOk N (compEnvC sc1 cl C env).scope scope own :=
  let b := blkOk_by h
  ⟨b.kind, b.uniq, b.ix, fun y hy e => lookup_relab (P := fun n k => k == NameKind.free && env.scope.kind == .function && env.kindOf n == some .cell) (b.free y hy e), b.own⟩
theorem set3 {α : Type} {l : List α} {i j : Nat} {a b c : α} (h : i ≠ j) : ((l.set i a).set j b).set i c = (l.set i c).set j b := by
  rw [List.set_comm _ _ (fun e => h e.symm), List.set_set]
end PV
namespace PV
open PySem PySem.Spec PyProof.Rows L2
/-! ### what stands at the top of the frame is taken apart and put together -/
inductive Foot (K : PySem.W.Frag) (Hf H : Hp) : List (V × Va) → List Addr → Prop
  | nil : Foot K Hf H [] []
  | cons {v : V} {x : Va} {A B : List Addr} {T : List (V × Va)} : Own K Hf H x.1 v x.2 A → Foot K Hf H T B → Foot K Hf H ((v, x) :: T) (A ++ B)
section
variable {g : Gh} {Hf H H' : Hp} {σ : St} {Γ : Ev} {fr : List (V × Va)}
theorem foot_of {ω : Ow} : ∀ {T : List (V × Va)}, FrOk g Hf H ω (T ++ fr) → ∃ A, Foot g.K Hf H T A ∧ A.Nodup ∧ ∀ a ∈ A, ∃ j, fr.length ≤ j ∧ j < (T ++ fr).length ∧ ω a = some (.inr j)
  | [], _ => ⟨[], .nil, List.nodup_nil, fun _ z => nomatch z⟩
  | (v, x) :: T, h => by
    obtain ⟨⟨A, o, nd, hA⟩, hr⟩ := h
    obtain ⟨B, f, nb, hB⟩ := foot_of hr
    refine ⟨A ++ B, .cons o f, List.nodup_append.mpr ⟨nd, nb, fun a ha b hb e => ?_⟩, fun a ha => ?_⟩
    · subst e
      obtain ⟨j, _, j2, e⟩ := hB a hb
      rw [hA a ha] at e
      cases e
      exact absurd j2 (Nat.lt_irrefl _)
    · rcases List.mem_append.mp ha with ha | ha
      · exact ⟨_, by show fr.length ≤ (T ++ fr).length; rw [List.length_append]; exact Nat.le_add_left _ _, Nat.lt_succ_self _, hA a ha⟩
      · obtain ⟨j, j1, j2, e⟩ := hB a ha
        exact ⟨j, j1, Nat.lt_succ_of_lt j2, e⟩
theorem foot_to : ∀ {T : List (V × Va)} {A : List Addr}, Foot g.K Hf H T A → A.Nodup → ∀ {ω : Ow}, FrOk g Hf H ω fr → (∀ a ∈ A, ω a = none) →
    ∃ ω' : Ow, FrOk g Hf H ω' (T ++ fr) ∧ (∀ a, a ∉ A → ω' a = ω a) ∧ ∀ a ∈ A, ∃ j, fr.length ≤ j ∧ ω' a = some (.inr j)
  | _, _, .nil, _, ω, h, _ => ⟨ω, h, fun _ _ => rfl, fun _ z => nomatch z⟩
  | _, _, .cons (v := v) (x := x) (A := A) (B := B) (T := T) o f, nd, ω, h, n => by
    obtain ⟨nA, nB, dj⟩ := List.nodup_append.mp nd
    obtain ⟨ω1, h1, k1, k2⟩ := foot_to f nB h fun a ha => n a (List.mem_append_right _ ha)
    have n1 : ∀ a ∈ A, ω1 a = none := fun a ha => by rw [k1 a (fun hb => dj a ha a hb rfl)]; exact n a (List.mem_append_left _ ha)
    classical
    refine ⟨fun a => if a ∈ A then some (.inr (T ++ fr).length) else ω1 a, ⟨⟨A, o, nA, fun a ha => if_pos ha⟩, h1.mono (Same.refl _) fun a j _ e => ⟨rfl, ?_⟩⟩, fun a ha => ?_, fun a ha => ?_⟩
    · have q : a ∉ A := fun q => by rw [n1 a q] at e; cases e
      simp only [if_neg q]; exact e
    · have q : a ∉ A := fun q => ha (List.mem_append_left _ q)
      simp only [if_neg q]; exact k1 a fun q => ha (List.mem_append_right _ q)
    · by_cases q : a ∈ A
      · exact ⟨_, by rw [List.length_append]; exact Nat.le_add_left _ _, if_pos q⟩
      · obtain ⟨j, j1, e⟩ := k2 a ((List.mem_append.mp ha).resolve_left q)
        exact ⟨j, j1, by simp only [if_neg q]; exact e⟩
theorem StOk.repack {T T' : List (V × Va)} (h : StOk g Hf H σ Γ (T ++ fr)) (k : ∀ A, Foot g.K Hf H T A → A.Nodup → ∃ A', Foot g.K Hf H' T' A' ∧ A'.Nodup ∧ (∀ a ∈ A', a ∈ A) ∧ (∀ a, a ∉ A → H' a = H a) ∧ ∀ a ∈ A, H' a ≠ none) : StOk g Hf H' σ Γ (T' ++ fr) := by
  obtain ⟨ω, h⟩ := h
  obtain ⟨A, f, nd, hA⟩ := foot_of h.fr
  obtain ⟨A', f', nd', sub, out, there⟩ := k A f nd
  classical
  have w0 : ∀ a i, (if a ∈ A then none else ω a) = some i → a ∉ A ∧ ω a = some i := fun a i e => by
    by_cases q : a ∈ A
    · rw [if_pos q] at e; cases e
    · rw [if_neg q] at e; exact ⟨q, e⟩
  have hfr : FrOk g Hf H' (fun a => if a ∈ A then none else ω a) fr := (FrOk.pop h.fr).mono (Same.refl _) fun a j hj e => by
    have q : a ∉ A := fun q => by
      obtain ⟨j', j1, _, e'⟩ := hA a q
      rw [e'] at e
      cases e
      omega
    exact ⟨out a q, by simp only [if_neg q]; exact e⟩
  obtain ⟨ω', h', k1, k2⟩ := foot_to f' nd' hfr fun a ha => if_pos (sub a ha)
  refine ⟨ω', fun b o e => ?_, fun b o e => ?_, h.old, h.new, fun a i e => ?_, h.len, fun i x e => ?_, h'⟩
  · have q : b ∉ A := fun q => by
      obtain ⟨j, _, _, w⟩ := hA b q
      rw [(h.own b _ w).1] at e; cases e
    rw [out b q]; exact h.base b o e
  · have q : b ∉ A := fun q => by
      obtain ⟨j, _, _, w⟩ := hA b q
      rw [(h.own b _ w).2.1] at e; cases e
    rw [out b q]; exact h.sub b o e
  · by_cases q : a ∈ A'
    · obtain ⟨j, _, _, w⟩ := hA a (sub a q)
      exact ⟨(h.own a _ w).1, (h.own a _ w).2.1, there a (sub a q)⟩
    · rw [k1 a q] at e
      obtain ⟨q2, w⟩ := w0 a i e
      rw [out a q2]
      exact h.own a i w
  · obtain ⟨v, e1, q⟩ := h.slots i x e
    refine ⟨v, e1, q.mono (Same.refl _) fun a e => ?_⟩
    have q : a ∉ A := fun q => by
      obtain ⟨j', j1, _, e'⟩ := hA a q
      rw [e'] at e
      cases e
    exact ⟨out a q, by rw [k1 a fun z => q (sub a z)]; simp only [if_neg q]; exact e⟩
/-- .. the heap stands -/
theorem StOk.repack0 {T T' : List (V × Va)} (h : StOk g Hf H σ Γ (T ++ fr)) (k : ∀ A, Foot g.K Hf H T A → A.Nodup → ∃ A', Foot g.K Hf H T' A' ∧ A'.Nodup ∧ ∀ a ∈ A', a ∈ A) : StOk g Hf H σ Γ (T' ++ fr) :=
  h.repack fun A f nd => by
    obtain ⟨A', f', nd', s⟩ := k A f nd
    refine ⟨A', f', nd', s, fun _ _ => rfl, ?_⟩
    have : ∀ {T A}, Foot g.K Hf H T A → ∀ a ∈ A, H a ≠ none := fun {T A} f => by
      induction f with
      | nil => exact fun _ z => nomatch z
      | cons o _ ih => exact fun a ha => (List.mem_append.mp ha).elim (o.there a) (ih a)
    exact this f
/-- the slot gets back what it held -/
theorem StOk.putBack {v : V} {x : Va} {i : Nat} (h : StOk g Hf H σ Γ ((v, x) :: fr)) (hi : σ[i]? = some (some v)) : StOk g Hf H σ (Γ.set i (some x)) fr := by
  have z := h.store i
  have e : σ.set i (some v) = σ := by
    apply List.ext_getElem?
    intro j
    rw [List.getElem?_set]
    split
    · rename_i q
      subst q
      rw [if_pos (List.getElem?_eq_some_iff.mp hi).1, hi]
    · rfl
  rw [e] at z
  exact z
end
/-! items -/
theorem OwnL.at {R : V → D → List Addr → Prop} : ∀ {vs : List V} {ds : List D} {A : List Addr} {k : Nat} {d : D}, OwnL R vs ds A → ds[k]? = some d →
    ∃ v A1 B A2, vs[k]? = some v ∧ R v d B ∧ A = A1 ++ (B ++ A2) ∧ ∀ v' d' B', R v' d' B' → OwnL R (vs.set k v') (ds.set k d') (A1 ++ (B' ++ A2))
  | _, _, _, _, _, .nil, e => by simp at e
  | _, _, _, 0, _, .cons (v := v) (A := A) (B := B) h r, e => by
    simp at e
    subst e
    exact ⟨v, [], A, B, rfl, h, rfl, fun v' d' B' h' => by rw [List.nil_append]; exact .cons h' r⟩
  | _, _, _, k + 1, d, .cons (v := v) (A := A) (B := B) h r, e => by
    obtain ⟨w, A1, B', A2, e1, h1, e2, k1⟩ := r.at (k := k) (d := d) (by simpa using e)
    exact ⟨w, A ++ A1, B', A2, by simpa using e1, h1, by rw [e2, List.append_assoc], fun v' d' B'' h' => by rw [List.append_assoc]; exact .cons h (k1 v' d' B'' h')⟩
def atC : Sh → Nat → Option Sh
  | .c s _, 0 => some s
  | .c _ r, k + 1 => atC r k
  | _, _ => none
def setC : Sh → Nat → Sh → Sh
  | .c _ r, 0, s' => .c s' r
  | .c s r, k + 1, s' => .c s (setC r k s')
  | r, _, _ => r
theorem setC_at : ∀ {r : Sh} {k : Nat} {s s' : Sh}, atC r k = some s → setC (setC r k s') k s = r
  | .c s _, 0, _, _, e => by cases e; rfl
  | .c s r, k + 1, _, _, e => by
    show Sh.c s (setC (setC r k _) k _) = _
    rw [setC_at (r := r) e]
theorem atC_set : ∀ {r : Sh} {k : Nat} {s s' : Sh}, atC r k = some s → atC (setC r k s') k = some s'
  | .c s _, 0, _, _, e => rfl
  | .c s r, k + 1, _, _, e => atC_set (r := r) (k := k) e
section
variable {K : PySem.W.Frag} {Hf H : Hp}
theorem OwnC.at : ∀ {r : Sh} {vs : List V} {ds : List D} {A : List Addr} {k : Nat} {s : Sh}, OwnC K Hf H r vs ds A → atC r k = some s →
    ∃ v d A1 B A2, vs[k]? = some v ∧ ds[k]? = some d ∧ Own K Hf H s v d B ∧ A = A1 ++ (B ++ A2) ∧ ∀ s' v' d' B', Own K Hf H s' v' d' B' → OwnC K Hf H (setC r k s') (vs.set k v') (ds.set k d') (A1 ++ (B' ++ A2))
  | .c s _, _, _, _, 0, _, ⟨v, vs, d, ds, A1, A2, e1, e2, h1, h2, e3⟩, e => by
    cases e
    subst e1 e2
    exact ⟨v, d, [], A1, A2, rfl, rfl, h1, e3, fun s' v' d' B' h' => ⟨v', vs, d', ds, B', A2, rfl, rfl, h', h2, rfl⟩⟩
  | .c s r, _, _, _, k + 1, _, ⟨v, vs, d, ds, A1, A2, e1, e2, h1, h2, e3⟩, e => by
    subst e1 e2
    obtain ⟨w, d', B1, B, B2, q1, q2, q3, q4, q5⟩ := OwnC.at (r := r) (k := k) h2 e
    refine ⟨w, d', A1 ++ B1, B, B2, by simpa using q1, by simpa using q2, q3, by rw [e3, q4, List.append_assoc], fun s' v' d' B' h' => ?_⟩
    exact ⟨v, vs.set k v', d, ds.set k d', A1, _, by simp, by simp, h1, q5 s' v' d' B' h', by rw [List.append_assoc]⟩
/-- the shapes of things at an address -/
def stru : Sh → Bool
  | .l _ => true
  | .d _ => true
  | .e _ => true
  | .t _ => true
  | .o _ _ _ => true
  | _ => false
theorem Own.isRef {s : Sh} {v : V} {d : D} {A : List Addr} (h : Own K Hf H s v d A) (q : stru s = true) : ∃ a, v = .ref a := by
  cases s with
  | l s => obtain ⟨a, _, _, _, e, _⟩ := h; exact ⟨a, e⟩
  | d s => obtain ⟨a, _, _, _, e, _⟩ := h; exact ⟨a, e⟩
  | e s => obtain ⟨a, _, _, _, e, _⟩ := h; exact ⟨a, e⟩
  | t s => obtain ⟨a, _, _, e, _⟩ := h; exact ⟨a, e⟩
  | o C xs s => obtain ⟨a, _, _, _, _, e, _⟩ := h; exact ⟨a, e⟩
  | _ => cases q
/-- what stands in the place of a thing that is lent -/
def vD : V → D
  | .ref a => rawD a
  | _ => .none
theorem fz_raw {v : V} {a : Addr} (h : Fz K H v (rawD a)) : v = .ref a := by
  generalize hd : rawD a = d at h
  unfold rawD at hd
  cases h with
  | raw b =>
    injection hd with hd
    injection hd with hd _
    injection hd with _ hd
    injection hd with hd
    rw [Int.ofNat.inj hd]
  | @dK b kvs ds' h r =>
    injection hd with hd
    cases kvs with
    | nil => cases ds' <;> cases hd
    | cons p kvs =>
      cases ds' with
      | nil => cases hd
      | cons d' ds' =>
        rw [List.map_cons, List.zip_cons_cons] at hd
        injection hd with hd _
        injection hd with hd _
        obtain ⟨k, w⟩ := p
        cases k <;> cases hd
  | _ => cases hd
theorem Own.not_raw {s : Sh} {v : V} {a : Addr} {A : List Addr} (h : Own K Hf H s v (rawD a) A) (q : stru s = true) : False := by
  cases s with
  | l s => obtain ⟨_, _, _, _, _, e, _⟩ := h; cases e
  | d s =>
    obtain ⟨_, kvs, ds, _, _, hd, _⟩ := h
    unfold rawD at hd
    injection hd with hd
    cases kvs with
    | nil => cases ds <;> cases hd
    | cons p kvs =>
      cases ds with
      | nil => cases hd
      | cons d' ds' =>
        rw [List.map_cons, List.zip_cons_cons] at hd
        injection hd with hd _
        injection hd with hd _
        obtain ⟨k, w⟩ := p
        cases k <;> cases hd
  | e s => obtain ⟨_, _, _, _, _, e, _⟩ := h; cases e
  | t s => obtain ⟨_, _, _, _, e, _⟩ := h; cases e
  | o C xs s => obtain ⟨_, _, _, _, _, _, e, _⟩ := h; cases e
  | _ => cases q
theorem Own.hole {s : Sh} {a : Addr} : Own K Hf H (.n s) (.ref a) (rawD a) [] := .inl ⟨rfl, rfl, .raw a⟩
end
/-! ### the item of a list or a tuple is lent -/
def idx (x : Va) (n : D) : Option (Nat × Va) := match x, n with
  | (.l (.n s), .list ds), .int j => if stru s = true then (ixN ds.length j).bind fun k => (ds[k]?).bind fun d => if flatD d = true then none else some (k, (s, d)) else none
  | (.t r, .tuple ds), .int j => (ixN ds.length j).bind fun k => (ds[k]?).bind fun d => (atC r k).bind fun s => if stru s = true then some (k, (s, d)) else none
  | _, _ => none
def putAt (x : Va) (k : Nat) (d : D) : Va := match x with
  | (s, .list ds) => (s, .list (ds.set k d))
  | (s, .tuple ds) => (s, .tuple (ds.set k d))
  | x => x
/-- what is left of the container -/
def holeAt (x : Va) (k : Nat) (h : D) : Va := match x with
  | (.l s, .list ds) => (.l s, .list (ds.set k h))
  | (.t r, .tuple ds) => (.t (setC r k .z), .tuple (ds.set k h))
  | x => x
theorem nodup_mid {α : Type} {A1 B A2 : List α} (h : (A1 ++ (B ++ A2)).Nodup) : (B ++ (A1 ++ A2)).Nodup := by
  refine (List.Perm.nodup_iff ?_).mp h
  rw [← List.append_assoc, ← List.append_assoc]
  exact List.Perm.append_right _ List.perm_append_comm
theorem nodup_mid' {α : Type} {A1 B A2 : List α} (h : (B ++ (A1 ++ A2)).Nodup) : (A1 ++ (B ++ A2)).Nodup := by
  refine (List.Perm.nodup_iff ?_).mp h
  rw [← List.append_assoc, ← List.append_assoc]
  exact List.Perm.append_right _ List.perm_append_comm
section
variable {g : Gh} {Hf H : Hp} {σ : St} {Γ : Ev} {fr : List (V × Va)}
theorem StOk.topO {v : V} {x : Va} (h : StOk g Hf H σ Γ ((v, x) :: fr)) : ∃ A, Own g.K Hf H x.1 v x.2 A ∧ A.Nodup := by
  obtain ⟨ω, h⟩ := h
  obtain ⟨⟨A, o, nd, _⟩, _⟩ := h.fr
  exact ⟨A, o, nd⟩
theorem idx_cases {x : Va} {n : D} {k : Nat} {y : Va} (e : idx x n = some (k, y)) :
    (∃ ds j, x = (.l (.n y.1), .list ds) ∧ n = .int j ∧ ixN ds.length j = some k ∧ ds[k]? = some y.2 ∧ flatD y.2 = false ∧ stru y.1 = true) ∨
    ∃ r ds j, x = (.t r, .tuple ds) ∧ n = .int j ∧ ixN ds.length j = some k ∧ ds[k]? = some y.2 ∧ atC r k = some y.1 ∧ stru y.1 = true := by
  obtain ⟨s, d⟩ := y
  unfold idx at e
  split at e
  · split at e
    · rename_i st
      cases h1 : ixN _ _ with
      | none => rw [h1] at e; cases e
      | some k' =>
        rw [h1] at e
        dsimp only [Option.bind] at e
        split at e
        · cases e
        · rename_i h2
          dsimp only at e
          split at e
          · cases e
          · rename_i h3
            cases e
            exact .inl ⟨_, _, rfl, rfl, h1, h2, by simpa using h3, st⟩
    · cases e
  · cases h1 : ixN _ _ with
    | none => rw [h1] at e; cases e
    | some k' =>
      rw [h1] at e
      dsimp only [Option.bind] at e
      split at e
      · cases e
      · rename_i h2
        dsimp only at e
        split at e
        · cases e
        · rename_i h3
          dsimp only at e
          split at e
          · rename_i st
            cases e
            exact .inr ⟨_, _, _, rfl, rfl, h1, h2, h3, st⟩
          · cases e
  · cases e
/-- what the read gives: a list, a tuple at a, its item w -/
def Reads (K : PySem.W.Frag) (H : Hp) (v : V) (n : D) (w : V) : Prop := ∃ a vs j, v = .ref a ∧ n = .int j ∧ atI vs j = some w ∧ ((H a = some (.lst vs)) ∨ SqT K H a vs)
theorem foot1 {K : PySem.W.Frag} {v : V} {x : Va} {A : List Addr} (o : Own K Hf H x.1 v x.2 A) : Foot K Hf H [(v, x)] A := by
  have := Foot.cons o (.nil (K := K) (Hf := Hf) (H := H))
  rwa [List.append_nil] at this
theorem foot2 {K : PySem.W.Frag} {v w : V} {x y : Va} {A B : List Addr} (o : Own K Hf H x.1 v x.2 A) (p : Own K Hf H y.1 w y.2 B) : Foot K Hf H [(v, x), (w, y)] (A ++ B) := .cons o (foot1 p)
theorem foot1_of {K : PySem.W.Frag} {v : V} {x : Va} {A : List Addr} (h : Foot K Hf H [(v, x)] A) : Own K Hf H x.1 v x.2 A := by
  cases h with
  | cons o r => cases r; rw [List.append_nil]; exact o
theorem foot2_of {K : PySem.W.Frag} {v w : V} {x y : Va} {A : List Addr} (h : Foot K Hf H [(v, x), (w, y)] A) : ∃ A1 A2, A = A1 ++ A2 ∧ Own K Hf H x.1 v x.2 A1 ∧ Own K Hf H y.1 w y.2 A2 := by
  cases h with
  | cons o r => exact ⟨_, _, rfl, o, foot1_of r⟩
theorem StOk.lend {v : V} {x y : Va} {n : D} {k : Nat} (h : StOk g Hf H σ Γ ((v, x) :: fr)) (e : idx x n = some (k, y)) :
    ∃ b, Reads g.K H v n (.ref b) ∧ StOk g Hf H σ Γ ((.ref b, y) :: (v, holeAt x k (rawD b)) :: fr) := by
  obtain ⟨A, o, nd⟩ := h.topO
  rcases idx_cases e with ⟨ds, j, rfl, rfl, h1, h2, h3, h4⟩ | ⟨r, ds, j, rfl, rfl, h1, h2, h3, h4⟩
  · obtain ⟨a, vs, ds', B, rfl, e2, e3, r, e4⟩ := id o
    cases e2
    obtain ⟨w, A1, B1, A2, q1, q2, q3, q4⟩ := r.at h2
    have q2' : Own g.K Hf H y.1 w y.2 B1 := q2.resolve_left fun z => by rw [h3] at z; cases z.2.1
    obtain ⟨b, rfl⟩ := q2'.isRef h4
    refine ⟨b, ⟨a, vs, j, rfl, rfl, by unfold atI; rw [r.length, h1]; exact q1, .inl e3⟩, ?_⟩
    refine StOk.repack0 (T := [(.ref a, (.l (.n y.1), .list ds))]) (T' := [(.ref b, y), (.ref a, (.l (.n y.1), .list (ds.set k (rawD b))))]) h fun A' f nd' => ?_
    obtain ⟨a', vs', ds', B', z1, z2, z3, z4, z5⟩ := foot1_of f
    cases z1
    cases z2
    rw [e3] at z3
    cases z3
    obtain ⟨w', A1, B1, A2, p1, p2, p3, p4⟩ := z4.at h2
    rw [q1] at p1
    cases p1
    have p2' : Own g.K Hf H y.1 (.ref b) y.2 B1 := p2.resolve_left fun z => by rw [h3] at z; cases z.2.1
    have p5 := p4 (.ref b) (rawD b) [] Own.hole
    have hset : vs.set k (.ref b) = vs := by
      apply List.ext_getElem?
      intro m
      rw [List.getElem?_set]
      split
      · rename_i z; subst z; rw [if_pos (List.getElem?_eq_some_iff.mp q1).1, q1]
      · rfl
    rw [hset, List.nil_append] at p5
    refine ⟨B1 ++ (a :: (A1 ++ A2)), foot2 p2' ⟨a, vs, _, A1 ++ A2, rfl, rfl, e3, p5, rfl⟩, ?_, fun c hc => ?_⟩
    · rw [z5, p3] at nd'
      have := nodup_mid (A1 := a :: A1) (B := B1) (A2 := A2) nd'
      exact this
    · rw [z5, p3]
      simp only [List.mem_append, List.mem_cons] at hc ⊢
      grind
  · obtain ⟨a, vs, ds', rfl, e2, e3, oc⟩ := id o
    cases e2
    obtain ⟨w, d, A1, B1, A2, q1, q1', q2, q3, q4⟩ := oc.at h3
    rw [h2] at q1'
    cases q1'
    obtain ⟨b, rfl⟩ := q2.isRef h4
    have hl : vs.length = ds.length := by
      have : ∀ (r : Sh) {vs : List V} {ds : List D} {A : List Addr}, OwnC g.K Hf H r vs ds A → vs.length = ds.length := fun r => by
        induction r with
        | c s r _ ih =>
          intro vs ds A z
          obtain ⟨_, _, _, _, _, _, e1, e2, _, z2, _⟩ := z
          rw [e1, e2, List.length_cons, List.length_cons, ih z2]
        | u => intro vs ds A z; exact z.2.length
        | _ => intro vs ds A z; exact z.elim
      exact this r oc
    refine ⟨b, ⟨a, vs, j, rfl, rfl, by unfold atI; rw [hl, h1]; exact q1, .inr (SqT.of (h.sub _ _ e3))⟩, ?_⟩
    refine StOk.repack0 (T := [(.ref a, (.t r, .tuple ds))]) (T' := [(.ref b, y), (.ref a, (.t (setC r k .z), .tuple (ds.set k (rawD b))))]) h fun A' f nd' => ?_
    obtain ⟨a', vs', ds', z1, z2, z3, z4⟩ := foot1_of f
    cases z1
    cases z2
    rw [e3] at z3
    cases z3
    obtain ⟨w', d', A1, B1, A2, p1, p1', p2, p3, p4⟩ := z4.at h3
    rw [q1] at p1
    cases p1
    rw [h2] at p1'
    cases p1'
    have p5 := p4 .z (.ref b) (rawD b) [] ⟨rfl, .raw b⟩
    have hset : vs.set k (.ref b) = vs := by
      apply List.ext_getElem?
      intro m
      rw [List.getElem?_set]
      split
      · rename_i z; subst z; rw [if_pos (List.getElem?_eq_some_iff.mp q1).1, q1]
      · rfl
    rw [hset, List.nil_append] at p5
    refine ⟨B1 ++ (A1 ++ A2), foot2 p2 ⟨a, vs, _, rfl, rfl, e3, p5⟩, ?_, fun c hc => ?_⟩
    · rw [p3] at nd'
      exact nodup_mid nd'
    · rw [p3]
      simp only [List.mem_append] at hc ⊢
      grind
theorem StOk.unlend {v : V} {b : Addr} {x y : Va} {n : D} {k : Nat} {d : D} (e : idx x n = some (k, y)) (h : StOk g Hf H σ Γ ((.ref b, (y.1, d)) :: (v, holeAt x k (rawD b)) :: fr)) : StOk g Hf H σ Γ ((v, putAt x k d) :: fr) := by
  rcases idx_cases e with ⟨ds, j, rfl, rfl, h1, h2, h3, h4⟩ | ⟨r, ds, j, rfl, rfl, h1, h2, h3, h4⟩
  · refine StOk.repack0 (T := [(.ref b, (y.1, d)), (v, (.l (.n y.1), .list (ds.set k (rawD b))))]) (T' := [(v, (.l (.n y.1), .list (ds.set k d)))]) h fun A f nd => ?_
    obtain ⟨A1, A2, rfl, o1, o2⟩ := foot2_of f
    obtain ⟨a, vs, ds', B, rfl, e2, e3, r, rfl⟩ := o2
    cases e2
    have hk : k < ds.length := (List.getElem?_eq_some_iff.mp h2).1
    obtain ⟨w, B1, C, B2, p1, p2, p3, p4⟩ := r.at (List.getElem?_set_self (l := ds) (a := rawD b) hk)
    have hw : w = .ref b ∧ C = [] := by
      rcases p2 with ⟨z1, _, z2⟩ | z
      · exact ⟨fz_raw z2, z1⟩
      · exact (Own.not_raw z h4).elim
    obtain ⟨rfl, rfl⟩ := hw
    have p5 := p4 (.ref b) d A1 (.inr o1)
    have hset : vs.set k (.ref b) = vs := by
      apply List.ext_getElem?
      intro m
      rw [List.getElem?_set]
      split
      · rename_i z; subst z; rw [if_pos (List.getElem?_eq_some_iff.mp p1).1, p1]
      · rfl
    rw [hset, List.set_set] at p5
    refine ⟨a :: (B1 ++ (A1 ++ B2)), foot1 ⟨a, vs, _, _, rfl, rfl, e3, p5, rfl⟩, ?_, fun c hc => ?_⟩
    · rw [p3] at nd
      exact nodup_mid' (A1 := a :: B1) (B := A1) (A2 := B2) nd
    · rw [p3]
      simp only [List.mem_append, List.mem_cons, List.nil_append] at hc ⊢
      grind
  · refine StOk.repack0 (T := [(.ref b, (y.1, d)), (v, (.t (setC r k .z), .tuple (ds.set k (rawD b))))]) (T' := [(v, (.t r, .tuple (ds.set k d)))]) h fun A f nd => ?_
    obtain ⟨A1, A2, rfl, o1, o2⟩ := foot2_of f
    obtain ⟨a, vs, ds', rfl, e2, e3, oc⟩ := o2
    cases e2
    have hk : k < ds.length := (List.getElem?_eq_some_iff.mp h2).1
    obtain ⟨w, d', B1, C, B2, p1, p1', p2, p3, p4⟩ := oc.at (atC_set (s' := .z) h3)
    rw [List.getElem?_set_self hk] at p1'
    cases p1'
    obtain ⟨rfl, z2⟩ := p2
    cases fz_raw z2
    have p5 := p4 y.1 (.ref b) d A1 o1
    have hset : vs.set k (.ref b) = vs := by
      apply List.ext_getElem?
      intro m
      rw [List.getElem?_set]
      split
      · rename_i z; subst z; rw [if_pos (List.getElem?_eq_some_iff.mp p1).1, p1]
      · rfl
    rw [hset, List.set_set, setC_at h3] at p5
    refine ⟨B1 ++ (A1 ++ B2), foot1 ⟨a, vs, _, rfl, rfl, e3, p5⟩, ?_, fun c hc => ?_⟩
    · rw [p3] at nd
      exact nodup_mid' nd
    · rw [p3]
      simp only [List.mem_append, List.nil_append] at hc ⊢
      grind
end
end PV
namespace PV
open PySem PySem.Spec PyProof.Rows L2
/-! ### places: x, x[i], x[i][j]: what stands there is lent to the frame -/
/-- what stands at the place, and what the slot holds when it is given back changed -/
abbrev Pl := Ev → Out (Va × (D → Va))
/-- how a lent thing is given back -/
def Back (g : Gh) (σ : St) (i : Nat) (v : V) (s : Sh) (fl fr : List (V × Va)) (rb : D → Va) : Prop :=
  ∀ Hf H Γ d, StOk g Hf H σ Γ ((v, (s, d)) :: (fl ++ fr)) → StOk g Hf H σ (Γ.set i (some (rb d))) fr
def RL (g : GW) (σ : St) (i : Nat) (fr : List (V × Va)) : Hp → Hp → (Va × (D → Va)) → Ev → V → Prop := fun Hf H y Γ v => ∃ fl, StOk g.h Hf H σ Γ ((v, y.1) :: (fl ++ fr)) ∧ Back g.h σ i v y.1.1 fl fr y.2
def tL (g : GW) (i : Nat) (p : Pl) : TE := fun σ H Q => ∃ Hf Γ fr, StOk g.h Hf H σ Γ fr ∧ Post g σ fr (RL g σ i fr) Hf Q (p Γ)
structure PL (X : Cx) (W : WX) (e : Expr) (i : Nat) (p : Pl) : Prop where
  run : ∀ f0 h0, PE X e (tL (gh X W f0 h0) i p)
/-- a name -/
def pl0 (i : Nat) : Pl := fun Γ => match Γ[i]? with | some (some x) => .ok (x, fun d => (x.1, d)) (Γ.set i none) | _ => .st
/-- an item of what a name holds: the index is asked first -/
def pl1 (i : Nat) (fi : Ev → Out D) : Pl := fun Γ => match Γ[i]? with
  | some (some _) => (fi Γ).bind fun n Γ1 => (match Γ1[i]? with
    | some (some x) => (match idx x n with | some (k, y) => .ok (y, fun d => putAt x k d) (Γ1.set i none) | none => .st)
    | _ => .st)
  | _ => .st
/-- an item of what stands at a place -/
def plI (p : Pl) (fi : Ev → Out D) : Pl := fun Γ => (p Γ).bind fun a Γ1 => (fi Γ1).bind fun n Γ2 => match idx a.1 n with | some (k, y) => .ok (y, fun d => a.2 (putAt a.1 k d).2) Γ2 | none => .st
theorem PEx.pushL {g : GW} {Hf : Hp} {σ : St} {fr : List (V × Va)} {e : Exc} {Γ : Ev} : ∀ {fl : List (V × Va)}, PEx g Hf σ fr e Γ → PEx g Hf σ (fl ++ fr) e Γ
  | [], h => h
  | _ :: _, h => PEx.push (PEx.pushL h)
theorem putAt_sh {x y : Va} {n : D} {k : Nat} {d : D} (e : idx x n = some (k, y)) : (putAt x k d).1 = x.1 := by
  rcases idx_cases e with ⟨ds, j, rfl, _⟩ | ⟨r, ds, j, rfl, _⟩ <;> rfl
theorem Reads.tix {K : PySem.W.Frag} {H : Hp} {v : V} {n : D} {w : V} (h : Reads K H v n w) {y : V} {Q : VK} (hy : Fz K H y n) (q : Q w H) : rIx K v y H Q := by
  obtain ⟨a, vs, j, rfl, rfl, h1, h2 | h2⟩ := h
  · cases hy
    exact .inl ⟨a, vs, j, w, rfl, rfl, SqL.of h2, h1, q⟩
  · cases hy
    exact .inr (.inl ⟨a, vs, j, w, rfl, rfl, h2, h1, q⟩)
section
variable {X : Cx} {W : WX} {e ix : Expr} {x : Str} {p spos : Pos} {fi : Ev → Out D} {q : Pl} {i : Nat}
theorem pl_0 (i : Nat) (hN : X.N[i]? = some x := by rfl) (hv : Vis X.env.scope x := by first | exact Or.inl rfl | exact Or.inr (Or.inl rfl) | exact Or.inr (Or.inr rfl)) (hd : (x == ("__debug__" : Str)) = false := by decide)
    (hcd : (x == ("__classdict__" : Str)) = false := by decide) : PL X W (.Name x p) i (pl0 i) := ⟨fun f0 h0 => (pe_var hN hv hd hcd).imp fun σ H Q ⟨Hf, Γ, fr, st, p⟩ => by
  unfold pl0 at p
  split at p
  · rename_i y e
    obtain ⟨v, e1, st1⟩ := st.take e
    refine ⟨v, e1, p v H Hf (Same.refl _) ⟨[], st1, fun Hf' H' Γ' d st' => st'.putBack e1⟩⟩
  · exact p.elim⟩
theorem pl_1 (i : Nat) (hi : PF X W ix fi) (hp : PlainIx ix) (hN : X.N[i]? = some x := by rfl) (hv : Vis X.env.scope x := by first | exact Or.inl rfl | exact Or.inr (Or.inl rfl) | exact Or.inr (Or.inr rfl)) (hd : (x == ("__debug__" : Str)) = false := by decide)
    (hcd : (x == ("__classdict__" : Str)) = false := by decide) : PL X W (.Subscript (.Name x p) ix spos) i (pl1 i fi) := ⟨fun f0 h0 => (pe_ix ix_seq (pe_var hN hv hd hcd) (hi.run f0 h0) hp).imp fun σ H Q ⟨Hf, Γ, fr, st, p⟩ => by
  unfold pl1 at p
  split at p
  · rename_i y0 e0
    obtain ⟨v, e1, _⟩ := st.take e0
    refine ⟨v, e1, Hf, Γ, fr, st, Post.bind p fun n Γ1 _ y H1 Hf1 s1 ⟨st1, z1⟩ q => ?_⟩
    split at q
    · rename_i xx e2
      split at q
      · rename_i k yy e3
        obtain ⟨v', e4, st2⟩ := st1.take e2
        rw [e1] at e4
        cases e4
        obtain ⟨b, rd, st3⟩ := st2.lend e3
        exact rd.tix (z1.mono st1.sub) (q (.ref b) H1 Hf1 (Same.refl _) ⟨[_], st3, fun Hf' H' Γ' d st' => (StOk.unlend e3 st').putBack e1⟩)
      · exact q.elim
    · exact q.elim
  · exact p.elim⟩
theorem pl_i (ha : PL X W e i q) (hi : PF X W ix fi) (hp : PlainIx ix) : PL X W (.Subscript e ix spos) i (plI q fi) := ⟨fun f0 h0 => (pe_ix ix_seq (ha.run f0 h0) (hi.run f0 h0) hp).imp fun σ H Q ⟨Hf, Γ, fr, st, p⟩ => by
  refine ⟨Hf, Γ, fr, st, Post.bind p fun a Γ1 _ v H1 Hf1 s1 ⟨fl, st1, bk⟩ q => ⟨Hf1, Γ1, (v, a.1) :: (fl ++ fr), st1, ?_⟩⟩
  cases hf : fi Γ1 with
  | st => rw [hf] at q; exact q.elim
  | ex ee Γ2 => rw [hf] at q; exact PEx.push (PEx.pushL q)
  | ok n Γ2 =>
    rw [hf] at q
    intro y H2 Hf2 s2 ⟨st2, z2⟩
    have q := Post.mono q s2
    dsimp only [Out.bind] at q
    split at q
    · rename_i k yy e3
      obtain ⟨b, rd, st3⟩ := st2.lend e3
      refine rd.tix (z2.mono st2.sub) (q (.ref b) H2 Hf2 (Same.refl _) ⟨_ :: fl, st3, fun Hf' H' Γ' d st' => ?_⟩)
      have st4 := StOk.unlend e3 st'
      exact bk Hf' H' Γ' _ (by rw [← putAt_sh (d := d) e3]; exact st4)
    · exact q.elim⟩
end
/-! ### a method of the list at a place -/
def fPM (i : Nat) (p : Pl) (op : List D → List D → Option (D × List D)) (fs : Ev → Out (List D)) : Ev → Out D := fun Γ => (p Γ).bind fun a Γ1 => match a.1 with
  | (.l .z, .list _) => (fs Γ1).bind fun args Γ2 => (match a.1 with
    | (_, .list ds) => (match op ds args with | some (d, ds') => .ok d (Γ2.set i (some (a.2 (.list ds')))) | none => .st)
    | _ => .st)
  | _ => .st
theorem pm_core {g : GW} {r : V → List V → Hp → VK → Prop} {op : List D → List D → Option (D × List D)} {fs : Ev → Out (List D)} {p : Pl} (hs : MtS g.h.K r op) {i : Nat} {σ : St} {H : Hp} {Q : VK} (h : tF g (fPM i p op fs) σ H Q) :
    tL g i p σ H fun x H1 => tyV g.h.K "list" x H1 ∧ tFs g fs σ H1 fun xs H2 => r x xs H2 Q := by
  obtain ⟨Hf, Γ, fr, st, p⟩ := h
  refine ⟨Hf, Γ, fr, st, Post.bind p fun a Γ1 _ v H1 Hf1 s1 ⟨fl, st1, bk⟩ q => ?_⟩
  obtain ⟨⟨s, d⟩, rb⟩ := a
  dsimp only at q st1 bk
  split at q
  · rename_i ds0 heq
    cases heq
    have hv : ∃ b, v = .ref b := by
      obtain ⟨A, o, _⟩ := st1.topO
      obtain ⟨b, _, _, _, e, _⟩ := o
      exact ⟨b, e⟩
    obtain ⟨b, rfl⟩ := hv
    obtain ⟨vs, e5, f5⟩ := st1.topL
    refine ⟨.inl ⟨rfl, vs, SqL.of e5⟩, Hf1, Γ1, _, st1, ?_⟩
    cases hf : fs Γ1 with
    | st => rw [hf] at q; exact q.elim
    | ex e Γ2 => rw [hf] at q; exact PEx.push (PEx.pushL q)
    | ok args Γ2 =>
      rw [hf] at q
      intro xs H2 Hf2 s2 ⟨st2, l2⟩
      have q := Post.mono q s2
      dsimp only [Out.bind] at q
      obtain ⟨vs2, e6, f6⟩ := st2.topL
      split at q
      · rename_i r ds' ho
        exact hs Hf2 H2 b vs2 _ xs args r ds' Q e6 f6 l2 ho fun u vs' z1 z2 => q u _ Hf2 (Same.refl _) ⟨bk _ _ _ _ (st2.mutTop z1), z2⟩
      · exact q.elim
  · exact q.elim
section
variable {X : Cx} {W : WX} {o e : Expr} {es : List Expr} {name : Str} {apos cpos : Pos} {id : String} {r : V → List V → Hp → VK → Prop} {op : List D → List D → Option (D × List D)} {fs : Ev → Out (List D)} {p : Pl}
theorem pf_pm (i : Nat) (pa : PlainAttrs "list") (slot : Slot "list" name id) (hty : typeOf (.builtin id) = pure (.type "method_descriptor")) (hm : MtR X id r) (hs : MtS X.K r op) (ho : PL X W o i p) (ha : PFs X W (e :: es) fs)
    (hbase : attributeBase o name X.env (eval o X.env) = eval o X.env := by rfl)
    (hfew : ((backTo cpos (starEach (e :: es) X.env)).all (fun x => !x.1) && (backToKw cpos (keywordEach [] X.env)).all (fun x => x.1.isSome) && decide ((e :: es).length + ([] : List Keyword).length + (if ([] : List Keyword).isEmpty then 0 else 1) < 30)) = true := by rfl)
    (hline : (apos.endLine == cpos.line) = true := by rfl) (hst : starEach (e :: es) X.env = (false, eval e X.env) :: starEach es X.env := by rfl) (hplain : (backTo cpos (starEach es X.env)).any (·.1) = false := by rfl) :
    PF X W (.Call (.Attribute o name apos) (e :: es) [] cpos) (fPM i p op fs) :=
  ⟨fun f0 h0 => (pe_bm pa slot hty hm (ho.run f0 h0) (ha.run f0 h0) hbase hfew hline hst hplain).imp fun σ H Q h => pm_core (g := gh X W f0 h0) hs h⟩
theorem pf_pm0 (i : Nat) (pa : PlainAttrs "list") (slot : Slot "list" name id) (hty : typeOf (.builtin id) = pure (.type "method_descriptor")) (hm : MtR X id r) (hs : MtS X.K r op) (ho : PL X W o i p)
    (hbase : attributeBase o name X.env (eval o X.env) = eval o X.env := by rfl) (hline : (apos.endLine == cpos.line) = true := by rfl) :
    PF X W (.Call (.Attribute o name apos) [] [] cpos) (fPM i p op fsN) :=
  ⟨fun f0 h0 => (pe_bm0 pa slot hty hm (ho.run f0 h0) hbase hline).imp fun σ H Q h => by
    obtain ⟨Hf, Γ, fr, st, k⟩ := pm_core (g := gh X W f0 h0) hs h
    refine ⟨Hf, Γ, fr, st, ?_⟩
    cases hp : p Γ with
    | st => rw [hp] at k; exact k
    | ex ee Γ2 => rw [hp] at k; exact k
    | ok a Γ2 =>
      rw [hp] at k
      intro v H1 Hf1 s1 rl
      obtain ⟨ty, Hf2, Γ3, fr3, st3, k3⟩ := k v H1 Hf1 s1 rl
      exact ⟨ty, k3 [] H1 Hf2 (Same.refl _) ⟨st3, .nil⟩⟩⟩
end
/-! ### xs.append(v), v handed on -/
/-- a value becomes an item of things of shape s -/
def asItem (s : Sh) (x : Va) : Option D := if x.1 = s then some x.2 else match s with
  | .n s => if x.1 = s then some x.2 else if x.1 = .z ∧ flatD x.2 = true then some x.2 else none
  | _ => none
theorem asItem_own {K : PySem.W.Frag} {Hf H : Hp} {s : Sh} {x : Va} {d : D} {v : V} {A : List Addr} (e : asItem s x = some d) (o : Own K Hf H x.1 v x.2 A) : Own K Hf H s v d A := by
  unfold asItem at e
  split at e
  · rename_i z; cases e; subst z; exact o
  · split at e
    · split at e
      · rename_i z; cases e; subst z; exact .inr o
      · split at e
        · rename_i z; cases e; obtain ⟨x1, x2⟩ := x; obtain ⟨z1, z2⟩ := z; dsimp only at z1; subst z1; exact .inl ⟨o.1, z2, o.2⟩
        · cases e
    · cases e
theorem StOk.appTop {g : Gh} {Hf H : Hp} {σ : St} {Γ : Ev} {fr : List (V × Va)} {b : Addr} {w : V} {s : Sh} {ds : List D} {x : Va} {d : D} (h : StOk g Hf H σ Γ ((w, x) :: (.ref b, (.l s, .list ds)) :: fr)) (e : asItem s x = some d) :
    ∃ vs, H b = some (.lst vs) ∧ vs.length = ds.length ∧ StOk g Hf (upd H b (.lst (vs ++ [w]))) σ Γ ((.ref b, (.l s, .list (ds ++ [d]))) :: fr) := by
  have hb : ∃ vs, H b = some (.lst vs) ∧ vs.length = ds.length := by
    obtain ⟨A, o, _⟩ := h.pop.topO
    obtain ⟨a, vs, ds', B, e1, e2, e3, r, e4⟩ := o
    cases e1
    cases e2
    exact ⟨vs, e3, r.length⟩
  obtain ⟨vs, e3, hl⟩ := hb
  refine ⟨vs, e3, hl, ?_⟩
  refine StOk.repack (T := [(w, x), (.ref b, (.l s, .list ds))]) (T' := [(.ref b, (.l s, .list (ds ++ [d])))]) h fun A f nd => ?_
  obtain ⟨A1, A2, rfl, o1, o2⟩ := foot2_of f
  obtain ⟨a, vs', ds', B, e1, e2, e3', r, rfl⟩ := o2
  cases e1
  cases e2
  rw [e3] at e3'
  cases e3'
  obtain ⟨n1, n2, dj⟩ := List.nodup_append.mp nd
  obtain ⟨nb, nB⟩ := List.nodup_cons.mp n2
  have up : ∀ c, c ≠ b → upd H b (.lst (vs ++ [w])) c = H c := fun c hc => upd_ne hc
  have ub : b ∉ A1 := fun z => dj b z b List.mem_cons_self rfl
  have o1' := (asItem_own e o1).keep (H' := upd H b (.lst (vs ++ [w]))) (Same.refl _) fun c hc => up c fun z => ub (z ▸ hc)
  have r' : OwnL (Own g.K Hf (upd H b (.lst (vs ++ [w]))) s) vs ds B := r.imp fun v d C hC q => q.keep (Same.refl _) fun c hc => up c fun z => nb (z ▸ hC c hc)
  have r2 := r'.append (.cons o1' .nil)
  rw [List.append_nil] at r2
  refine ⟨b :: (B ++ A1), foot1 ⟨b, _, _, _, rfl, rfl, upd_same, r2, rfl⟩, ?_, fun c hc => ?_, fun c hc => up c fun z => hc (by rw [z]; simp), fun c hc => ?_⟩
  · refine List.nodup_cons.mpr ⟨fun m => ?_, List.nodup_append.mpr ⟨nB, n1, fun c hc c' hc' e => dj c' hc' c (List.mem_cons_of_mem _ hc) e.symm⟩⟩
    rcases List.mem_append.mp m with m | m
    · exact nb m
    · exact ub m
  · simp only [List.mem_append, List.mem_cons] at hc ⊢
    grind
  · by_cases z : c = b
    · rw [z, upd_same]; exact fun z => nomatch z
    · rw [up c z]
      have : ∀ {T A}, Foot g.K Hf H T A → ∀ a ∈ A, H a ≠ none := fun {T A} f => by
        induction f with
        | nil => exact fun _ z => nomatch z
        | cons o _ ih => exact fun a ha => (List.mem_append.mp ha).elim (o.there a) (ih a)
      exact this f c hc
def fPA (i : Nat) (p : Pl) (fv : Ev → Out Va) : Ev → Out D := fun Γ => (p Γ).bind fun a Γ1 => match a.1 with
  | (.l s, .list ds) => (fv Γ1).bind fun x Γ2 => (match asItem s x with
    | some d => if ds.length < 16777216 then .ok .none (Γ2.set i (some (a.2 (.list (ds ++ [d]))))) else .st
    | none => .st)
  | _ => .st
theorem pa_core {g : GW} {fv : Ev → Out Va} {p : Pl} {i : Nat} {σ : St} {H : Hp} {Q : VK} (h : tF g (fPA i p fv) σ H Q) :
    tL g i p σ H fun x H1 => tyV g.h.K "list" x H1 ∧ tCons (tV g fv) tNil σ H1 fun xs H2 => rAppend x xs H2 Q := by
  obtain ⟨Hf, Γ, fr, st, p⟩ := h
  refine ⟨Hf, Γ, fr, st, Post.bind p fun a Γ1 _ v H1 Hf1 s1 ⟨fl, st1, bk⟩ q => ?_⟩
  obtain ⟨⟨s, d⟩, rb⟩ := a
  dsimp only at q st1 bk
  split at q
  · rename_i s ds heq
    cases heq
    have hv : ∃ b vs, v = .ref b ∧ H1 b = some (.lst vs) := by
      obtain ⟨A, o, _⟩ := st1.topO
      obtain ⟨b, vs, _, _, e, _, e3, _⟩ := o
      exact ⟨b, vs, e, e3⟩
    obtain ⟨b, vs, rfl, e5⟩ := hv
    refine ⟨.inl ⟨rfl, vs, SqL.of e5⟩, Hf1, Γ1, _, st1, ?_⟩
    cases hf : fv Γ1 with
    | st => rw [hf] at q; exact q.elim
    | ex e Γ2 => rw [hf] at q; exact PEx.push (PEx.pushL q)
    | ok x Γ2 =>
      rw [hf] at q
      intro w H2 Hf2 s2 st2
      have q := Post.mono q s2
      dsimp only [Out.bind] at q
      split at q
      · rename_i d e
        split at q
        · rename_i hl
          obtain ⟨vs2, e6, l6, st3⟩ := StOk.appTop st2 e
          exact ⟨b, vs2, w, rfl, rfl, e6, by rw [l6, sizeLine_eq]; exact hl, q _ _ Hf2 (Same.refl _) ⟨bk _ _ _ _ st3, .non⟩⟩
        · exact q.elim
      · exact q.elim
  · exact q.elim
theorem pf_pa {X : Cx} {W : WX} {o e : Expr} {apos cpos : Pos} {fv : Ev → Out Va} {p : Pl} (i : Nat) (ho : PL X W o i p) (ha : PV X W e fv) (hbase : attributeBase o "append" X.env (eval o X.env) = eval o X.env := by rfl)
    (hfew : ((backTo cpos (starEach [e] X.env)).all (fun x => !x.1) && (backToKw cpos (keywordEach [] X.env)).all (fun x => x.1.isSome) && decide (([e] : List Expr).length + ([] : List Keyword).length + (if ([] : List Keyword).isEmpty then 0 else 1) < 30)) = true := by rfl)
    (hline : (apos.endLine == cpos.line) = true := by rfl) (hst : starEach [e] X.env = (false, eval e X.env) :: starEach [] X.env := by rfl) (hplain : (backTo cpos (starEach [] X.env)).any (·.1) = false := by rfl) :
    PF X W (.Call (.Attribute o "append" apos) [e] [] cpos) (fPA i p fv) :=
  ⟨fun f0 h0 => (pe_bm PySem.F.plainAttrs_list PySem.F.slot_list_append PySem.F.type_list_append mt_append (ho.run f0 h0) (pa_cons (ha.run f0 h0) pa_nil hst) hbase hfew hline hst hplain).imp fun σ H Q h => pa_core (g := gh X W f0 h0) h⟩
end PV
namespace PV
open PySem PySem.Spec PyProof.Rows L2
/-! ### [a, b, ..], (a, b, ..) whose items are handed on -/
section
variable {K : PySem.W.Frag} {Hf H : Hp}
theorem Foot.append : ∀ {T S : List (V × Va)} {A B : List Addr}, Foot K Hf H T A → Foot K Hf H S B → Foot K Hf H (T ++ S) (A ++ B)
  | _, _, _, _, .nil, s => s
  | _, _, _, _, .cons h r, s => by rw [List.append_assoc]; exact .cons h (r.append s)
theorem Foot.split : ∀ {T S : List (V × Va)} {C : List Addr}, Foot K Hf H (T ++ S) C → ∃ A B, C = A ++ B ∧ Foot K Hf H T A ∧ Foot K Hf H S B
  | [], _, _, h => ⟨[], _, rfl, .nil, h⟩
  | _ :: T, S, _, .cons h r => by
    obtain ⟨A, B, e, f1, f2⟩ := Foot.split (T := T) r
    exact ⟨_, B, by rw [e, List.append_assoc], .cons h f1, f2⟩
theorem Foot.rev : ∀ {T : List (V × Va)} {A : List Addr}, Foot K Hf H T.reverse A → ∃ A', Foot K Hf H T A' ∧ A'.Perm A
  | [], A, h => ⟨A, h, .refl _⟩
  | (v, x) :: T, A, h => by
    rw [List.reverse_cons] at h
    obtain ⟨A1, B1, rfl, f1, f2⟩ := h.split
    obtain ⟨A', f', p⟩ := Foot.rev f1
    exact ⟨B1 ++ A', .cons (foot1_of f2) f', (List.Perm.append_left _ p).trans List.perm_append_comm⟩
theorem Foot.there {T : List (V × Va)} {A : List Addr} (f : Foot K Hf H T A) : ∀ a ∈ A, H a ≠ none := by
  induction f with
  | nil => exact fun _ z => nomatch z
  | cons o _ ih => exact fun a ha => (List.mem_append.mp ha).elim (o.there a) (ih a)
theorem Foot.keep {H' : Hp} {T : List (V × Va)} {A : List Addr} (f : Foot K Hf H T A) (k : ∀ a ∈ A, H' a = H a) : Foot K Hf H' T A := by
  induction f with
  | nil => exact .nil
  | cons o _ ih => exact .cons (o.keep (Same.refl _) fun a ha => k a (List.mem_append_left _ ha)) (ih fun a ha => k a (List.mem_append_right _ ha))
def asItems (s : Sh) : List Va → Option (List D)
  | [] => some []
  | x :: xs => (asItem s x).bind fun d => (asItems s xs).map (d :: ·)
theorem asItems_len {s : Sh} : ∀ {xs : List Va} {ds : List D}, asItems s xs = some ds → ds.length = xs.length
  | [], _, e => by cases e; rfl
  | x :: xs, _, e => by
    unfold asItems at e
    cases h : asItem s x with
    | none => rw [h] at e; cases e
    | some d =>
      rw [h] at e
      cases h2 : asItems s xs with
      | none => rw [h2] at e; cases e
      | some ds => rw [h2] at e; cases e; rw [List.length_cons, List.length_cons, asItems_len h2]
theorem asItems_own {s : Sh} : ∀ {vs : List V} {xs : List Va} {ds : List D} {A : List Addr}, vs.length = xs.length → asItems s xs = some ds → Foot K Hf H (vs.zip xs) A → OwnL (Own K Hf H s) vs ds A
  | [], [], _, _, _, e, f => by cases e; cases f; exact .nil
  | [], _ :: _, _, _, l, _, _ => nomatch l
  | _ :: _, [], _, _, l, _, _ => nomatch l
  | v :: vs, x :: xs, _, _, l, e, f => by
    unfold asItems at e
    cases h : asItem s x with
    | none => rw [h] at e; cases e
    | some d =>
      rw [h] at e
      cases h2 : asItems s xs with
      | none => rw [h2] at e; cases e
      | some ds =>
        rw [h2] at e
        cases e
        cases f with
        | cons o r => exact .cons (asItem_own h o) (asItems_own (Nat.succ.inj l) h2 r)
def compsh : List Va → Sh
  | [] => .u
  | x :: xs => .c x.1 (compsh xs)
theorem comps_own : ∀ {vs : List V} {xs : List Va} {A : List Addr}, vs.length = xs.length → Foot K Hf H (vs.zip xs) A → OwnC K Hf H (compsh xs) vs (xs.map (·.2)) A
  | [], [], _, _, f => by cases f; exact ⟨rfl, .nil⟩
  | [], _ :: _, _, l, _ => nomatch l
  | _ :: _, [], _, l, _ => nomatch l
  | v :: vs, x :: xs, _, l, .cons o r => ⟨v, vs, x.2, _, _, _, rfl, rfl, o, comps_own (Nat.succ.inj l) r, rfl⟩
end
def RVs (g : GW) (σ : St) (fr : List (V × Va)) : Hp → Hp → List Va → Ev → List V → Prop := fun Hf H xs Γ vs => vs.length = xs.length ∧ StOk g.h Hf H σ Γ ((vs.zip xs).reverse ++ fr)
def tVs (g : GW) (f : Ev → Out (List Va)) : TA := fun σ H Q => ∃ Hf Γ fr, StOk g.h Hf H σ Γ fr ∧ Post g σ fr (RVs g σ fr) Hf Q (f Γ)
structure PVs (X : Cx) (W : WX) (es : List Expr) (f : Ev → Out (List Va)) : Prop where
  run : ∀ f0 h0, PA X es (tVs (gh X W f0 h0) f)
def vsN : Ev → Out (List Va) := fun Γ => .ok [] Γ
def vsC (f : Ev → Out Va) (fs : Ev → Out (List Va)) : Ev → Out (List Va) := fun Γ => (f Γ).bind fun d Γ1 => (fs Γ1).bind fun ds Γ2 => .ok (d :: ds) Γ2
def vLstV (s : Sh) (fs : Ev → Out (List Va)) : Ev → Out Va := fun Γ => (fs Γ).bind fun xs Γ1 => match asItems s xs with | some ds => if ds.length ≤ 16777216 then .ok (.l s, .list ds) Γ1 else .st | none => .st
def vTupV (fs : Ev → Out (List Va)) : Ev → Out Va := fun Γ => (fs Γ).bind fun xs Γ1 => if xs.length ≤ 16777216 then .ok (.t (compsh xs), .tuple (xs.map (·.2))) Γ1 else .st
theorem NewV.lst0 {K : PySem.W.Frag} {Hf H : Hp} {p : Addr} {s : Sh} (sm : Same Hf H) (n : H p = none) : NewV K Hf H (upd H p (.lst [])) Hf (.ref p) (.l s, .list []) :=
  ⟨same_new n, Same.refl _, sm.trans (same_new n), fun _ n => .inl n, [p], ⟨p, [], [], [], rfl, rfl, upd_same, .nil, rfl⟩, by simp, fun a ha => by rw [List.mem_singleton.mp ha]; exact ⟨n, Same.free sm n⟩⟩
section
variable {X : Cx} {W : WX} {e : Expr} {es : List Expr} {pos : Pos}
theorem pvs_n : PVs X W [] vsN := ⟨fun f0 h0 => pa_nil.imp fun σ H Q ⟨Hf, Γ, fr, st, p⟩ => p [] H Hf (Same.refl _) ⟨rfl, st⟩⟩
theorem pvs_c {f : Ev → Out Va} {fs : Ev → Out (List Va)} (h : PV X W e f) (hs : PVs X W es fs) (hst : starEach (e :: es) X.env = (false, eval e X.env) :: starEach es X.env := by rfl) : PVs X W (e :: es) (vsC f fs) :=
  ⟨fun f0 h0 => (pa_cons (h.run f0 h0) (hs.run f0 h0) hst).imp fun σ H Q ⟨Hf, Γ, fr, st, p⟩ => ⟨Hf, Γ, fr, st, Post.bind p fun x Γ1 _ v H1 Hf1 s1 st1 q => ⟨Hf1, Γ1, _, st1, by
    cases hf : fs Γ1 with
    | st => rw [hf] at q; exact q.elim
    | ex ee Γ2 => rw [hf] at q; exact PEx.push (show PEx _ Hf1 σ fr ee Γ2 from q)
    | ok xs Γ2 =>
      rw [hf] at q
      intro vs H2 Hf2 s2 ⟨l2, st2⟩
      exact q (v :: vs) H2 Hf2 s2 ⟨by rw [List.length_cons, List.length_cons, l2], by rw [List.zip_cons_cons, List.reverse_cons, List.append_assoc]; exact st2⟩⟩⟩⟩
theorem StOk.mkL {g : Gh} {Hf H : Hp} {σ : St} {Γ : Ev} {fr : List (V × Va)} {p : Addr} {s : Sh} {vs : List V} {xs : List Va} {ds : List D} (st : StOk g Hf H σ Γ ((vs.zip xs).reverse ++ fr)) (l : vs.length = xs.length) (e : asItems s xs = some ds) (n : H p = none) :
    StOk g Hf (upd H p (.lst vs)) σ Γ ((.ref p, (.l s, .list ds)) :: fr) := by
  have st1 := st.pushN (NewV.lst0 (K := g.K) (s := s) st.sub n)
  refine StOk.repack (T := (.ref p, (.l s, .list [])) :: (vs.zip xs).reverse) (T' := [(.ref p, (.l s, .list ds))]) st1 fun A f nd => ?_
  cases f with
  | cons o r =>
    obtain ⟨a, vs0, ds0, B0, e1, e2, e3, r0, e4⟩ := o
    cases e1
    cases e2
    cases r0
    subst e4
    obtain ⟨A', f', pm⟩ := r.rev
    have np : p ∉ A' := fun z => (List.nodup_cons.mp nd).1 (pm.mem_iff.mp z)
    have up : ∀ c, c ≠ p → upd H p (.lst vs) c = upd H p (.lst []) c := fun c hc => by rw [upd_ne hc, upd_ne hc]
    have f2 := f'.keep (H' := upd H p (.lst vs)) fun c hc => up c fun z => np (z ▸ hc)
    refine ⟨p :: A', foot1 ⟨p, vs, ds, A', rfl, rfl, upd_same, asItems_own l e f2, rfl⟩, List.nodup_cons.mpr ⟨np, pm.nodup_iff.mpr (List.nodup_cons.mp nd).2⟩, fun a ha => ?_, fun a ha => up a fun z => ha (by rw [z]; exact List.mem_cons_self), fun a ha => ?_⟩
    · rcases List.mem_cons.mp ha with z | z
      · rw [z]; exact List.mem_cons_self
      · exact List.mem_cons_of_mem _ (pm.mem_iff.mp z)
    · rcases List.mem_cons.mp ha with z | z
      · rw [z, upd_same]; exact fun z => nomatch z
      · rw [up a fun y => (List.nodup_cons.mp nd).1 (y ▸ z)]; exact r.there a z
theorem pv_lstV {fs : Ev → Out (List Va)} (s : Sh) (h : PVs X W es fs) : PV X W (.List es pos) (vLstV s fs) :=
  ⟨fun f0 h0 => (pe_lst (h.run f0 h0)).imp fun σ H Q ⟨Hf, Γ, fr, st, p⟩ => ⟨Hf, Γ, fr, st, Post.bind p fun xs Γ1 _ vs H1 Hf1 s1 ⟨l1, st1⟩ q => by
    split at q
    · rename_i ds e
      split at q
      · rename_i hl
        refine ⟨by rw [l1, ← asItems_len e, sizeLine_eq]; exact hl, fun p n => ?_⟩
        exact q _ _ Hf1 (Same.refl _) (st1.mkL l1 e n)
      · exact q.elim
    · exact q.elim⟩⟩
theorem StOk.mkT {g : Gh} {Hf H : Hp} {σ : St} {Γ : Ev} {fr : List (V × Va)} {p : Addr} {vs : List V} {xs : List Va} (st : StOk g Hf H σ Γ ((vs.zip xs).reverse ++ fr)) (l : vs.length = xs.length) (n : H p = none) :
    ∃ Hf', Same Hf Hf' ∧ StOk g Hf' (upd H p (.tup vs)) σ Γ ((.ref p, (.t (compsh xs), .tuple (xs.map (·.2)))) :: fr) := by
  have nf : Hf p = none := Same.free st.sub n
  have st1 := st.freeze (Hf' := upd Hf p (.tup vs)) (H' := upd H p (.tup vs)) (same_new n) (same_new nf) (fun b o e => by
    by_cases z : b = p
    · subst z; rw [upd_same] at e ⊢; exact e
    · rw [upd_ne z] at e ⊢; exact st.sub b o e) (fun b e => by
    by_cases z : b = p
    · subst z; exact .inr n
    · rw [upd_ne z] at e; exact .inl e)
  refine ⟨_, same_new nf, StOk.repack0 (T := (vs.zip xs).reverse) (T' := [(.ref p, (.t (compsh xs), .tuple (xs.map (·.2))))]) st1 fun A f nd => ?_⟩
  obtain ⟨A', f', pm⟩ := f.rev
  exact ⟨A', foot1 ⟨p, vs, _, rfl, rfl, upd_same, comps_own l f'⟩, pm.nodup_iff.mpr nd, fun a ha => pm.mem_iff.mp ha⟩
theorem pv_tupV {fs : Ev → Out (List Va)} {k} (h : PVs X W es fs) : PV X W (.Tuple es k pos) (vTupV fs) :=
  ⟨fun f0 h0 => (pe_tup (h.run f0 h0)).imp fun σ H Q ⟨Hf, Γ, fr, st, p⟩ => ⟨Hf, Γ, fr, st, Post.bind p fun xs Γ1 _ vs H1 Hf1 s1 ⟨l1, st1⟩ q => by
    split at q
    · rename_i hl
      refine ⟨by rw [l1, sizeLine_eq]; exact hl, fun p n => ?_⟩
      obtain ⟨Hf2, s2, st2⟩ := st1.mkT l1 n
      exact q _ _ Hf2 s2 st2
    · exact q.elim⟩⟩
end
/-! ### [.. for ..], the items handed on -/
def compLV (s : Sh) (is : List Nat) (t : D → Ev → Option Ev) (c : Ev → Out Bool) (fe : Ev → Out Va) : List D → Ev → Option (List D × Ev)
  | [], Γ => some ([], Γ)
  | d :: ds, Γ => match t d Γ with
    | none => none
    | some Γ1 => match c Γ1 with
      | .ok true Γ2 => (match fe Γ2 with
        | .ok x Γ3 => (match asItem s x with
          | some e => (compLV s is t c fe ds (wipeG Γ3 is)).map fun p => (e :: p.1, p.2)
          | none => none)
        | _ => none)
      | .ok false Γ2 => compLV s is t c fe ds (wipeG Γ2 is)
      | _ => none
def vCompG (s : Sh) (is : List Nat) (f : Ev → Out (List D)) (t : D → Ev → Option Ev) (c : Ev → Out Bool) (fe : Ev → Out Va) : Ev → Out Va := fun Γ => (f Γ).bind fun ds Γ1 => if ds.length ≤ 16777216 then
    (match compLV s is t c fe ds (wipeG Γ1 is) with | some (es, Γ2) => .ok (.l s, .list es) (restG Γ1 Γ2 is) | none => .st) else .st
theorem compG_core {g : GW} {s : Sh} {is : List Nat} {f : Ev → Out (List D)} {t : D → Ev → Option Ev} {c : Ev → Out Bool} {fe : Ev → Out Va} {σ : St} {H : Hp} {Q : VK} (h : tV g (vCompG s is f t c fe) σ H Q) :
    tLc (tI g f) (tG g is t) (tT ⟨g.h, g.mg, W0⟩ c) (tV ⟨g.h, g.mg, W0⟩ fe) is σ H Q := by
  obtain ⟨Hf, Γ, fr, st, p⟩ := h
  refine ⟨Hf, Γ, fr, st, Post.bind p fun ds Γ1 _ J H1 Hf1 s1 ⟨st1, it⟩ q => ?_⟩
  split at q
  · rename_i lenOk
    cases hc : compLV s is t c fe ds (wipeG Γ1 is) with
    | none => rw [hc] at q; exact q.elim
    | some r =>
      obtain ⟨es, Γ2⟩ := r
      rw [hc] at q
      intro a na
      have stD : StOk g.h Hf1 (upd H1 a (.lst [])) (wipe σ is) (wipeG Γ1 is) ((.ref a, (.l s, .list [])) :: fr) := ((st1.pushN (NewV.lst0 st1.sub na)).wipe is)
      refine ⟨fun i m H => m = ds.length - i ∧ i ≤ ds.length ∧ ∃ Hf2 Γ3 acc es', Same Hf1 Hf2 ∧ acc.length ≤ i ∧ StOk g.h Hf2 H (wipe σ is) Γ3 ((.ref a, (.l s, .list acc)) :: fr) ∧ (∀ j ∈ is, ∀ x, Γ3[j]? ≠ some (some x)) ∧
        compLV s is t c fe (ds.drop i) Γ3 = some (es', Γ2) ∧ acc ++ es' = es, ⟨_, rfl, Nat.zero_le _, Hf1, _, [], es, Same.refl _, Nat.le_refl _, stD, wipeG_none, hc, rfl⟩, ?_⟩
      rintro i m H2 ⟨rfl, hi, Hf2, Γ3, acc, es', s2, la, st2, hn, hcl, rfl⟩
      obtain ⟨g1, g2⟩ := it i Hf2 H2 s2 st2.sub
      cases h : ds[i]? with
      | none =>
        rw [List.drop_eq_nil_of_le (List.getElem?_eq_none_iff.mp h)] at hcl
        have hcl' : ([], Γ3) = (es', Γ2) := Option.some.inj hcl
        cases hcl'
        rw [List.append_nil] at q
        exact .inl ⟨g2 h, q _ H2 Hf2 s2 (StOk.rest st1 s2 st2 hn is)⟩
      | some d =>
        obtain ⟨go, yl⟩ := g1 d h
        have hlt := (List.getElem?_eq_some_iff.mp h).1
        have ed : ds.drop i = d :: ds.drop (i + 1) := by
          rw [List.drop_eq_getElem_cons hlt]
          rw [List.getElem?_eq_getElem hlt] at h
          rw [Option.some.inj h]
        rw [ed] at hcl
        refine .inr ⟨go, fun H' => (i + 1 ≤ ds.length ∧ ∃ Hf2 Γ3 acc' es'', Same Hf1 Hf2 ∧ acc'.length ≤ i + 1 ∧ StOk g.h Hf2 H' (wipe σ is) Γ3 ((.ref a, (.l s, .list acc')) :: fr) ∧ (∀ j ∈ is, ∀ x, Γ3[j]? ≠ some (some x)) ∧
          compLV s is t c fe (ds.drop (i + 1)) Γ3 = some (es'', Γ2) ∧ acc' ++ es'' = acc ++ es'), fun H' n => ⟨ds.length - (i + 1), by omega, rfl, n⟩, fun x H' y => ?_⟩
        obtain ⟨Hf3, a1, a2, a3, a4, z⟩ := yl x H' y
        have st3 := st2.freeze a1 a2 a3 a4
        unfold compLV at hcl
        cases ht : t d Γ3 with
        | none => rw [ht] at hcl; cases hcl
        | some Γ4 =>
          rw [ht] at hcl
          dsimp only at hcl
          refine ⟨Hf3, Γ3, _, d, st3, z, Γ4, ht, fun σ5 H5 Hf5 s5 st5 w5 => ?_⟩
          have w5' : wipe σ5 is = wipe σ is := by rw [w5]; exact wipe_twice is fun j hj => hj
          refine ⟨w5', Hf5, Γ4, _, st5, ?_⟩
          have sA : Same Hf1 Hf5 := (s2.trans a2).trans s5
          cases hcc : c Γ4 with
          | ex e Γ5 => rw [hcc] at hcl; cases hcl
          | st => rw [hcc] at hcl; cases hcl
          | ok k Γ5 =>
            rw [hcc] at hcl
            intro k' H6 Hf6 s6 ⟨st6, ek⟩
            subst ek
            cases k' with
            | false =>
              dsimp only at hcl
              rw [if_neg Bool.false_ne_true]
              exact ⟨hlt, Hf6, _, acc, es', sA.trans s6, by omega, st6.back w5', wipeG_none, hcl, rfl⟩
            | true =>
              dsimp only at hcl
              rw [if_pos rfl]
              refine ⟨Hf6, Γ5, _, st6, ?_⟩
              cases he : fe Γ5 with
              | ex e Γ6 => rw [he] at hcl; cases hcl
              | st => rw [he] at hcl; cases hcl
              | ok e Γ6 =>
                rw [he] at hcl
                dsimp only at hcl
                intro v H7 Hf7 s7 st7
                cases hi : asItem s e with
                | none => rw [hi] at hcl; cases hcl
                | some d1 =>
                  rw [hi] at hcl
                  dsimp only at hcl
                  cases hr : compLV s is t c fe (ds.drop (i + 1)) (wipeG Γ6 is) with
                  | none => rw [hr] at hcl; cases hcl
                  | some r =>
                    obtain ⟨es2, Γ7⟩ := r
                    rw [hr] at hcl
                    cases hcl
                    obtain ⟨vs, e8, l8, st8⟩ := st7.appTop hi
                    refine ⟨vs, e8, ?_, hlt, Hf7, _, acc ++ [d1], es2, (sA.trans s6).trans s7, ?_, st8.back w5', wipeG_none, hr, ?_⟩
                    · rw [l8, sizeLine_eq]; omega
                    · rw [List.length_append, List.length_singleton]; omega
                    · rw [List.append_assoc]; rfl
  · exact q.elim
section
variable {X : Cx} {W : WX}
theorem pv_lcG (s : Sh) {elt tg iter : Expr} {ifs : List Expr} {scope : Scope} {own : List (Str × Nat)} {pos : Pos} {f : Ev → Out (List D)} {t : D → Ev → Option Ev} {c : Ev → Out Bool} {fe : Ev → Out Va} (hc : X.calm = true) (hN : X.N.Nodup) (ok : BlkOk X.N X.env.scope scope own) (hi : PIt X W tg iter f)
    (hg : ∀ (s : Shared) (H : L2.Hp) (C : Addr) (cl : List (Str × Addr)) (fp : List Addr), PGt (X.blk s H scope (compEnvC scope cl C X.env) fp) tg (own.map (·.2)) t)
    (ht : ∀ (s : Shared) (H : L2.Hp) (C : Addr) (cl : List (Str × Addr)) (fp : List Addr), PBs (X.blk s H scope (compEnvC scope cl C X.env) fp) W0 ifs c)
    (he : ∀ (s : Shared) (H : L2.Hp) (C : Addr) (cl : List (Str × Addr)) (fp : List Addr), PV (X.blk s H scope (compEnvC scope cl C X.env) fp) W0 elt fe) (hs : ∀ x, foldedSetIterable iter X.env x = pure x := by intro _; rfl) :
    PV X W (.ListComp elt [⟨tg, iter, ifs, 0⟩] scope pos) (vCompG s (own.map (·.2)) f t c fe) :=
  ⟨fun f0 h0 => (pe_lc hc hN (hi.run f0 h0) ok (fun s H C cl fp => (hg s H C cl fp).run (gh X W f0 h0) rfl) (fun s H C cl fp => (ht s H C cl fp).run f0 h0) (fun s H C cl fp => (he s H C cl fp).run f0 h0) hs).imp fun σ H Q h => compG_core (g := gh X W f0 h0) h⟩
theorem ps_lcG (s : Sh) (i : Nat) {y : Str} {py : Pos} {elt tg iter : Expr} {ifs : List Expr} {scope : Scope} {own : List (Str × Nat)} {pos spos : Pos} {f : Ev → Out (List D)} {t : D → Ev → Option Ev} {c : Ev → Out Bool} {fe : Ev → Out Va} (hc : X.calm = true) (hN : X.N.Nodup) (ok : BlkOk X.N X.env.scope scope own)
    (hy : X.N[i]? = some y) (hyl : X.env.scope.names.lookup y = some .local) (hsw : swapsWith (.ListComp elt [⟨tg, iter, ifs, 0⟩] scope pos) (some (.Name y py)) spos.line X.env = pure true) (hi : PIt X W tg iter f)
    (hg : ∀ (s : Shared) (H : L2.Hp) (C : Addr) (cl : List (Str × Addr)) (fp : List Addr), PGt (X.blk s H scope (compEnvC scope cl C X.env) fp) tg (own.map (·.2)) t)
    (ht : ∀ (s : Shared) (H : L2.Hp) (C : Addr) (cl : List (Str × Addr)) (fp : List Addr), PBs (X.blk s H scope (compEnvC scope cl C X.env) fp) W0 ifs c)
    (he : ∀ (s : Shared) (H : L2.Hp) (C : Addr) (cl : List (Str × Addr)) (fp : List Addr), PV (X.blk s H scope (compEnvC scope cl C X.env) fp) W0 elt fe) (hs : ∀ x, foldedSetIterable iter X.env x = pure x := by intro _; rfl) :
    PSt X W (.Assign [.Name y py] (.ListComp elt [⟨tg, iter, ifs, 0⟩] scope pos) spos) (sAsg i (vCompG s (own.map (·.2)) f t c fe)) :=
  ⟨fun f0 h0 => (ps_setLc hc hN hy hyl hsw (hi.run f0 h0) ok (fun s H C cl fp => (hg s H C cl fp).run (gh X W f0 h0) rfl) (fun s H C cl fp => (ht s H C cl fp).run f0 h0) (fun s H C cl fp => (he s H C cl fp).run f0 h0) hs).imp fun D σ H ⟨Hf, Γ, fr, st, p⟩ =>
    compG_core (g := gh X W f0 h0) ⟨Hf, Γ, fr, st, PostS.bind p fun x Γ1 _ v H1 Hf1 s1 st1 q => q _ H1 Hf1 (Same.refl _) (st1.store i)⟩⟩
end
/-! ### a slot's thing is frozen in part -/
def weakB : Sh → Sh → Bool
  | _, .z => true
  | .l s, .l s' => s = s' || s' = .z
  | .d s, .d s' => s = s' || s' = .z
  | .e s, .e s' => s = s' || s' = .z
  | s, s' => s = s'
theorem StOk.frzTop {g : Gh} {Hf H : Hp} {σ : St} {Γ : Ev} {fr : List (V × Va)} {v : V} {x x' : Va} (h : StOk g Hf H σ Γ ((v, x) :: fr))
    (k : ∀ A, Own g.K Hf H x.1 v x.2 A → A.Nodup → ∃ A', A'.Nodup ∧ (∀ a ∈ A', a ∈ A) ∧ ∀ Hf', Same Hf Hf' → (∀ a ∈ A, a ∉ A' → Hf' a = H a) → Own g.K Hf' H x'.1 v x'.2 A') : ∃ Hf', Same Hf Hf' ∧ StOk g Hf' H σ Γ ((v, x') :: fr) := by
  obtain ⟨ω, h⟩ := h
  obtain ⟨⟨A, o, nd, hA⟩, hr⟩ := h.fr
  obtain ⟨A', nd', sub, f⟩ := k A o nd
  classical
  have hf : Same Hf fun a => if a ∈ A ∧ a ∉ A' then H a else Hf a := fun a o e => by
    by_cases z : a ∈ A ∧ a ∉ A'
    · rw [(h.own a _ (hA a z.1)).2.1] at e; cases e
    · simp only [if_neg z]; exact e
  have w : ∀ a i, (if a ∈ A ∧ a ∉ A' then none else ω a) = some i → ¬ (a ∈ A ∧ a ∉ A') ∧ ω a = some i := fun a i e => by
    by_cases z : a ∈ A ∧ a ∉ A'
    · rw [if_pos z] at e; cases e
    · rw [if_neg z] at e; exact ⟨z, e⟩
  refine ⟨_, hf, fun a => if a ∈ A ∧ a ∉ A' then none else ω a, h.base, fun a o e => ?_, fun a o e => hf a o (h.old a o e), fun a n => ?_, fun a i e => ?_, h.len, fun i x e => ?_, ⟨⟨A', f _ hf fun a h1 h2 => if_pos ⟨h1, h2⟩, nd', fun a ha => ?_⟩, hr.mono hf fun a j hj e => ⟨rfl, ?_⟩⟩⟩
  · by_cases z : a ∈ A ∧ a ∉ A'
    · simp only [if_pos z] at e; exact e
    · simp only [if_neg z] at e; exact h.sub a o e
  · by_cases z : a ∈ A ∧ a ∉ A'
    · exact .inr (h.own a _ (hA a z.1)).1
    · simp only [if_neg z] at n; exact h.new a n
  · obtain ⟨z, e⟩ := w a i e
    exact ⟨(h.own a i e).1, by simp only [if_neg z]; exact (h.own a i e).2.1, (h.own a i e).2.2⟩
  · obtain ⟨v, e1, q⟩ := h.slots i x e
    refine ⟨v, e1, q.mono hf fun a e => ⟨rfl, ?_⟩⟩
    have z : ¬ (a ∈ A ∧ a ∉ A') := fun z => by rw [hA a z.1] at e; cases e
    simp only [if_neg z]; exact e
  · have z : ¬ (a ∈ A ∧ a ∉ A') := fun z => z.2 ha
    simp only [if_neg z]; exact hA a (sub a ha)
  · have z : ¬ (a ∈ A ∧ a ∉ A') := fun z => by rw [hA a z.1] at e; cases e; exact absurd hj (Nat.lt_irrefl _)
    simp only [if_neg z]; exact e
theorem ownL_fz {K : PySem.W.Frag} {Hf Hf' H : Hp} {s : Sh} (sf : Same Hf Hf') {vs : List V} {ds : List D} {A : List Addr} (h : OwnL (Own K Hf H s) vs ds A) (k : ∀ a ∈ A, Hf' a = H a) : FzAll K Hf' vs ds := OwnL.fz sf (fun h q => Own.fz sf h q) h k
theorem weak_own {K : PySem.W.Frag} {Hf H : Hp} {s s' : Sh} {v : V} {d : D} {A : List Addr} (e : weakB s s' = true) (o : Own K Hf H s v d A) (nd : A.Nodup) : ∃ A', A'.Nodup ∧ (∀ a ∈ A', a ∈ A) ∧ ∀ Hf', Same Hf Hf' → (∀ a ∈ A, a ∉ A' → Hf' a = H a) → Own K Hf' H s' v d A' := by
  have same : s = s' → ∃ A', A'.Nodup ∧ (∀ a ∈ A', a ∈ A) ∧ ∀ Hf', Same Hf Hf' → (∀ a ∈ A, a ∉ A' → Hf' a = H a) → Own K Hf' H s' v d A' := fun q => by
    subst q
    exact ⟨A, nd, fun _ h => h, fun Hf' sf _ => o.keep sf fun _ _ => rfl⟩
  unfold weakB at e
  split at e
  · exact ⟨[], List.nodup_nil, fun _ z => (by cases z), fun Hf' sf k => ⟨rfl, o.fz sf fun a ha => k a ha fun z => (by cases z)⟩⟩
  · rename_i s s'
    rw [Bool.or_eq_true, decide_eq_true_eq, decide_eq_true_eq] at e
    rcases e with e | e
    · exact same (congrArg _ e)
    · subst e
      obtain ⟨a, vs, ds, B, e1, e2, e3, r, e4⟩ := o
      subst e4
      refine ⟨[a], by simp, fun c hc => (by rw [List.mem_singleton.mp hc]; exact List.mem_cons_self), fun Hf' sf k => ⟨a, vs, ds, [], e1, e2, e3, OwnL.of_zs (ownL_fz sf r fun c hc => k c (List.mem_cons_of_mem _ hc) fun z => ?_), rfl⟩⟩
      rw [List.mem_singleton.mp z] at hc
      exact (List.nodup_cons.mp nd).1 hc
  · rename_i s s'
    rw [Bool.or_eq_true, decide_eq_true_eq, decide_eq_true_eq] at e
    rcases e with e | e
    · exact same (congrArg _ e)
    · subst e
      obtain ⟨a, vs, ds, B, e1, e2, e3, r, e4⟩ := o
      subst e4
      refine ⟨[a], by simp, fun c hc => (by rw [List.mem_singleton.mp hc]; exact List.mem_cons_self), fun Hf' sf k => ⟨a, vs, ds, [], e1, e2, e3, OwnL.of_zs (ownL_fz sf r fun c hc => k c (List.mem_cons_of_mem _ hc) fun z => ?_), rfl⟩⟩
      rw [List.mem_singleton.mp z] at hc
      exact (List.nodup_cons.mp nd).1 hc
  · rename_i s s'
    rw [Bool.or_eq_true, decide_eq_true_eq, decide_eq_true_eq] at e
    rcases e with e | e
    · exact same (congrArg _ e)
    · subst e
      obtain ⟨a, vs, ds, B, e1, e2, e3, r, e4⟩ := o
      subst e4
      refine ⟨[a], by simp, fun c hc => (by rw [List.mem_singleton.mp hc]; exact List.mem_cons_self), fun Hf' sf k => ⟨a, vs, ds, [], e1, e2, e3, OwnL.of_zs (ownL_fz sf r fun c hc => k c (List.mem_cons_of_mem _ hc) fun z => ?_), rfl⟩⟩
      rw [List.mem_singleton.mp z] at hc
      exact (List.nodup_cons.mp nd).1 hc
  · exact same (of_decide_eq_true e)
theorem StOk.weakSlot {g : Gh} {Hf H : Hp} {σ : St} {Γ : Ev} {fr : List (V × Va)} {i : Nat} {x : Va} {s' : Sh} (h : StOk g Hf H σ Γ fr) (hi : Γ[i]? = some (some x)) (e : weakB x.1 s' = true) : ∃ Hf', Same Hf Hf' ∧ StOk g Hf' H σ (Γ.set i (some (s', x.2))) fr := by
  obtain ⟨v, e1, st⟩ := h.take hi
  obtain ⟨Hf', sf, st2⟩ := st.frzTop (x' := (s', x.2)) fun A o nd => weak_own e o nd
  have st3 := st2.putBack e1
  rw [List.set_set] at st3
  exact ⟨Hf', sf, st3⟩
def wkG (i : Nat) (s' : Sh) (Γ : Ev) : Option Ev := match Γ[i]? with
  | some (some x) => if weakB x.1 s' = true then some (Γ.set i (some (s', x.2))) else none
  | _ => some Γ
theorem StOk.wkG {g : Gh} {Hf H : Hp} {σ : St} {Γ Γ' : Ev} {fr : List (V × Va)} {i : Nat} {s' : Sh} (h : StOk g Hf H σ Γ fr) (e : wkG i s' Γ = some Γ') : ∃ Hf', Same Hf Hf' ∧ StOk g Hf' H σ Γ' fr := by
  unfold PV.wkG at e
  split at e
  · rename_i hx
    split at e
    · rename_i hw; cases e; exact h.weakSlot hx hw
    · cases e
  · cases e; exact ⟨Hf, Same.refl _, h⟩
/-- behind a statement; ahead of a block -/
def sWk (i : Nat) (s' : Sh) (a : Ev → SO) : Ev → SO := fun Γ => match a Γ with
  | .nx Γ1 => (match wkG i s' Γ1 with | some Γ2 => .nx Γ2 | none => .st)
  | r => r
def sWk0 (i : Nat) (s' : Sh) (a : Ev → SO) : Ev → SO := fun Γ => match wkG i s' Γ with | some Γ2 => a Γ2 | none => .st
theorem ps_wk {X : Cx} {W : WX} (i : Nat) (s' : Sh) {st : Stmt} {a : Ev → SO} (h : PSt X W st a) : PSt X W st (sWk i s' a) := ⟨fun f0 h0 => (h.run f0 h0).imp fun D σ H ⟨Hf, Γ, fr, st, q⟩ => by
  refine ⟨Hf, Γ, fr, st, ?_⟩
  unfold sWk at q
  cases ha : a Γ with
  | nx Γ1 =>
    rw [ha] at q
    dsimp only at q
    intro σ' H' Hf' s' st'
    split at q
    · rename_i e
      obtain ⟨Hf2, s2, st2⟩ := st'.wkG e
      exact q σ' H' Hf2 (s'.trans s2) st2
    · exact q.elim
  | rt x Γ1 => rw [ha] at q; exact q
  | bk Γ1 => rw [ha] at q; exact q
  | ct Γ1 => rw [ha] at q; exact q
  | ex e Γ1 => rw [ha] at q; exact q
  | st => rw [ha] at q; exact q⟩
theorem pss_wk0 {X : Cx} {W : WX} (i : Nat) (s' : Sh) {st : List Stmt} {a : Ev → SO} (h : PSts X W st a) : PSts X W st (sWk0 i s' a) := ⟨fun f0 h0 => (h.run f0 h0).imp fun D σ H ⟨Hf, Γ, fr, st, q⟩ => by
  unfold sWk0 at q
  split at q
  · rename_i e
    obtain ⟨Hf2, s2, st2⟩ := st.wkG e
    exact ⟨Hf2, _, fr, st2, q.mono s2⟩
  · exact q.elim⟩
theorem ps_wk0 {X : Cx} {W : WX} (i : Nat) (s' : Sh) {st : Stmt} {a : Ev → SO} (h : PSt X W st a) : PSt X W st (sWk0 i s' a) := ⟨fun f0 h0 => (h.run f0 h0).imp fun D σ H ⟨Hf, Γ, fr, st, q⟩ => by
  unfold sWk0 at q
  split at q
  · rename_i e
    obtain ⟨Hf2, s2, st2⟩ := st.wkG e
    exact ⟨Hf2, _, fr, st2, q.mono s2⟩
  · exact q.elim⟩
end PV
namespace PV
open PySem PySem.Spec PyProof.Rows L2
/-! ### a value's shape is changed -/
def vAs (s : Sh) (f : Ev → Out Va) : Ev → Out Va := fun Γ => (f Γ).bind fun x Γ1 => .of ((asItem s x).map fun d => (s, d)) Γ1
def vWk (s : Sh) (f : Ev → Out Va) : Ev → Out Va := fun Γ => (f Γ).bind fun x Γ1 => .of (if weakB x.1 s = true then some (s, x.2) else none) Γ1
section
variable {X : Cx} {W : WX} {e : Expr}
theorem pv_as (s : Sh) {f : Ev → Out Va} (h : PV X W e f) : PV X W e (vAs s f) := ⟨fun f0 h0 => (h.run f0 h0).imp fun σ H Q ⟨Hf, Γ, fr, st, p⟩ => ⟨Hf, Γ, fr, st, Post.bind p fun x Γ1 _ v H1 Hf1 s1 st1 q => by
  obtain ⟨y, e, q⟩ := Post.of q
  cases hi : asItem s x with
  | none => rw [hi] at e; cases e
  | some d =>
    rw [hi] at e
    cases e
    refine q v H1 Hf1 (Same.refl _) (StOk.repack0 (T := [(v, x)]) (T' := [(v, (s, d))]) st1 fun A f nd => ⟨A, foot1 (asItem_own hi (foot1_of f)), nd, fun _ h => h⟩)⟩⟩
theorem pv_wk (s : Sh) {f : Ev → Out Va} (h : PV X W e f) : PV X W e (vWk s f) := ⟨fun f0 h0 => (h.run f0 h0).imp fun σ H Q ⟨Hf, Γ, fr, st, p⟩ => ⟨Hf, Γ, fr, st, Post.bind p fun x Γ1 _ v H1 Hf1 s1 st1 q => by
  obtain ⟨y, e, q⟩ := Post.of q
  split at e
  · rename_i hw
    cases e
    obtain ⟨Hf2, s2, st2⟩ := st1.frzTop (x' := (s, x.2)) fun A o nd => weak_own hw o nd
    exact q v H1 Hf2 s2 st2
  · cases e⟩⟩
end
end PV
/-! ### enumerate(t), t a tuple -/
namespace PV
open PySem PySem.Spec PyProof.Rows L2 Builtin RZ
theorem drawsT {pg : Program} {w : World} {A : Around} (hh : A.handled = none) (j t : Addr) (ne : t ≠ j) (us : Array Value) :
    Draws pg w A j [j, t] us.size (fun k u => us[k]? = some u) (fun k h => h.IsTupleIter j t k ∧ h.IsTuple t us) where
  live := fun _ _ z => let ⟨o, q, _⟩ := z.1; ⟨o, q⟩
  frame := fun _ _ _ z k => ⟨z.1.at fun o q => k j (by simp) o q, z.2.at fun o q => k t (by simp) o q⟩
  item := fun k s Q E lt z q => RZ.nextOf_tuple_item z.1 z.2 (x := us[k]) (by simp [lt]) fun h1 z1 sb => q _ h1 s.toks (by simp [lt]) ⟨z1, z.2.extBut sb.extBut ne⟩ sb
  done := fun s Q E z q => RZ.nextOf_tuple_end hh z.1 z.2 (by simp) q
def enH1 (hp : Heap) (t : Addr) : Heap := hp.push { cls := .type "tuple_iterator", data := .fields #[.ref t, .int 0 0] }
def enH2 (hp : Heap) (t : Addr) : Heap := (enH1 hp t).push { cls := .type "enumerate", data := .fields #[.none, .bool false, .ref hp.objs.size, rawInt 0, .none, .none] }
theorem meets_enT (t : Addr) (us : Array Value) :
    Meets (Builtin.«enumerate.__new__» ⟨[.type "enumerate", .ref t], []⟩) (fun _ R s => s.heap.IsTuple t us ∧ R (.ok (.ret (.ref (enH1 s.heap t).objs.size))) { s with heap := enH2 s.heap t }) :=
  .of_wp fun pg w A R s h => by
    obtain ⟨hp, g, d, tk, os⟩ := s
    obtain ⟨ht, h⟩ := h
    have sb := sub_enumerate
    have ht2 : Heap.IsTuple (Shared.heap ⟨hp, g, d, tk, os⟩) t us := ht
    obtain ⟨o, go, oc, n, od⟩ := id ht
    wp_walk using AutoSeq1.wpAny_loadPart' go
    refine wpAny_stack_any fun st => wpAny_pure ?_
    split
    · rename_i c _ _ _ _ _
      cases (c == Value.type "enumerate") <;> (wp_walk using AutoSeq1.wpAny_loadPart' go, wpAny_pyIter_tuple ht2; exact ⟨_, rfl, h⟩)
    · wp_walk using AutoSeq1.wpAny_loadPart' go, wpAny_pyIter_tuple ht2
      exact ⟨_, rfl, h⟩
theorem call_enT {pg : Program} {w : World} {A : Around} {E : Value → Shared → Prop} {s : Shared} {t : Addr} {us : Array Value} {Q : Value → Shared → Prop} (ht : s.heap.IsTuple t us)
    (k : ∀ h1, IsEnum h1 (s.heap.objs.size + 1) s.heap.objs.size 0 .none → h1.IsTupleIter s.heap.objs.size t 0 → (∀ b o, s.heap.get? b = some o → h1.get? b = some o) → Q (.ref (s.heap.objs.size + 1)) { s with heap := h1 }) :
    wpAny (model pg w) A (call (.type "enumerate") [.ref t]) Q E s := by
  refine callType_new F.called_enumerate (by decide) (F.typeCall_enumerate_1 _) (F.newCall_enumerate_1 _) (fun u => F.args_object_init_2 u _) F.entry_enumerate_new (meets_enT t us) ⟨ht, ?_⟩
  have z1 : (enH1 s.heap t).objs.size = s.heap.objs.size + 1 := Heap.size_push ..
  have g1 : (enH2 s.heap t).get? (enH1 s.heap t).objs.size = some _ := Heap.get?_push_size _ rfl
  show _ ∧ _
  rw [z1] at g1 ⊢
  exact ⟨⟨_, g1, rfl⟩, k _ g1 ⟨_, Heap.get?_push_of_some _ (Heap.get?_push_size _ rfl), rfl, rfl⟩ fun b o q => Heap.get?_push_of_some _ (Heap.get?_push_of_some _ q)⟩
/-- the tuple at a, its items with their places -/
def IteT (K : PySem.W.Frag) (a : Addr) : It :=
  ⟨fun i H => ∃ (xs : List V) (x : V), SqT K H a xs ∧ xs[i]? = some x, fun i H v H1 => ∃ T x, v = .ref T ∧ H T = none ∧ H1 = upd H T (.tup [.int (i : Nat), x]) ∧ ∀ xs, SqT K H a xs → xs[i]? = some x, fun i H => ∃ xs : List V, SqT K H a xs ∧ xs.length ≤ i⟩
theorem turn_enT {P : Program} {w : World} {K : PySem.W.Frag} {es : List Expr} {kk : Nat} {tp : Pos} (a e j : Addr) :
    Turn P w K (.Tuple es kk tp) (IteT K a) [e, j] e (fun i h => (∃ old, IsEnum h e j ((i : Nat) : Int) old) ∧ h.IsTupleIter j a i ∧ e ≠ j ∧ a ≠ j ∧ a ≠ e) where
  mem := by simp
  obj := fun i h st b hb => by
    obtain ⟨⟨old, he⟩, ⟨o, ho, hc, hd⟩, _⟩ := st
    rcases (show b = e ∨ b = j by simpa using hb) with z | z
    · rw [z]; exact ⟨_, he, fun v q => nomatch q⟩
    · rw [z]; exact ⟨o, ho, fun v q => by rw [hd] at q; cases q⟩
  keep := fun i h h1 st k => let ⟨⟨old, he⟩, hi, hne⟩ := st; ⟨⟨old, k e (by simp) _ he⟩, hi.at fun o q => k j (by simp) o q, hne⟩
  item := by
    intro X hP hw hK hc i pins s σ H E I hf st hg
    subst hP hw hK
    obtain ⟨⟨old, he⟩, hit, hne, aj, ae⟩ := st
    obtain ⟨xs, x, hq, hx⟩ := hg
    obtain ⟨its, rv, p, hz⟩ := I.tuple hq
    obtain ⟨u, hu, ru⟩ := rv.get hx
    have hel : e < s.heap.objs.size := Heap.lt_size he
    have hil : j < s.heap.objs.size := by obtain ⟨_, q, _⟩ := hit; exact Heap.lt_size q
    have Dw : Draws X.prog X.w X.A.in1 j [j, a] its.toArray.size _ _ := drawsT (A := X.A.in1) (show X.A.in1.handled = none from I.ok.hd hc) j a aj its.toArray
    have hlt : i < its.toArray.size := by
      have := (List.getElem?_eq_some_iff.mp hu).1
      simpa using this
    refine wpAny_pyNext_enum_itemD Dw he (i := i) ⟨hit, show s.heap.IsTuple a its.toArray from p⟩ hlt hne (by simp [hne, Ne.symm ae]) fun u2 h1 tk hu2 ho hst hT hsz hk => ?_
    have eu : u2 = u := by
      have : its[i]? = some u2 := by simpa using hu2
      rw [hu] at this
      exact (Option.some.inj this).symm
    subst eu
    refine ⟨_, rfl, wpAny_letOwnedTupleGo_enum (s := { s with heap := h1, toks := tk + 1 }) ho fun h2 he2 sb => ?_⟩
    have hT2 : h2.get? s.heap.objs.size = some { cls := .type "tuple", data := .seq #[.int i tk, u2] } := (sb.2 _ (Nat.ne_of_gt hel)).trans hT
    have new : ObjOk X.prog X.w (upd H s.heap.objs.size (.tup [.int (i : Nat), x])) h2 s.heap.objs.size (.tup [.int (i : Nat), x]) :=
      ⟨(by decide : 2 ≤ sizeLine), [.int i tk, u2], .cons ⟨_, rfl⟩ (.cons ru .nil), ⟨_, hT2, rfl, _, rfl⟩⟩
    have I1 : Inv X pins σ (upd H s.heap.objs.size (.tup [.int (i : Nat), x])) { s with heap := h2, toks := tk + 1 } :=
      I.turnedNew (ch := [e, j]) (fun b ob hb q => (sb.2 b (fun z => hb (by simp [z]))).trans (hk b ob (fun z => hb (by simp [z])) (fun z => hb (by simp [z])) q)) hf (Nat.le_refl _) new
    refine ⟨.ref s.heap.objs.size, _, I1, rfl, ⟨_, x, rfl, I.hok.fresh (Nat.le_refl _), rfl, fun ys hy => by rw [I.tuple_inj hy hq]; exact hx⟩, ⟨⟨u2, ?_⟩, hst.1.at fun o q => (sb.2 j (Ne.symm hne)).trans q, hne, aj, ae⟩, fun b hb => ?_⟩
    · have e1 : ((i + 1 : Nat) : Int) = (i : Int) + 1 := by omega
      rw [e1]; exact he2
    · have lt : b < s.heap.objs.size := by
        rcases (show b = e ∨ b = j by simpa using hb) with z | z
        · rw [z]; exact hel
        · rw [z]; exact hil
      rw [upd_ne (Nat.ne_of_lt lt)]
      exact (hf b hb).1
  done := by
    intro X hP hw hK hc i pins s σ H E I hf st hg
    subst hP hw hK
    obtain ⟨⟨old, he⟩, hit, hne, aj, ae⟩ := st
    obtain ⟨xs, hq, hx⟩ := hg
    obtain ⟨its, rv, p, hz⟩ := I.tuple hq
    obtain ⟨f0, f1, f2, f3, f4, f5⟩ := hf j (by simp)
    have hl := rv.length
    have Dw : Draws X.prog X.w X.A.in1 j [j, a] 0 (fun _ _ => True) (fun _ h => h.IsTupleIter j a i ∧ h.IsTuple a its.toArray) :=
      { live := fun _ _ z => let ⟨o, q, _⟩ := z.1; ⟨o, q⟩
        frame := fun _ _ _ z k => ⟨z.1.at fun o q => k j (by simp) o q, z.2.at fun o q => k a (by simp) o q⟩
        item := fun k s Q E lt z q => absurd lt (Nat.not_lt_zero _)
        done := fun s Q E z q => RZ.nextOf_tuple_end (I.ok.hd hc) z.1 z.2 (by simp; omega) q }
    exact wpAny_pyNext_enum_endD Dw he ⟨hit, show s.heap.IsTuple a its.toArray from p⟩ fun h1 eb => ⟨rfl, I.turned (t' := s.toks) (fun b o hb q => eb b o hb q) f0 f1 f3 f4 f5⟩
  self := fun A i s Q E st h => let ⟨⟨_, he⟩, _⟩ := st; wpAny_pyIter_enum he h
def iEnumA (K : PySem.W.Frag) (ta : TA) : TI := fun σ H R => ta σ H fun vs H1 => ∃ a xs, vs = [.ref a] ∧ ((SqL K H1 a xs ∧ R (Ite K a) H1) ∨ (SqT K H1 a xs ∧ R (IteT K a) H1))
theorem pi_enumA {X : Cx} {e : Expr} {ta : TA} {p pos tpos : Pos} {elts : List Expr} {kk : Nat} (hg : Gl X "enumerate") (hm : X.mg "enumerate" = none) (ha : PA X [e] ta) (hs : starEach [e] X.env = [(false, eval e X.env)] := by rfl) :
    PI X (.Tuple elts kk tpos) (.Call (.Name "enumerate" p) [e] [] pos) (iEnumA X.K ta) := by
  refine ⟨fun pins s σ H R I h => ?_⟩
  refine Call_ (ld_blt I hg hm boot_enumerate (PyProof.Rows.callWith_type1 (thn (ha.run pos pins s σ H _ I h) fun us s1 ⟨vs, H1, I1, r1, q1⟩ => ?_) hs rfl))
  obtain ⟨a, xs, ex, q1⟩ := q1
  subst ex
  cases r1 with
  | cons r rr =>
    cases rr
    cases r
    have fresh : ∀ b, b ∈ [s1.heap.objs.size + 1, s1.heap.objs.size] → FpOk X pins H1 b := fun b hb => by
      have le : s1.heap.objs.size ≤ b := by
        rcases (show b = s1.heap.objs.size + 1 ∨ b = s1.heap.objs.size by simpa using hb) with z | z
        · rw [z]; exact Nat.le_add_right _ _
        · rw [z]; exact Nat.le_refl _
      exact I1.fpOk le (I1.hok.fresh le)
    rcases q1 with ⟨hq, q⟩ | ⟨hq, q⟩
    · obtain ⟨its, rv, pl, hz⟩ := I1.list hq
      refine call_enumerate_list pl.isList fun h1 he hit hsz hk => wpAny_pyIter_enum he ?_
      exact ⟨s1.heap.objs.size + 1, [s1.heap.objs.size + 1, s1.heap.objs.size], _, _, H1, rfl, I1.kept (t' := s1.toks) hk, turn_enum a (s1.heap.objs.size + 1) s1.heap.objs.size, ⟨⟨.none, he⟩, hit, Nat.succ_ne_self _⟩, fresh, q⟩
    · obtain ⟨its, rv, pt, hz⟩ := I1.tuple hq
      obtain ⟨o, go, _⟩ := id pt
      have la : a < s1.heap.objs.size := Heap.lt_size go
      refine call_enT (show s1.heap.IsTuple a its.toArray from pt) fun h1 he hit hk => wpAny_pyIter_enum he ?_
      exact ⟨s1.heap.objs.size + 1, [s1.heap.objs.size + 1, s1.heap.objs.size], _, _, H1, rfl, I1.kept (t' := s1.toks) hk, turn_enT a (s1.heap.objs.size + 1) s1.heap.objs.size, ⟨⟨.none, he⟩, hit, Nat.succ_ne_self _, Nat.ne_of_lt la, Nat.ne_of_lt (Nat.lt_succ_of_lt la)⟩, fresh, q⟩
/-! ### the data -/
theorem itok_enT {K : PySem.W.Frag} {Hf : Hp} {a : Addr} {vs : List V} {ds : List D} (h : SqT K Hf a vs) (f : FzAll K Hf vs ds) : ItOk K Hf (IteT K a) (enumL ds) := fun i Hf1 H s1 s2 => by
  have hH := Same.seqT s2 (Same.seqT s1 h)
  refine ⟨fun d e => ?_, fun e => ⟨vs, hH, ?_⟩⟩
  · unfold enumL at e
    rw [List.getElem?_map, List.getElem?_zipIdx] at e
    cases e0 : ds[i]? with
    | none => rw [e0] at e; cases e
    | some d0 =>
      rw [e0] at e
      obtain ⟨v, e1, z⟩ := f.get e0
      refine ⟨⟨vs, v, hH, e1⟩, fun x H' y => ?_⟩
      obtain ⟨T, x', rfl, nT, rfl, y⟩ := y
      have e2 := y vs hH
      rw [e1] at e2
      cases e2
      have nv := NewV.tup (K := K) (vs := [.int (i : Nat), v]) (ds := [.int (i : Nat), d0]) s2 nT (.cons (.int _) (.cons (z.mono s1) .nil))
      have e3 : PyData.tuple [.int (i : Nat), d0] = d := by
        have e' : some (PyData.tuple [.int ((0 + i : Nat) : Int), d0]) = some d := e
        rw [Nat.zero_add] at e'
        exact Option.some.inj e'
      subst e3
      obtain ⟨A, o, _⟩ := nv.o
      exact ⟨_, nv.s, nv.f1, nv.f2, nv.f3, o.2⟩
  · rw [f.length]
    have := List.getElem?_eq_none_iff.mp e
    simpa [enumL] using this
def iEnA (fs : Ev → Out (List D)) : Ev → Out (List D) := fun Γ => (fs Γ).bind fun ds Γ1 => match ds with | [.list es] => .ok (enumL es) Γ1 | [.tuple es] => .ok (enumL es) Γ1 | [.dict [(.none, .tuple es)]] => .ok (enumL es) Γ1 | _ => .st
section
variable {X : Cx} {W : WX} {p pos : Pos}
theorem pi_enA {a : Expr} {elts : List Expr} {kk : Nat} {tpos : Pos} {fs : Ev → Out (List D)} (hg : Gl X "enumerate") (hm : X.mg "enumerate" = none) (h : PFs X W [a] fs) (hs : starEach [a] X.env = [(false, eval a X.env)] := by rfl) :
    PIt X W (.Tuple elts kk tpos) (.Call (.Name "enumerate" p) [a] [] pos) (iEnA fs) :=
  ⟨fun f0 h0 => (pi_enumA hg hm (h.run f0 h0) hs).imp fun σ H R ⟨Hf, Γ, fr, st, p⟩ => ⟨Hf, Γ, fr, st, Post.bind p fun ds Γ1 _ vs H1 Hf1 s1 ⟨st1, z⟩ q => by
    split at q
    · obtain ⟨v, rfl, zz⟩ := z.one
      cases zz with
      | lst h f => exact ⟨_, _, rfl, .inl ⟨SqL.of (st1.sub _ _ h), q _ H1 Hf1 (Same.refl _) ⟨st1, itok_enum h f⟩⟩⟩
    · obtain ⟨v, rfl, zz⟩ := z.one
      cases zz with
      | tup h f => exact ⟨_, _, rfl, .inr ⟨SqT.of (st1.sub _ _ h), q _ H1 Hf1 (Same.refl _) ⟨st1, itok_enT (SqT.of h) f⟩⟩⟩
    · obtain ⟨v, rfl, zz⟩ := z.one
      obtain ⟨a, vs, rfl, h, f⟩ := fz_kt zz
      exact ⟨_, _, rfl, .inr ⟨Same.seqT st1.sub h, q _ H1 Hf1 (Same.refl _) ⟨st1, itok_enT h f⟩⟩⟩
    · exact q.elim⟩⟩
/-! zip of tuples -/
theorem itok_zipT {K : PySem.W.Frag} {Hf : Hp} {a b : Addr} {vs ws : List V} {ds es : List D} (h : SqT K Hf a vs) (f : FzAll K Hf vs ds) (h' : SqT K Hf b ws) (f' : FzAll K Hf ws es) : ItOk K Hf (ItzT K a b) (zipL ds es) := fun i Hf1 H s1 s2 => by
  have hH := Same.seqT s2 (Same.seqT s1 h)
  have hH' := Same.seqT s2 (Same.seqT s1 h')
  refine ⟨fun d e => ?_, fun e => ⟨vs, ws, hH, hH', ?_⟩⟩
  · unfold zipL at e
    rw [List.getElem?_map] at e
    cases e0 : (ds.zip es)[i]? with
    | none => rw [e0] at e; cases e
    | some d0 =>
      rw [e0] at e
      cases e
      obtain ⟨q1, q2⟩ := List.getElem?_zip_eq_some.mp e0
      obtain ⟨v, e1, z⟩ := f.get q1
      obtain ⟨u, e2, z'⟩ := f'.get q2
      refine ⟨⟨vs, ws, v, u, hH, hH', e1, e2⟩, fun x H' y => ?_⟩
      obtain ⟨T, x', y', rfl, nT, rfl, y1, y2⟩ := y
      have e3 := y1 vs hH
      rw [e1] at e3
      cases e3
      have e4 := y2 ws hH'
      rw [e2] at e4
      cases e4
      have nv := NewV.tup (K := K) (vs := [v, u]) (ds := [d0.1, d0.2]) s2 nT (.cons (z.mono s1) (.cons (z'.mono s1) .nil))
      obtain ⟨A, o, _⟩ := nv.o
      exact ⟨_, nv.s, nv.f1, nv.f2, nv.f3, o.2⟩
  · have := List.getElem?_eq_none_iff.mp e
    rw [f.length, f'.length]
    simp only [zipL, List.length_map, List.length_zip] at this
    omega
def iZpA (fs : Ev → Out (List D)) : Ev → Out (List D) := fun Γ => (fs Γ).bind fun ds Γ1 => match ds with | [.list xs, .list ys] => .ok (zipL xs ys) Γ1 | [.tuple xs, .tuple ys] => .ok (zipL xs ys) Γ1 | _ => .st
theorem FzAll.two' {K : PySem.W.Frag} {H : Hp} {xs : List V} {d e : D} (h : FzAll K H xs [d, e]) : ∃ v w, xs = [v, w] ∧ Fz K H v d ∧ Fz K H w e := by
  cases h with
  | cons h r => cases r with
    | cons h2 r => cases r; exact ⟨_, _, rfl, h, h2⟩
theorem pi_zpA {a b : Expr} {elts : List Expr} {kk : Nat} {tpos : Pos} {fs : Ev → Out (List D)} (hg : Gl X "zip") (hm : X.mg "zip" = none) (h : PFs X W [a, b] fs) (hs : starEach [a, b] X.env = (false, eval a X.env) :: starEach [b] X.env := by rfl) (hpl : (backTo pos (starEach [b] X.env)).any (·.1) = false := by rfl) :
    PIt X W (.Tuple elts kk tpos) (.Call (.Name "zip" p) [a, b] [] pos) (iZpA fs) :=
  ⟨fun f0 h0 => (pi_zipA hg hm (h.run f0 h0) hs hpl).imp fun σ H R ⟨Hf, Γ, fr, st, p⟩ => ⟨Hf, Γ, fr, st, Post.bind p fun ds Γ1 _ vs H1 Hf1 s1 ⟨st1, z⟩ q => by
    split at q
    · obtain ⟨v, w, rfl, z1, z2⟩ := z.two'
      cases z1 with
      | lst h f => cases z2 with
        | lst h' f' => exact ⟨_, _, _, _, rfl, .inl ⟨SqL.of (st1.sub _ _ h), SqL.of (st1.sub _ _ h'), q _ H1 Hf1 (Same.refl _) ⟨st1, itok_zip h f h' f'⟩⟩⟩
    · obtain ⟨v, w, rfl, z1, z2⟩ := z.two'
      cases z1 with
      | tup h f => cases z2 with
        | tup h' f' => exact ⟨_, _, _, _, rfl, .inr ⟨SqT.of (st1.sub _ _ h), SqT.of (st1.sub _ _ h'), q _ H1 Hf1 (Same.refl _) ⟨st1, itok_zipT (SqT.of h) f (SqT.of h') f'⟩⟩⟩
    · exact q.elim⟩⟩
end
end PV
namespace PV
open PySem PySem.Spec PyProof.Rows L2
/-! ### a dict is locked and unlocked: what stands frozen stands so still -/
/-- the two heaps are one but at d, where a dict is locked in one of them -/
structure Lk (d : Addr) (kvs : List (Key × V)) (F G : Hp) : Prop where
  out : ∀ a, a ≠ d → G a = F a
  rd : F d ≠ none → Rd F d (.dK kvs) ∧ Rd G d (.dK kvs)
  no : F d = none → G d = none
section
variable {K : PySem.W.Frag} {d : Addr} {kvs : List (Key × V)} {F G H H' : Hp}
theorem Lk.at {a : Addr} {o : HO} (l : Lk d kvs F G) (e : F a = some o) (n : ∀ kv, o ≠ .dK kv) (n2 : ∀ b u, o ≠ .frz b (.dK u)) : G a = some o := by
  by_cases z : a = d
  · subst z
    rcases (l.rd (by rw [e]; exact fun z => nomatch z)).1 with r | ⟨b, r⟩
    · rw [e] at r; exact absurd (Option.some.inj r) (n _)
    · rw [e] at r; exact absurd (Option.some.inj r) (n2 _ _)
  · rw [l.out a z]; exact e
theorem Lk.dk {a : Addr} {kv : List (Key × V)} (l : Lk d kvs F G) (e : Rd F a (.dK kv)) : Rd G a (.dK kv) := by
  by_cases z : a = d
  · subst z
    have n : F a ≠ none := by rcases e with e | ⟨b, e⟩ <;> (rw [e]; exact fun z => nomatch z)
    obtain ⟨r1, r2⟩ := l.rd n
    have : kv = kvs := by
      rcases e with e | ⟨b, e⟩ <;> rcases r1 with r | ⟨c, r⟩ <;> (rw [e] at r; cases r) <;> rfl
    rw [this]; exact r2
  · rcases e with e | ⟨b, e⟩
    · exact .inl (by rw [l.out a z]; exact e)
    · exact .inr ⟨b, by rw [l.out a z]; exact e⟩
theorem Lk.seq {a : Addr} {xs : List V} (l : Lk d kvs F G) (h : SqL K F a xs) : SqL K G a xs := by
  rcases h with (h | ⟨o, h⟩) | h
  · exact .inl (.inl (l.at h (fun _ z => nomatch z) fun _ _ z => nomatch z))
  · exact .inl (.inr ⟨o, l.at h (fun _ z => nomatch z) fun _ _ z => nomatch z⟩)
  · exact .inr h
theorem Lk.seqT {a : Addr} {xs : List V} (l : Lk d kvs F G) (h : SqT K F a xs) : SqT K G a xs := by
  rcases h with (h | ⟨o, h⟩) | h
  · exact .inl (.inl (l.at h (fun _ z => nomatch z) fun _ _ z => nomatch z))
  · exact .inl (.inr ⟨o, l.at h (fun _ z => nomatch z) fun _ _ z => nomatch z⟩)
  · exact .inr h
mutual
theorem Fz.lk (l : Lk d kvs F G) : ∀ {v : V} {x : D}, Fz K F v x → Fz K G v x
  | _, _, .non => .non
  | _, _, .bl b => .bl b
  | _, _, .int i => .int i
  | _, _, .str x => .str x
  | _, _, .lst h r => .lst (l.at h (fun _ z => nomatch z) fun _ _ z => nomatch z) (FzAll.lk l r)
  | _, _, .scr ns h => .scr ns (l.seq h)
  | _, _, .tup h r => .tup (l.at h (fun _ z => nomatch z) fun _ _ z => nomatch z) (FzAll.lk l r)
  | _, _, .kt h r => .kt (l.seqT h) (FzAll.lk l r)
  | _, _, .raw a => .raw a
  | _, _, .dK h r => .dK (l.dk h) (FzAll.lk l r)
  | _, _, .dT h r => .dT (by
      rcases h with h | ⟨b, h⟩
      · exact .inl (l.at h (fun _ z => nomatch z) fun _ _ z => nomatch z)
      · exact .inr ⟨b, l.at h (fun _ z => nomatch z) fun _ _ z => by cases z⟩) (FzAll.lk l r)
  | _, _, .dN h r r' e => .dN (l.at h (fun _ z => nomatch z) fun _ _ z => nomatch z) (FzAll.lk l r) (FzAll.lk l r') e
  | _, _, .rng lo hi h => .rng lo hi (l.at h (fun _ z => nomatch z) fun _ _ z => nomatch z)
  | _, _, .ob h r => .ob (l.at h (fun _ z => nomatch z) fun _ _ z => nomatch z) (FzAll.lk l r)
theorem FzAll.lk (l : Lk d kvs F G) : ∀ {v : List V} {x : List D}, FzAll K F v x → FzAll K G v x
  | _, _, .nil => .nil
  | _, _, .cons h r => .cons (Fz.lk l h) (FzAll.lk l r)
end
mutual
theorem Own.lk (l : Lk d kvs F G) : ∀ {s : Sh} {v : V} {x : D} {A : List Addr}, Own K F H s v x A → (∀ a ∈ A, H' a = H a) → Own K G H' s v x A
  | .z, _, _, _, h, _ => ⟨h.1, h.2.lk l⟩
  | .l s, _, _, _, ⟨a, vs, ds, B, e1, e2, e3, r, e4⟩, k =>
    ⟨a, vs, ds, B, e1, e2, (k a (by rw [e4]; exact List.mem_cons_self)).trans e3, r.imp fun v d C hC h => Own.lk l h fun b hb => k b (by rw [e4]; exact List.mem_cons_of_mem _ (hC b hb)), e4⟩
  | .d s, _, _, _, ⟨a, vs, ds, B, e1, e2, e3, r, e4⟩, k =>
    ⟨a, vs, ds, B, e1, e2, (k a (by rw [e4]; exact List.mem_cons_self)).trans e3, r.imp fun v d C hC h => Own.lk l h fun b hb => k b (by rw [e4]; exact List.mem_cons_of_mem _ (hC b hb)), e4⟩
  | .e s, _, _, _, ⟨a, vs, ds, B, e1, e2, e3, r, e4⟩, k =>
    ⟨a, vs, ds, B, e1, e2, (k a (by rw [e4]; exact List.mem_cons_self)).trans e3, r.imp fun v d C hC h => Own.lk l h fun b hb => k b (by rw [e4]; exact List.mem_cons_of_mem _ (hC b hb)), e4⟩
  | .n s, _, _, _, .inl ⟨e, f, h⟩, _ => .inl ⟨e, f, h.lk l⟩
  | .n s, _, _, _, .inr h, k => .inr (Own.lk l h k)
  | .t r, _, _, _, ⟨a, vs, ds, e1, e2, e3, h⟩, k => ⟨a, vs, ds, e1, e2, l.at e3 (fun _ z => nomatch z) (fun _ _ z => nomatch z), OwnC.lk l h k⟩
  | .o C xs r, _, _, _, ⟨p, dx, fs, ds, B, e1, e2, e3, e4, e5, h, e6⟩, k =>
    ⟨p, dx, fs, ds, B, e1, e2, (k p (by rw [e6]; exact List.mem_cons_self)).trans e3, (k dx (by rw [e6]; exact List.mem_cons_of_mem _ List.mem_cons_self)).trans e4, e5, OwnC.lk l h fun b hb => k b (by rw [e6]; exact List.mem_cons_of_mem _ (List.mem_cons_of_mem _ hb)), e6⟩
  | .w a s, _, _, _, ⟨e, h⟩, k => ⟨e, Own.lk l h k⟩
  | .kd, _, _, _, ⟨a, o, vs, ds, e1, e2, e3, r, e4⟩, k => ⟨a, o, vs, ds, e1, e2, (k a (by rw [e4]; exact List.mem_cons_self)).trans e3, r.lk l, e4⟩
  | .ke, _, _, _, ⟨a, o, vs, ds, e1, e2, e3, r, e4⟩, k => ⟨a, o, vs, ds, e1, e2, (k a (by rw [e4]; exact List.mem_cons_self)).trans e3, r.lk l, e4⟩
  | .q, _, _, _, ⟨a, us, ks, ds, e1, e2, e3, r, r', e5, e4⟩, k => ⟨a, us, ks, ds, e1, e2, (k a (by rw [e4]; exact List.mem_cons_self)).trans e3, r.lk l, r'.lk l, e5, e4⟩
  | .c _ _, _, _, _, h, _ => h.elim
  | .u, _, _, _, h, _ => h.elim
theorem OwnC.lk (l : Lk d kvs F G) : ∀ {s : Sh} {v : List V} {x : List D} {A : List Addr}, OwnC K F H s v x A → (∀ a ∈ A, H' a = H a) → OwnC K G H' s v x A
  | .c s r, _, _, _, ⟨v, vs, d, ds, A1, A2, e1, e2, h1, h2, e3⟩, k =>
    ⟨v, vs, d, ds, A1, A2, e1, e2, Own.lk l h1 fun b hb => k b (by rw [e3]; exact List.mem_append_left _ hb), OwnC.lk l h2 fun b hb => k b (by rw [e3]; exact List.mem_append_right _ hb), e3⟩
  | .u, _, _, _, h, _ => ⟨h.1, h.2.lk l⟩
  | .z, _, _, _, h, _ => h.elim
  | .l _, _, _, _, h, _ => h.elim
  | .d _, _, _, _, h, _ => h.elim
  | .e _, _, _, _, h, _ => h.elim
  | .n _, _, _, _, h, _ => h.elim
  | .t _, _, _, _, h, _ => h.elim
  | .o _ _ _, _, _, _, h, _ => h.elim
  | .w _ _, _, _, _, h, _ => h.elim
  | .kd, _, _, _, h, _ => h.elim
  | .ke, _, _, _, h, _ => h.elim
  | .q, _, _, _, h, _ => h.elim
end
end
/-- F with another thing at d, if there is one -/
def lkU (d : Addr) (o : HO) (F : Hp) : Hp := fun a => if a = d ∧ F d ≠ none then some o else F a
theorem lkU_ne {d a : Addr} {o : HO} {F : Hp} (h : a ≠ d) : lkU d o F a = F a := if_neg fun z => h z.1
theorem lkU_at {d : Addr} {o : HO} {F : Hp} (h : F d ≠ none) : lkU d o F d = some o := if_pos ⟨rfl, h⟩
theorem lkU_no {d : Addr} {o : HO} {F : Hp} (h : F d = none) : lkU d o F d = none := (if_neg fun z => z.2 h).trans h
theorem lkU_upd {d : Addr} {o : HO} {F : Hp} (h : F d ≠ none) : lkU d o F = upd F d o := by
  funext a
  by_cases z : a = d
  · subst z; rw [lkU_at h, upd_same]
  · rw [lkU_ne z, upd_ne z]
theorem lkU_none {d a : Addr} {o : HO} {F : Hp} : lkU d o F a = none ↔ F a = none := by
  by_cases z : a = d
  · subst z
    by_cases n : F a = none
    · rw [lkU_no n]; exact ⟨fun _ => n, fun _ => rfl⟩
    · rw [lkU_at n]; exact ⟨(fun z => by cases z), (fun z => absurd z n)⟩
  · rw [lkU_ne z]
theorem lkU_same {d : Addr} {o : HO} {F G : Hp} (s : Same F G) : Same (lkU d o F) (lkU d o G) := fun a u e => by
  by_cases z : a = d
  · subst z
    by_cases n : F a = none
    · rw [lkU_no n] at e; cases e
    · rw [lkU_at n] at e
      rw [lkU_at]
      · exact e
      · cases h : F a with
        | none => exact absurd h n
        | some w => rw [s a w h]; exact fun z => nomatch z
  · rw [lkU_ne z] at e ⊢; exact s a u e
theorem lkU_lk {d : Addr} {o : HO} {kvs : List (Key × V)} {F H : Hp} (s : Same F H) (r : Rd H d (.dK kvs)) (ro : ∀ G : Hp, G d = some o → Rd G d (.dK kvs)) : Lk d kvs F (lkU d o F) where
  out := fun a h => lkU_ne h
  rd := fun n => ⟨by
    cases h : F d with
    | none => exact absurd h n
    | some w =>
      have e := s d w h
      rcases r with r | ⟨b, r⟩
      · rw [r] at e; exact .inl (h.trans e.symm)
      · rw [r] at e; exact .inr ⟨b, h.trans e.symm⟩, ro _ (lkU_at n)⟩
  no := fun n => lkU_no n
/-- the whole state, a frozen dict locked or unlocked -/
theorem StOk.lk {g : Gh} {Hf H : Hp} {σ : St} {Γ : Ev} {fr : List (V × Va)} {d : Addr} {o : HO} {kvs : List (Key × V)} (h : StOk g Hf H σ Γ fr) (hd : Hf d ≠ none) (r : Rd Hf d (.dK kvs)) (ro : ∀ G : Hp, G d = some o → Rd G d (.dK kvs)) :
    StOk ⟨g.K, lkU d o g.f0, lkU d o g.h0⟩ (lkU d o Hf) (upd H d o) σ Γ fr := by
  obtain ⟨ω, h⟩ := h
  have l : Lk d kvs Hf (lkU d o Hf) := lkU_lk (Same.refl _) r ro
  have nd : ∀ i, ω d ≠ some i := fun i e => hd (h.own d i e).2.1
  have hH : H d ≠ none := by
    cases q : Hf d with
    | none => exact absurd q hd
    | some w => rw [h.sub d w q]; exact fun z => nomatch z
  have u : upd H d o = lkU d o H := (lkU_upd hH).symm
  have k : ∀ a i, ω a = some i → upd H d o a = H a := fun a i e => upd_ne fun z => nd i (z ▸ e)
  have has : ∀ {i v x}, Has g Hf H ω i v x → Has ⟨g.K, lkU d o g.f0, lkU d o g.h0⟩ (lkU d o Hf) (upd H d o) ω i v x := fun ⟨A, w, n, q⟩ => ⟨A, w.lk l fun a ha => k a _ (q a ha), n, q⟩
  refine ⟨ω, by rw [u]; exact lkU_same h.base, by rw [u]; exact lkU_same h.sub, lkU_same h.old, fun a n => ?_, fun a i e => ⟨lkU_none.mpr (h.own a i e).1, lkU_none.mpr (h.own a i e).2.1, by rw [k a i e]; exact (h.own a i e).2.2⟩, h.len, fun i x e => ?_, ?_⟩
  · rcases h.new a (fun z => n (lkU_none.mpr z)) with z | z
    · exact .inl fun q => z (lkU_none.mp q)
    · exact .inr (lkU_none.mpr z)
  · obtain ⟨v, e1, q⟩ := h.slots i x e
    exact ⟨v, e1, has q⟩
  · have : ∀ {T : List (V × Va)}, FrOk g Hf H ω T → FrOk ⟨g.K, lkU d o g.f0, lkU d o g.h0⟩ (lkU d o Hf) (upd H d o) ω T := fun {T} => by
      induction T with
      | nil => exact id
      | cons p T ih => exact fun ⟨a, b⟩ => ⟨has a, ih b⟩
    exact this h.fr
theorem lkU_back {d : Addr} {o u : HO} {F : Hp} (h : F d = none ∨ F d = some u) : lkU d u (lkU d o F) = F := by
  funext a
  by_cases z : a = d
  · subst z
    rcases h with h | h
    · rw [lkU_no (lkU_no h), h]
    · rw [lkU_at (by rw [lkU_at (by rw [h]; exact fun z => nomatch z)]; exact fun z => nomatch z), h]
  · rw [lkU_ne z, lkU_ne z]
/-! ### for x in d -/
theorem itok_keys {K : PySem.W.Frag} {Hf : Hp} {d : Addr} {o : Obj} {kvs : List (Key × V)} (h : Hf d = some (.frz o (.dK kvs))) : ItOk K Hf (Itk d o kvs) (kvs.map fun p => kD p.1) := fun i Hf1 H s1 s2 => by
  have hH := s2 _ _ (s1 _ _ h)
  refine ⟨fun x e => ?_, fun e => ⟨hH, by rw [List.getElem?_eq_none_iff, List.length_map] at e; exact e⟩⟩
  rw [List.getElem?_map] at e
  cases q : kvs[i]? with
  | none => rw [q] at e; cases e
  | some p =>
    rw [q] at e
    cases e
    refine ⟨⟨hH, (List.getElem?_eq_some_iff.mp q).1⟩, fun x H' y => ?_⟩
    obtain ⟨rfl, k, v, y1, rfl⟩ := y
    rw [q] at y1
    cases y1
    refine ⟨Hf1, Same.refl _, Same.refl _, s2, fun _ n => .inl n, ?_⟩
    cases k
    · exact .int _
    · exact .str _
/-- an error within is not said -/
def noEx (r : SO) : SO := match r with | .ex _ _ => .st | r => r
def sForK (i : Nat) (t : D → Ev → Option Ev) (body : Ev → SO) : Ev → SO := fun Γ => match Γ[i]? with
  | some (some (.z, .dict rs)) => if (rs.all fun p => (dKey p.1).isSome) = true then sForL t (fun Γ => noEx (body Γ)) (rs.map (·.1)) Γ else .st
  | _ => .st
section
variable {X : Cx} {W : WX}
theorem forK_core {g : GW} {En : Ends} {Hf H : Hp} {σ : St} {Γ : Ev} {fr : List (V × Va)} {i : Nat} {d : Addr} {o : Obj} {kvs : List (Key × V)} {is : List Nat} {t : D → Ev → Option Ev} {fb : Ev → SO} {ds : List PyData}
    (st : StOk g.h Hf H σ Γ fr) (hs : σ[i]? = some (some (.ref d))) (hf : Hf d = some (.frz o (.dK kvs))) (hds : ds = kvs.map fun p => kD p.1) (p : PostS g En fr Hf (sForL t fb ds Γ)) :
    tFor (iKeys (tVar i)) (tG g is t) (tS g fb) En σ H := by
  refine ⟨.ref d, hs, d, o, rfl, .inl ⟨kvs, st.sub _ _ hf, ?_⟩⟩
  have it : ItOk g.h.K Hf (Itk d o kvs) ds := hds ▸ itok_keys hf
  refine ⟨fun i m σ H => m = ds.length - i ∧ i ≤ ds.length ∧ ∃ Hf2 Γ2, Same Hf Hf2 ∧ StOk g.h Hf2 H σ Γ2 fr ∧ PostS g En fr Hf2 (sForL t fb (ds.drop i) Γ2), ⟨_, rfl, Nat.zero_le _, Hf, Γ, Same.refl _, st, p⟩, ?_⟩
  rintro i m σ2 H2 ⟨rfl, hi, Hf2, Γ2, s2, st2, q2⟩
  obtain ⟨g1, g2⟩ := it i Hf2 H2 s2 st2.sub
  cases h : ds[i]? with
  | none =>
    refine .inl ⟨g2 h, ?_⟩
    rw [List.drop_eq_nil_of_le (List.getElem?_eq_none_iff.mp h)] at q2
    exact q2 σ2 H2 Hf2 (Same.refl _) st2
  | some d =>
    obtain ⟨go, yl⟩ := g1 d h
    have hlt := (List.getElem?_eq_some_iff.mp h).1
    have ed : ds.drop i = d :: ds.drop (i + 1) := by
      rw [List.drop_eq_getElem_cons hlt]
      rw [List.getElem?_eq_getElem hlt] at h
      rw [Option.some.inj h]
    rw [ed] at q2
    refine .inr ⟨go, fun σ' H' => (i + 1 ≤ ds.length ∧ ∃ Hf2 Γ2, Same Hf Hf2 ∧ StOk g.h Hf2 H' σ' Γ2 fr ∧ PostS g En fr Hf2 (sForL t fb (ds.drop (i + 1)) Γ2)), fun σ' H' n => ⟨ds.length - (i + 1), by omega, rfl, n⟩, fun x H' y => ?_⟩
    obtain ⟨Hf3, a1, a2, a3, a4, z⟩ := yl x H' y
    have st3 := st2.freeze a1 a2 a3 a4
    unfold sForL at q2
    cases ht : t d Γ2 with
    | none => rw [ht] at q2; exact q2.elim
    | some Γ3 =>
      rw [ht] at q2
      dsimp only at q2
      refine ⟨Hf3, Γ2, fr, d, st3, z, Γ3, ht, fun σ4 H4 Hf4 s4 st4 _ => ⟨Hf4, Γ3, fr, st4, ?_⟩⟩
      have sA : Same Hf Hf4 := (s2.trans a2).trans s4
      have q3 := PostS.mono q2 (a2.trans s4)
      cases hb : fb Γ3 with
      | nx Γ4 =>
        rw [hb] at q3
        exact fun σ5 H5 Hf5 s5 st5 => ⟨hlt, Hf5, Γ4, sA.trans s5, st5, PostS.mono q3 s5⟩
      | ct Γ4 =>
        rw [hb] at q3
        exact fun σ5 H5 Hf5 s5 st5 => ⟨hlt, Hf5, Γ4, sA.trans s5, st5, PostS.mono q3 s5⟩
      | bk Γ4 => rw [hb] at q3; exact q3
      | rt x Γ4 => rw [hb] at q3; exact q3
      | ex e Γ4 => rw [hb] at q3; exact q3
      | st => rw [hb] at q3; exact q3.elim
theorem noEx_post {g : GW} {En : Ends} {fr : List (V × Va)} {Hf : Hp} {r : SO} (h : PostS g En fr Hf (noEx r)) : PostS g En fr Hf r := by
  cases r with
  | ex e Γ => exact h.elim
  | _ => exact h
/-- the ends of a run that knows no error -/
def NoX : SO → Prop | .ex _ _ => False | _ => True
theorem sForL_noX {t : PyData → Ev → Option Ev} {fb : Ev → SO} (h : ∀ Γ, NoX (fb Γ)) : ∀ (ds : List PyData) (Γ : Ev), NoX (sForL t fb ds Γ)
  | [], Γ => trivial
  | d :: ds, Γ => by
    unfold sForL
    cases t d Γ with
    | none => trivial
    | some Γ1 =>
      dsimp only
      have z := h Γ1
      cases hb : fb Γ1 with
      | nx Γ2 => exact sForL_noX h ds Γ2
      | ct Γ2 => exact sForL_noX h ds Γ2
      | bk Γ2 => trivial
      | rt x Γ2 => trivial
      | ex e Γ2 => rw [hb] at z; exact z.elim
      | st => trivial
theorem noEx_noX (r : SO) : NoX (noEx r) := by cases r <;> trivial
theorem lock_post {g : GW} {En : Ends} {fr : List (V × Va)} {Hf H : Hp} {σ : St} {Γ : Ev} {d : Addr} {kvs : List (Key × V)} {od : Obj} {r : SO} (st : StOk g.h Hf H σ Γ fr) (hf : Hf d = some (.dK kvs)) (nx : NoX r) (q : PostS g En fr Hf r) :
    PostS ⟨⟨g.h.K, lkU d (.frz od (.dK kvs)) g.h.f0, lkU d (.frz od (.dK kvs)) g.h.h0⟩, g.mg, g.W⟩ ⟨fun σ' H' => H' d = some (.frz od (.dK kvs)) ∧ En.nx σ' (upd H' d (.dK kvs)), fun v H' => H' d = some (.frz od (.dK kvs)) ∧ En.rt v (upd H' d (.dK kvs)), fun σ' H' => H' d = some (.frz od (.dK kvs)) ∧ En.bk σ' (upd H' d (.dK kvs)), fun σ' H' => H' d = some (.frz od (.dK kvs)) ∧ En.ct σ' (upd H' d (.dK kvs))⟩ fr (lkU d (.frz od (.dK kvs)) Hf) r := by
  have hd : Hf d ≠ none := by rw [hf]; exact fun z => by cases z
  have f0 : g.h.f0 d = none ∨ g.h.f0 d = some (.dK kvs) := by
    obtain ⟨ω, w⟩ := st
    cases e : g.h.f0 d with
    | none => exact .inl rfl
    | some o => rw [w.old d o e] at hf; exact .inr hf
  have h0 : g.h.h0 d = none ∨ g.h.h0 d = some (.dK kvs) := by
    obtain ⟨ω, w⟩ := st
    cases e : g.h.h0 d with
    | none => exact .inl rfl
    | some o =>
      have a := w.base d o e
      have b := w.sub d _ hf
      rw [a] at b; exact .inr b
  have key : ∀ {σ' : St} {H' Hf' : Hp} {Γ' : Ev} {fr' : List (V × Va)}, Same (lkU d (.frz od (.dK kvs)) Hf) Hf' → StOk ⟨g.h.K, lkU d (.frz od (.dK kvs)) g.h.f0, lkU d (.frz od (.dK kvs)) g.h.h0⟩ Hf' H' σ' Γ' fr' → H' d = some (.frz od (.dK kvs)) ∧ ∃ Hf2, Same Hf Hf2 ∧ StOk g.h Hf2 (upd H' d (.dK kvs)) σ' Γ' fr' := fun {σ' H' Hf' Γ' fr'} s1 st1 => by
    have e1 : Hf' d = some (.frz od (.dK kvs)) := s1 d _ (lkU_at hd)
    refine ⟨st1.sub d _ e1, lkU d (.dK kvs) Hf', ?_, ?_⟩
    · have z := lkU_same (d := d) (o := .dK kvs) s1
      rw [lkU_back (.inr hf)] at z
      exact z
    · have z := StOk.lk (o := .dK kvs) st1 (by rw [e1]; exact fun z => by cases z) (.inr ⟨od, e1⟩) fun G e => .inl e
      dsimp only at z
      rw [lkU_back f0, lkU_back h0] at z
      exact z
  cases r with
  | nx Γ' => exact fun σ' H' Hf' s1 st1 => by obtain ⟨a, Hf2, b, c⟩ := key s1 st1; exact ⟨a, q σ' _ Hf2 b c⟩
  | rt x Γ' => exact fun v σ' H' Hf' s1 st1 => by obtain ⟨a, Hf2, b, c⟩ := key s1 st1; exact ⟨a, q v σ' _ Hf2 b c⟩
  | bk Γ' => exact fun σ' H' Hf' s1 st1 => by obtain ⟨a, Hf2, b, c⟩ := key s1 st1; exact ⟨a, q σ' _ Hf2 b c⟩
  | ct Γ' => exact fun σ' H' Hf' s1 st1 => by obtain ⟨a, Hf2, b, c⟩ := key s1 st1; exact ⟨a, q σ' _ Hf2 b c⟩
  | ex e Γ' => exact nx.elim
  | st => exact q
theorem ps_fK (i : Nat) {tg : Expr} {x : Str} {p pos : Pos} {body : List Stmt} {is : List Nat} {t : PyData → Ev → Option Ev} {fb : Ev → SO} (hp : PassesOwn (model X.prog X.w) X.A X.env X.xe) (hc : X.calm = true) (hg : PGt X tg is t) (hb : PSts X W body fb)
    (hN : X.N[i]? = some x := by rfl) (hv : Vis X.env.scope x := by first | exact Or.inl rfl | exact Or.inr (Or.inl rfl) | exact Or.inr (Or.inr rfl)) (hdb : (x == ("__debug__" : Str)) = false := by decide) (hcd : (x == ("__classdict__" : Str)) = false := by decide)
    (hs : ∀ y, foldedSetIterable (.Name x p) X.env y = pure y := by intro _; rfl) : PSt X W (.For tg (.Name x p) body [] pos) (sForK i t fb) :=
  ⟨fun f0 h0 => ⟨fun pins s σ H En I h => by
    obtain ⟨Hf, Γ, fr, st, q⟩ := h
    unfold sForK at q
    split at q
    · rename_i rs hΓ
      split at q
      · rename_i hk
        obtain ⟨v, e1, z⟩ := st.getZ hΓ
        obtain ⟨d, kvs, ds, rfl, hd, fd, e2⟩ := fz_dict z hk
        have hds : rs.map (·.1) = kvs.map fun p => kD p.1 := by
          rw [e2, List.map_fst_zip]
          rw [List.length_map]
          have := fd.length
          rw [List.length_map] at this
          omega
        have hb' : ∀ f0 h0, PSs X body (tS (gh X W f0 h0) fun Γ => noEx (fb Γ)) := fun f0 h0 => (hb.run f0 h0).imp fun En σ H ⟨Hf, Γ, fr, st, q⟩ => ⟨Hf, Γ, fr, st, noEx_post q⟩
        rcases hd with hd | ⟨o, hd⟩
        · have hH := st.sub d _ hd
          obtain ⟨od, I1⟩ := I.lock hH (show Mut (some (HO.dK kvs)) from trivial)
          have hdn : Hf d ≠ none := by rw [hd]; exact fun z => by cases z
          have stL : StOk (gh X W (lkU d (.frz od (.dK kvs)) f0) (lkU d (.frz od (.dK kvs)) h0)).h (lkU d (.frz od (.dK kvs)) Hf) (upd H d (.frz od (.dK kvs))) σ Γ fr := StOk.lk st hdn (.inl hd) fun G e => .inr ⟨od, e⟩
          have qL := lock_post (g := gh X W f0 h0) (od := od) st hd (sForL_noX (t := t) (fb := fun Γ => noEx (fb Γ)) (fun _ => noEx_noX _) (rs.map (·.1)) Γ) q
          have core := forK_core (g := gh X W (lkU d (.frz od (.dK kvs)) f0) (lkU d (.frz od (.dK kvs)) h0)) (is := is) (i := i) stL e1 (lkU_at hdn) hds qL
          refine thn ((ps_for hp hc (pi_keys (pe_var hN hv hdb hcd)) (hg.run (gh X W (lkU d (.frz od (.dK kvs)) f0) (lkU d (.frz od (.dK kvs)) h0)) rfl) (hb' _ _) hs).run pins s σ _ _ I1 core) fun f s1 q => ?_
          have mu : Mut (some (HO.dK kvs)) := trivial
          cases f with
          | next => obtain ⟨τ, G, I2, e, q⟩ := q; exact ⟨τ, _, I2.unlock e (I.nofrz hH mu), q⟩
          | brk => obtain ⟨τ, G, I2, e, q⟩ := q; exact ⟨τ, _, I2.unlock e (I.nofrz hH mu), q⟩
          | cont => obtain ⟨τ, G, I2, e, q⟩ := q; exact ⟨τ, _, I2.unlock e (I.nofrz hH mu), q⟩
          | ret v => obtain ⟨y, τ, G, I2, r, e, q⟩ := q; exact ⟨y, τ, _, I2.unlock e (I.nofrz hH mu), r, q⟩
        · exact (ps_for hp hc (pi_keys (pe_var hN hv hdb hcd)) (hg.run (gh X W f0 h0) rfl) (hb' f0 h0) hs).run pins s σ H En I (forK_core st e1 hd hds q)
      · exact q.elim
    · exact q.elim⟩⟩
end
end PV
namespace PV
open PySem PySem.Spec PyProof.Rows L2
/-! ### a range as a value -/
def rngD (lo hi : Int) : D := .dict [(.none, .dict [(.int lo, .int hi)])]
def iRngO (te : TE) : TI := fun σ H R => te σ H fun v H1 => ∃ a lo hi, v = .ref a ∧ H1 a = some (.rng lo hi) ∧ (-(2 ^ 62) ≤ lo ∧ lo < 2 ^ 62 ∧ -(2 ^ 62) ≤ hi ∧ hi < 2 ^ 62) ∧ R (Itr lo (hi - lo).toNat) H1
theorem pi_rngO {X : Cx} {tg e : Expr} {te : TE} (he : PE X e te) : PI X tg e (iRngO te) := by
  refine ⟨fun pins s σ H R I h => ?_⟩
  refine thn (he.run pins s σ H _ I h) fun u s1 ⟨v, H1, I1, rv, a, lo, hi, ev, ho, ⟨b1, b2, b3, b4⟩, q⟩ => ?_
  subst ev
  obtain rfl : u = Value.ref a := rv
  obtain ⟨t, w, z, go⟩ := I1.hok a _ ho
  refine wpAny_pyIter_range (show IsRange s1.heap a lo hi 1 t w z from go) (small_one b1 b2 b3 b4) ?_
  refine ⟨s1.heap.objs.size, [s1.heap.objs.size], _, _, H1, rfl, I1.kept (t' := s1.toks) fun b o e => Heap.get?_push_of_some _ e, turn_range _ lo (hi - lo).toNat, ?_, fun b hb => ?_, q⟩
  · have e1 : lo + ((0 : Nat) : Int) * 1 = lo := by simp
    have e2 : (((hi - lo).toNat : Nat) : Int) - ((0 : Nat) : Int) = Builtin.Range.rangeSize lo hi 1 := by rw [rangeSize_one]; split <;> omega
    show IsRangeIter _ _ (lo + ((0 : Nat) : Int) * 1) ((((hi - lo).toNat : Nat) : Int) - ((0 : Nat) : Int)) 1
    rw [e1, e2]
    exact Heap.get?_push_size _ rfl
  · rw [show b = s1.heap.objs.size by simpa using hb]
    exact I1.fpOk (Nat.le_refl _) (I1.hok.fresh (Nat.le_refl _))
theorem cr_range1 {X : Cx} : CallR X (.type "range") (fun vs H Q => ∃ j, vs = [V.int j] ∧ ∀ p, H p = none → Q (.ref p) (upd H p (.rng 0 j))) := by
  intro pins s σ H vs us Q I r h
  obtain ⟨j, rfl, q⟩ := h
  cases r with
  | cons r rr =>
    cases rr
    obtain ⟨t, rfl⟩ := r
    refine call_range_1 ⟨.ref s.heap.objs.size, upd H s.heap.objs.size (.rng 0 j), I.laid (t' := s.toks + 2) (fun b o e => Heap.get?_push_of_some _ e) (Nat.le_refl _) ?_, rfl, q _ (I.hok.fresh (Nat.le_refl _))⟩
    exact ⟨s.toks, t, s.toks + 1, Heap.get?_push_size _ rfl⟩
def rRng : List V → Hp → VK → Prop := fun vs H Q => (∃ j, vs = [V.int j] ∧ ∀ p, H p = none → Q (.ref p) (upd H p (.rng 0 j))) ∨ ∃ i j, vs = [V.int i, V.int j] ∧ ∀ p, H p = none → Q (.ref p) (upd H p (.rng i j))
theorem cr_rng {X : Cx} : CallR X (.type "range") rRng := cr_range1.or cr_range2
def dRng : List D → Option Va
  | [.int j] => some (.z, rngD 0 j)
  | [.int i, .int j] => some (.z, rngD i j)
  | _ => none
theorem NewV.rng {K : PySem.W.Frag} {Hf H : Hp} {p : Addr} {lo hi : Int} (s : Same Hf H) (n : H p = none) : NewV K Hf H (upd H p (.rng lo hi)) (upd Hf p (.rng lo hi)) (.ref p) (.z, rngD lo hi) := by
  have nf : Hf p = none := Same.free s n
  refine ⟨same_new n, same_new nf, fun b o e => ?_, fun b e => ?_, [], ⟨rfl, .rng lo hi upd_same⟩, List.nodup_nil, fun _ z => nomatch z⟩
  · by_cases z : b = p
    · subst z; rw [upd_same] at e ⊢; exact e
    · rw [upd_ne z] at e ⊢; exact s b o e
  · by_cases z : b = p
    · subst z; exact .inr n
    · rw [upd_ne z] at e; exact .inl e
theorem cs_rng {K : PySem.W.Frag} : CallS K rRng dRng := fun Hf H xs ds z Q s h e q => by
  unfold dRng at e
  split at e
  · cases e
    obtain ⟨v, rfl, h1⟩ := h.one
    cases h1.int
    exact .inl ⟨_, rfl, fun p n => q _ _ _ (.rng s n)⟩
  · cases e
    obtain ⟨v, w, rfl, h1, h2⟩ := h.two
    cases h1.int
    cases h2.int
    exact .inr ⟨_, _, rfl, fun p n => q _ _ _ (.rng s n)⟩
  · cases e
def iRg (f : Ev → Out D) : Ev → Out (List D) := fun Γ => (f Γ).bind fun d Γ1 => match d with
  | .dict [(.none, .dict [(.int lo, .int hi)])] => if (lo < 2 ^ 62 ∧ -(2 ^ 62) ≤ lo) ∧ hi < 2 ^ 62 ∧ -(2 ^ 62) ≤ hi then .ok (rangeL lo (hi - lo).toNat) Γ1 else .st
  | _ => .st
theorem fz_rng {K : PySem.W.Frag} {H : Hp} {v : V} {lo hi : Int} (h : Fz K H v (rngD lo hi)) : ∃ a, v = .ref a ∧ H a = some (.rng lo hi) := by
  generalize hd : rngD lo hi = d at h
  unfold rngD at hd
  cases h with
  | rng l h e =>
    injection hd with hd
    injection hd with hd _
    injection hd with _ hd
    injection hd with hd
    injection hd with hd _
    injection hd with h1 h2
    injection h1 with h1
    injection h2 with h2
    subst h1 h2
    exact ⟨_, rfl, e⟩
  | raw a => unfold rawD at hd; cases hd
  | @dK b kvs ds' h r =>
    injection hd with hd
    cases kvs with
    | nil => cases ds' <;> cases hd
    | cons p kvs =>
      cases ds' with
      | nil => cases hd
      | cons d' ds' =>
        rw [List.map_cons, List.zip_cons_cons] at hd
        injection hd with hd _
        injection hd with hd _
        obtain ⟨k, w⟩ := p
        cases k <;> cases hd
  | _ => cases hd
theorem pi_rg {X : Cx} {W : WX} {tg e : Expr} {f : Ev → Out D} (h : PF X W e f) : PIt X W tg e (iRg f) := ⟨fun f0 h0 => (pi_rngO (h.run f0 h0)).imp fun σ H R ⟨Hf, Γ, fr, st, p⟩ => ⟨Hf, Γ, fr, st, Post.bind p fun d Γ1 _ v H1 Hf1 s1 ⟨st1, z⟩ q => by
  split at q
  · split at q
    · rename_i c
      obtain ⟨a, rfl, ha⟩ := fz_rng z
      exact ⟨a, _, _, rfl, st1.sub _ _ ha, ⟨c.1.2, c.1.1, c.2.2, c.2.1⟩, q _ H1 Hf1 (Same.refl _) ⟨st1, itok_range _ _⟩⟩
    · exact q.elim
  · exact q.elim⟩⟩
end PV
namespace PV
open PySem PySem.Spec PyProof.Rows L2
/-! ### a call with lists that change later: they stand still while the def runs -/
/-- what a def hands back then holds none of them -/
def okR : Va → Bool
  | (.z, d) => flatD d
  | (.l .z, .list ds) => ds.all flatD
  | _ => false
theorem flat_fz {K : PySem.W.Frag} {Hf Hf' : Hp} {v : V} {d : D} (h : Fz K Hf v d) (f : flatD d = true) : Fz K Hf' v d := by
  unfold flatD at f
  split at f
  · cases h; exact .non
  · cases h; exact .bl _
  · cases h; exact .int _
  · cases h; exact .str _
  · rename_i i
    generalize hd : PyData.dict [(PyData.none, PyData.int i)] = d at h
    cases h with
    | raw a => exact .raw a
    | @dK b kvs ds' h r =>
      injection hd with hd
      cases kvs with
      | nil => cases ds' <;> cases hd
      | cons p kvs =>
        cases ds' with
        | nil => cases hd
        | cons d' ds' =>
          rw [List.map_cons, List.zip_cons_cons] at hd
          injection hd with hd _
          injection hd with hd _
          obtain ⟨k, w⟩ := p
          cases k <;> cases hd
    | _ => cases hd
  · cases f
theorem flats_fz {K : PySem.W.Frag} {Hf Hf' : Hp} : ∀ {vs : List V} {ds : List D}, FzAll K Hf vs ds → ds.all flatD = true → FzAll K Hf' vs ds
  | _, _, .nil, _ => .nil
  | _, _, .cons h r, f => by
    rw [List.all_cons, Bool.and_eq_true] at f
    exact .cons (flat_fz h f.1) (flats_fz r f.2)
/-! ### len(d) -/
section
variable {X : Cx} {W : WX} {x y : Str} {p p2 pos : Pos}
theorem cr_lenD : CallR X (.builtin "len") (fun xs H Q => ∃ a kvs, xs = [V.ref a] ∧ Rd H a (.dK kvs) ∧ Q (.int kvs.length) H) := by
  intro pins s σ H xs us Q I r h
  obtain ⟨a, kvs, rfl, hd, q⟩ := h
  cases r with
  | cons r rr =>
    cases rr
    cases r
    exact d_len I hd fun t s' I' => ⟨.int kvs.length, H, I', ⟨t, rfl⟩, q⟩
def fLenD (i : Nat) : Ev → Out D := fun Γ => match dic (Γ[i]?) with | some rs => .ok (.int (rs.length : Nat)) Γ | none => .st
theorem rows_length {K : PySem.W.Frag} {H : Hp} {kvs : List (Key × V)} {ds : List D} (h : FzAll K H (kvs.map (·.2)) ds) : (rows kvs ds).length = kvs.length := by
  have := h.length
  rw [List.length_map] at this
  unfold rows
  rw [List.length_zip, List.length_map, ← this, Nat.min_self]
theorem pf_lenD (i : Nat) (hg : Gl X y) (hm : X.mg y = none) (hv : bootBuiltins y = some (.builtin "len")) (hN : X.N[i]? = some x := by rfl) (hvi : Vis X.env.scope x := by first | exact Or.inl rfl | exact Or.inr (Or.inl rfl) | exact Or.inr (Or.inr rfl))
    (hd : (x == ("__debug__" : Str)) = false := by decide) (hcd : (x == ("__classdict__" : Str)) = false := by decide) (hn : y ≠ "__name__" := by decide) (hdb : (y == ("__debug__" : Str)) = false := by decide)
    (he : starEach [.Name x p2] X.env = (false, eval (.Name x p2) X.env) :: starEach [] X.env := by rfl) (hpl : (backTo pos (starEach [] X.env)).any (·.1) = false := by rfl) : PF X W (.Call (.Name y p) [.Name x p2] [] pos) (fLenD i) :=
  ⟨fun f0 h0 => (pe_callB cr_lenD hg hm hv (pa_cons (pe_var hN hvi hd hcd) pa_nil he) hn hdb he hpl).imp fun σ H Q ⟨Hf, Γ, fr, st, q⟩ => by
    unfold fLenD at q
    split at q
    · rename_i rs hr
      obtain ⟨a, kvs, ds, e1, e2, f1, rfl⟩ := st.getDic hr
      refine ⟨.ref a, e1, a, kvs, rfl, e2, q _ H Hf (Same.refl _) ⟨st, ?_⟩⟩
      rw [rows_length f1]
      exact .int _
    · exact q.elim⟩
end
/-! ### {k: v}, k a tuple -/
def tDispT (tk tv : TE) : TE := fun σ H Q => ∀ p, H p = none → tk σ (upd H p (.dT [])) fun x H1 => tv σ H1 fun y H2 => ∃ H3, DPut H2 p x y H3 ∧ Q (.ref p) H3
theorem pe_dispT {X : Cx} {k v : Expr} {tk tv : TE} {pos : Pos} (hu : X.A.units + 1 < cLine) (hk : PE X k tk) (hv : PE X v tv) : PE X (.Dict [some k] [v] pos) (tDispT tk tv) := by
  refine ⟨fun pins s σ H Q I q => ?_⟩
  have fresh := I.hok.fresh (Nat.le_refl s.heap.objs.size)
  have I1 := I.laid (a := s.heap.objs.size) (o := .dT []) (h' := s.heap.push { cls := .type "dict", data := .dict #[] }) (t' := s.toks) (fun _ _ q => Heap.get?_push_of_some _ q) (Nat.le_refl _) (dt_empty s.heap I.big)
  rw [arm_eval_Dict, zip_pairTrees [some k] [v] X.env pos rfl rfl, dictDisplay_pairs (pairTrees [some k] [v] X.env pos) (fun z => by cases z) (show 1 < 17 by decide)]
  refine wpAny_bind (wpAny_standAt (wpAny_bind ?_))
  unfold subDict
  refine wpAny_bind (wpAny_alloc ?_)
  refine wpAny_bind (wpAny_holding ?_)
  rw [if_pos (show (pairTrees [some k] [v] X.env pos).length ≤ 15 from Nat.le_of_ble_eq_true rfl)]
  refine wpAny_bind (pairTrees_cons_walk (thn (hk.run pins _ σ _ _ I1 (q _ fresh)) fun ux s1 ⟨x, H1, J1, rx, q1⟩ => thn (hv.run pins s1 σ H1 _ J1 q1) fun uy s2 ⟨y, H2, J2, ry, H3, put, q2⟩ => pairTrees_nil_walk ?_))
  refine wpAny_holding ?_
  rw [List.forIn_cons]
  refine wpAny_bind (wpAny_bind (wpAny_bind (put_blk hu J2 put rx ry fun s3 J3 => wpAny_pure ?_)))
  dsimp only
  rw [List.forIn_nil]
  exact wpAny_pure (wpAny_pure (wpAny_pure (wpAny_pure ⟨.ref s.heap.objs.size, H3, J3, rfl, q2⟩)))
def vTct1 (fk fv : Ev → Out D) : Ev → Out Va := fun Γ => (fk Γ).bind fun k Γ1 => (fv Γ1).bind fun d Γ2 => .of ((tKey k).map fun _ => ((.e .z, PyData.dict [(.bool true, .none), (k, d)]) : Va)) Γ2
theorem pv_tct1 {X : Cx} {W : WX} {ek ev : Expr} {fk fv : Ev → Out D} {pos : Pos} (hu : X.A.units + 1 < cLine) (hk : PF X W ek fk) (hv : PF X W ev fv) : PV X W (.Dict [some ek] [ev] pos) (vTct1 fk fv) :=
  ⟨fun f0 h0 => (pe_dispT hu (hk.run f0 h0) (hv.run f0 h0)).imp fun σ H Q ⟨Hf, Γ, fr, st, p⟩ a n => by
    have st1 := st.pushN (NewV.te (K := X.K) (kvs := []) (ds := []) st.sub n .nil)
    unfold vTct1 at p
    refine ⟨Hf, Γ, _, st1, ?_⟩
    cases h1 : fk Γ with
    | st => rw [h1] at p; exact p.elim
    | ex e Γ1 => rw [h1] at p; exact PEx.push (show PEx _ Hf σ fr e Γ1 from p)
    | ok k Γ1 =>
      rw [h1] at p
      intro x H1 Hf1 s1 ⟨st2, z2⟩
      refine ⟨Hf1, Γ1, _, st2, ?_⟩
      have p := Post.mono p s1
      cases h2 : fv Γ1 with
      | st => dsimp only [Out.bind] at p; rw [h2] at p; exact p.elim
      | ex e Γ2 => dsimp only [Out.bind] at p; rw [h2] at p; exact PEx.push (show PEx _ Hf1 σ fr e Γ2 from p)
      | ok d Γ2 =>
        dsimp only [Out.bind] at p
        rw [h2] at p
        intro y H2 Hf2 s2 ⟨st3, z3⟩
        have p := Post.mono p s2
        dsimp only at p
        obtain ⟨c, e, p⟩ := Post.of p
        cases hy : tKey k with
        | none => rw [hy] at e; cases e
        | some kk =>
          rw [hy] at e
          cases e
          obtain ⟨b, rfl, hb, rfl⟩ := tkey_val (z2.mono s2) hy
          have ha : H2 a = some (.dT []) := by
            obtain ⟨A, o, _⟩ := st3.topO
            obtain ⟨a', kvs, ds, B, e1, e2, e3, r, e4⟩ := o
            cases e1
            have : kvs = [] := by
              cases kvs with
              | nil => rfl
              | cons p kvs =>
                cases r with
                | cons h r =>
                  unfold tRows at e2
                  cases e2
            rw [this] at e3; exact e3
          have hp : DPut H2 a (.ref b) y (upd H2 a (.dT (putK [] kk y))) := DPut.t ha (st3.sub _ _ hb) (by decide)
          refine ⟨_, hp, p _ _ Hf2 (Same.refl _) ?_⟩
          exact st3.mutTopH (x' := (.e .z, .dict ((.bool true, .none) :: trows [(kk, y)] [d]))) (fun A o => own_e_mem o) (own_e_z (kvs := [(kk, y)]) (ds := [d]) (.cons z3 .nil))⟩
end PV
namespace PV
open PySem PySem.Spec PyProof.Rows L2
/-! ### a call with things that change later, of any shape -/
inductive Qa where
  | f (fe : Ev → Out D) | b (i : Nat)
def evQ : List Qa → Ev → Out (List (D ⊕ Nat))
  | [], Γ => .ok [] Γ
  | .f fe :: qs, Γ => (fe Γ).bind fun d Γ1 => (evQ qs Γ1).bind fun ks Γ2 => .ok (.inl d :: ks) Γ2
  | .b i :: qs, Γ => match Γ[i]? with | some (some _) => (evQ qs Γ).bind fun ks Γ2 => .ok (.inr i :: ks) Γ2 | _ => .st
def daQ (Γ : Ev) : List (D ⊕ Nat) → Option (List D)
  | [] => some []
  | .inl d :: ks => (daQ Γ ks).map (d :: ·)
  | .inr i :: ks => match Γ[i]? with | some (some x) => (daQ Γ ks).map (x.2 :: ·) | _ => none
inductive QOk (K : PySem.W.Frag) (Hf : Hp) (σ : St) : List V → List (D ⊕ Nat) → Prop
  | nil : QOk K Hf σ [] []
  | f {v : V} {d : D} {vs : List V} {ks : List (D ⊕ Nat)} : Fz K Hf v d → QOk K Hf σ vs ks → QOk K Hf σ (v :: vs) (.inl d :: ks)
  | b {v : V} {i : Nat} {vs : List V} {ks : List (D ⊕ Nat)} : σ[i]? = some (some v) → QOk K Hf σ vs ks → QOk K Hf σ (v :: vs) (.inr i :: ks)
theorem QOk.mono {K : PySem.W.Frag} {Hf Hf' : Hp} {σ : St} {vs : List V} {ks : List (D ⊕ Nat)} (h : QOk K Hf σ vs ks) (s : Same Hf Hf') : QOk K Hf' σ vs ks := by
  induction h with
  | nil => exact .nil
  | f h _ ih => exact .f (h.mono s) ih
  | b h _ ih => exact .b h ih
def RQ (g : GW) (σ : St) (fr : List (V × Va)) : Hp → Hp → List (D ⊕ Nat) → Ev → List V → Prop := fun Hf H ks Γ vs => StOk g.h Hf H σ Γ fr ∧ QOk g.h.K Hf σ vs ks
def tQ (g : GW) (qs : List Qa) : TA := fun σ H Q => ∃ Hf Γ fr, StOk g.h Hf H σ Γ fr ∧ Post g σ fr (RQ g σ fr) Hf Q (evQ qs Γ)
structure PQs (X : Cx) (W : WX) (es : List Expr) (qs : List Qa) : Prop where
  run : ∀ f0 h0, PA X es (tQ (gh X W f0 h0) qs)
section
variable {X : Cx} {W : WX} {e : Expr} {es : List Expr} {x : Str} {p pos : Pos}
theorem pq_n : PQs X W [] [] := ⟨fun f0 h0 => pa_nil.imp fun σ H Q ⟨Hf, Γ, fr, st, p⟩ => p [] H Hf (Same.refl _) ⟨st, .nil⟩⟩
theorem pq_f {fe : Ev → Out D} {qs : List Qa} (h : PF X W e fe) (hs : PQs X W es qs) (hst : starEach (e :: es) X.env = (false, eval e X.env) :: starEach es X.env := by rfl) : PQs X W (e :: es) (.f fe :: qs) :=
  ⟨fun f0 h0 => (pa_cons (h.run f0 h0) (hs.run f0 h0) hst).imp fun σ H Q ⟨Hf, Γ, fr, st, p⟩ => ⟨Hf, Γ, fr, st, Post.bind p fun d Γ1 _ v H1 Hf1 s1 ⟨st1, l1⟩ q => ⟨Hf1, Γ1, fr, st1, Post.bind q fun ks Γ2 _ vs H2 Hf2 s2 ⟨st2, l2⟩ q => q (v :: vs) H2 Hf2 (Same.refl _) ⟨st2, .f (l1.mono s2) l2⟩⟩⟩⟩
theorem pq_b (i : Nat) {qs : List Qa} (hs : PQs X W es qs) (hN : X.N[i]? = some x := by rfl) (hv : Vis X.env.scope x := by first | exact Or.inl rfl | exact Or.inr (Or.inl rfl) | exact Or.inr (Or.inr rfl)) (hd : (x == ("__debug__" : Str)) = false := by decide)
    (hcd : (x == ("__classdict__" : Str)) = false := by decide) (hst : starEach (.Name x p :: es) X.env = (false, eval (.Name x p) X.env) :: starEach es X.env := by rfl) : PQs X W (.Name x p :: es) (.b i :: qs) :=
  ⟨fun f0 h0 => (pa_cons (pe_var hN hv hd hcd) (hs.run f0 h0) hst).imp fun σ H Q ⟨Hf, Γ, fr, st, p⟩ => by
    unfold evQ at p
    split at p
    · rename_i y e
      have hs : ∃ v, σ[i]? = some (some v) := by
        obtain ⟨ω, w⟩ := id st
        obtain ⟨v, e, _⟩ := w.slots i _ e
        exact ⟨v, e⟩
      obtain ⟨v, e1⟩ := hs
      exact ⟨v, e1, Hf, Γ, fr, st, Post.bind p fun ks Γ2 _ vs H2 Hf2 s2 ⟨st2, l2⟩ q => q (v :: vs) H2 Hf2 (Same.refl _) ⟨st2, .b e1 l2⟩⟩
    · exact p.elim⟩
/-- all that is lent stands frozen -/
theorem StOk.frozeQ {g : Gh} {Hf H : Hp} {σ : St} {Γ : Ev} {fr : List (V × Va)} {vs : List V} {ks : List (D ⊕ Nat)} {ds : List D} (st : StOk g Hf H σ Γ fr) (h : QOk g.K Hf σ vs ks) (e : daQ Γ ks = some ds) : ∃ G : Hp, Same Hf G ∧ Same G H ∧ FzAll g.K G vs ds := by
  obtain ⟨ω, w⟩ := st
  classical
  have g1 : Same Hf fun b => if ∃ i, ω b = some (.inl i) then H b else Hf b := fun b o q => by
    have : ¬ ∃ i, ω b = some (.inl i) := fun ⟨i, z⟩ => by rw [(w.own b _ z).2.1] at q; cases q
    simp only [if_neg this]; exact q
  refine ⟨fun b => if ∃ i, ω b = some (.inl i) then H b else Hf b, g1, fun b o q => ?_, ?_⟩
  · by_cases c : ∃ i, ω b = some (.inl i)
    · simp only [if_pos c] at q; exact q
    · simp only [if_neg c] at q; exact w.sub b o q
  · induction h generalizing ds with
    | nil => cases e; exact .nil
    | f h _ ih =>
      unfold daQ at e
      cases r : daQ Γ ‹List (D ⊕ Nat)› with
      | none => rw [r] at e; cases e
      | some ds' => rw [r] at e; cases e; exact .cons (h.mono g1) (ih r)
    | @b v i vs ks h _ ih =>
      unfold daQ at e
      split at e
      · rename_i x hx
        cases r : daQ Γ ks with
        | none => rw [r] at e; cases e
        | some ds' =>
          rw [r] at e
          cases e
          obtain ⟨v', e1, A, o, nd, hA⟩ := w.slots i x hx
          rw [h] at e1
          cases e1
          exact .cons (o.fz g1 fun a ha => if_pos ⟨i, hA a ha⟩) (ih r)
      · cases e
def fCallQ (n : Nat) (F : List D → Res) (qs : List Qa) : Ev → Out Va := fun Γ => (evQ qs Γ).bind fun ks Γ1 => match daQ Γ1 ks with
  | some ds => if ds.length = n then (match F ds with | .ok x => if okR x = true then .ok x Γ1 else .st | .ex e => if e.fs.isEmpty = true then .ex e Γ1 else .st | .st => .st) else .st
  | none => .st
theorem pv_callQ {f : Addr} {fd : FuncData} {ps : List Str} {k n : Nat} {F : List D → Res} {qs : List Qa} (hF : FnOk X.prog X.w X.K X.mg X.base (L2.CX X.prog X.w) k f fd ps (spV X.K X.mg n F)) (hr : Room k X.A) (hg : Gl X x) (hm : X.mg x = some (.ref f))
    (hk : PySem.W.keepIn X.K (.ref f) = true) (hb : Binds X.K fd ps []) (tk : Takes X W) (ha : PQs X W (e :: es) qs) (hdb : (x == ("__debug__" : Str)) = false := by decide) (he : starEach (e :: es) X.env = (false, eval e X.env) :: starEach es X.env := by rfl)
    (hpl : (backTo pos (starEach es X.env)).any (·.1) = false := by rfl) : PV X W (.Call (.Name x p) (e :: es) [] pos) (fCallQ n F qs) :=
  ⟨fun f0 h0 => (pe_callS (E := WE W) hF hr hg hm hk hb (fun σ => passAt tk σ) (ha.run f0 h0) hdb he hpl).imp fun σ H Q ⟨Hf, Γ, fr, st, p⟩ => ⟨Hf, Γ, fr, st, Post.bind p fun ks Γ1 _ vs H1 Hf1 s1 ⟨st1, l1⟩ q => by
    split at q
    · rename_i ds hl
      obtain ⟨G, g1, g2, fz⟩ := st1.frozeQ l1 hl
      split at q
      · rename_i c
        refine ⟨G, ds, c, g2, fz, ?_⟩
        have back : ∀ {H' G' : Hp}, Same G G' → Same G' H' → (∀ a, G' a ≠ none → G a ≠ none ∨ H1 a = none) → ∃ F' : Hp, Same Hf1 F' ∧ Same F' H' ∧ (∀ a, F' a ≠ none → Hf1 a ≠ none ∨ H1 a = none) ∧ ∀ a, H1 a = none → F' a = G' a := fun {H' G'} a1 a2 a3 => by
          classical
          refine ⟨fun b => if G b ≠ none ∧ Hf1 b = none then none else G' b, fun b o e => ?_, fun b o e => ?_, fun b n => ?_, fun b e => ?_⟩
          · have : ¬ (G b ≠ none ∧ Hf1 b = none) := fun z => by rw [z.2] at e; cases e
            simp only [if_neg this]; exact a1 b o (g1 b o e)
          · by_cases c : G b ≠ none ∧ Hf1 b = none
            · simp only [if_pos c] at e; cases e
            · simp only [if_neg c] at e; exact a2 b o e
          · by_cases c : G b ≠ none ∧ Hf1 b = none
            · simp only [if_pos c] at n; exact absurd rfl n
            · simp only [if_neg c] at n
              rcases a3 b n with z | z
              · exact .inl fun w => c ⟨z, w⟩
              · exact .inr z
          · have : ¬ (G b ≠ none ∧ Hf1 b = none) := fun z => z.1 (Same.free g2 e)
            simp only [if_neg this]
        cases h : F ds with
        | ok y =>
          rw [h] at q
          dsimp only at q
          split at q
          · rename_i ok
            intro v H' G' nv
            obtain ⟨F', b1, b2, b3, b4⟩ := back nv.f1 nv.f2 nv.f3
            obtain ⟨A, o, nd, hA⟩ := nv.o
            have nv' : NewV X.K Hf1 H1 H' F' v y := by
              refine ⟨nv.s, b1, b2, b3, A, ?_, nd, fun a ha => ⟨(hA a ha).1, by rw [b4 a (hA a ha).1]; exact (hA a ha).2⟩⟩
              unfold okR at ok
              split at ok
              · exact ⟨o.1, flat_fz o.2 ok⟩
              · obtain ⟨a, ws, es, B, e1, e2, e3, r, e4⟩ := o
                cases e2
                obtain ⟨rfl, fr⟩ := r.zs
                exact ⟨a, ws, _, [], e1, rfl, e3, OwnL.of_zs (flats_fz fr ok), e4⟩
              · cases ok
            exact q v H' F' b1 (st1.pushN nv')
          · exact q.elim
        | ex ee =>
          rw [h] at q
          dsimp only at q
          split at q
          · rename_i ok
            intro cls dx H' G' a1 a2 a3 a4 a5
            obtain ⟨F', b1, b2, b3, b4⟩ := back a2 a3 a4
            refine q cls dx H' F' b1 ⟨a5.1, .inl ?_⟩ (st1.freeze a1 b1 b2 b3)
            rcases a5.2 with z | ⟨_, _, _, _, _, _, z⟩
            · exact z
            · exact absurd (List.isEmpty_iff.mp ok) z
          · exact q.elim
        | st =>
          rw [h] at q
          exact q
      · exact q.elim
    · exact q.elim⟩⟩
end
end PV
namespace PV
open PySem PySem.Spec PyProof.Rows L2
/-! ### dicts whose keys are tuples of tuples -/
mutual
theorem nk_hash (w w' : World) : ∀ (d : D) (k : NestedKey), nkD d = some k → k.hash w = k.hash w'
  | .int i, k, h => by simp only [nkD] at h; cases h; rfl
  | .tuple ds, k, h => by
    simp only [nkD, Option.map_eq_some_iff] at h
    obtain ⟨ks, h1, rfl⟩ := h
    simp only [NestedKey.hash]
    rw [nka_hash w w' ds ks h1]
  | .none, k, h => by simp only [nkD] at h; cases h
  | .bool _, k, h => by simp only [nkD] at h; cases h
  | .str _, k, h => by simp only [nkD] at h; cases h
  | .list _, k, h => by simp only [nkD] at h; cases h
  | .dict _, k, h => by simp only [nkD] at h; cases h
theorem nka_hash (w w' : World) : ∀ (ds : List D) (ks : List NestedKey), nkA ds = some ks → NestedKey.hashes w ks = NestedKey.hashes w' ks
  | [], ks, h => by simp only [nkA] at h; cases h; rfl
  | d :: ds, ks, h => by
    simp only [nkA, Option.bind_eq_some_iff, Option.map_eq_some_iff] at h
    obtain ⟨k, h1, ks', h2, rfl⟩ := h
    simp only [NestedKey.hashes]
    rw [nk_hash w w' d k h1, nka_hash w w' ds ks' h2]
end
section
variable {K : PySem.W.Frag} {Hf : Hp} {h : Heap}
mutual
theorem Fz.nk (ok : ∀ a xs, Hf a = some (.tup xs) → ∃ its, Vals xs its ∧ IsTup h a its.toArray) : ∀ {v : V} {d : D}, Fz K Hf v d → ∀ {k : NestedKey} {u : Value}, nkD d = some k → RelV v u → NestedIs h k u
  | _, _, .int i, k, u, e, r => by
    simp only [nkD] at e
    cases e
    obtain ⟨t, rfl⟩ := r
    exact .int i t
  | _, _, .tup h0 rs, k, u, e, r => by
    simp only [nkD, Option.map_eq_some_iff] at e
    obtain ⟨ks, h1, rfl⟩ := e
    cases r
    obtain ⟨its, vs, ob, e1, e2, n, e3⟩ := ok _ _ h0
    exact .tup e1 e2 e3 (FzAll.nk ok rs h1 vs)
  | _, _, .non, k, u, e, r => by simp only [nkD] at e; cases e
  | _, _, .bl b, k, u, e, r => by simp only [nkD] at e; cases e
  | _, _, .str x, k, u, e, r => by simp only [nkD] at e; cases e
  | _, _, .lst _ _, k, u, e, r => by simp only [nkD] at e; cases e
  | _, _, .scr _ _, k, u, e, r => by simp only [nkD] at e; cases e
  | _, _, .kt _ _, k, u, e, r => by simp only [nkD] at e; cases e
  | _, _, .raw _, k, u, e, r => by simp only [nkD, rawD] at e; cases e
  | _, _, .dK _ _, k, u, e, r => by simp only [nkD] at e; cases e
  | _, _, .dT _ _, k, u, e, r => by simp only [nkD] at e; cases e
  | _, _, .dN _ _ _ _, k, u, e, r => by simp only [nkD] at e; cases e
  | _, _, .rng _ _ _, k, u, e, r => by simp only [nkD] at e; cases e
  | _, _, .ob _ _, k, u, e, r => by simp only [nkD] at e; cases e
theorem FzAll.nk (ok : ∀ a xs, Hf a = some (.tup xs) → ∃ its, Vals xs its ∧ IsTup h a its.toArray) : ∀ {vs : List V} {ds : List D}, FzAll K Hf vs ds → ∀ {ks : List NestedKey} {us : List Value}, nkA ds = some ks → Vals vs us → NestedAll h ks us
  | _, _, .nil, ks, us, e, r => by
    simp only [nkA] at e
    cases e
    cases r
    exact .nil
  | _, _, .cons h0 rs, ks, us, e, r => by
    simp only [nkA, Option.bind_eq_some_iff, Option.map_eq_some_iff] at e
    obtain ⟨k, h1, ks', h2, rfl⟩ := e
    cases r with
    | cons r rr => exact .cons (Fz.nk ok h0 h1 r) (FzAll.nk ok rs h2 rr)
end
end
def valN (us : NEs) (k : NestedKey) : Option V := (us.find? fun p => decide (p.1 = k)).map (·.2.2)
def EqN (p : NestedKey × Addr × V) (q : NestedKey × Addr × Value) : Prop := p.1 = q.1 ∧ p.2.1 = q.2.1 ∧ RelV p.2.2 q.2.2
theorem atN {us : NEs} {xs : List (NestedKey × Addr × Value)} (k : NestedKey) : Paired EqN us xs → (valN us k = none ∧ atKey xs k = none) ∨ ∃ v p, valN us k = some v ∧ atKey xs k = some p ∧ RelV v p.2
  | .nil => .inl ⟨rfl, rfl⟩
  | .cons (a := a) (b := b) r rs => by
    unfold valN atKey
    rw [List.find?_cons, List.find?_cons, ← r.1]
    by_cases c : a.1 = k
    · rw [decide_eq_true c]
      exact .inr ⟨a.2.2, b.2, rfl, rfl, r.2.2⟩
    · rw [decide_eq_false c]
      exact atN k rs
theorem EqN.app {us us' : NEs} {xs xs' : List (NestedKey × Addr × Value)} : Paired EqN us xs → Paired EqN us' xs' → Paired EqN (us ++ us') (xs ++ xs')
  | .nil, s => s
  | .cons h r, s => .cons h (EqN.app r s)
theorem EqN.mem {us : NEs} {xs : List (NestedKey × Addr × Value)} : Paired EqN us xs → ∀ q ∈ xs, ∃ p ∈ us, EqN p q
  | .nil, _, hq => nomatch hq
  | .cons (a := a) h r, q, hq => by
    rcases List.mem_cons.mp hq with e | hq
    · subst e; exact ⟨a, List.mem_cons_self, h⟩
    · obtain ⟨p, hp, e⟩ := EqN.mem r q hq
      exact ⟨p, List.mem_cons_of_mem _ hp, e⟩
theorem EqN.length {us : NEs} {xs : List (NestedKey × Addr × Value)} : Paired EqN us xs → us.length = xs.length
  | .nil => rfl
  | .cons _ r => congrArg (· + 1) (EqN.length r)
theorem nd_ok {P : Program} {w : World} {H : Hp} {h : Heap} {a : Addr} {us : NEs} (n : NdIs a us h) : ObjOk P w H h a (ND a us) := by
  have n' := n
  obtain ⟨_, _, _, xs, _, o, es, ep, ho, _⟩ := n'
  refine ⟨n, ⟨o, ho⟩, fun h1 h2 n1 k => ?_⟩
  obtain ⟨z1, z2, z3, xs, r, o, es, ep, ho, q⟩ := n1
  exact ⟨z1, z2, z3, xs, r, o, es, ep, k o ho, q⟩
section
variable {X : Cx} {pins : List (Addr × Obj)} {σ : St} {H : Hp} {s : Shared} {a ka : Addr} {r : Value} {d : V} {k : NestedKey} {A : Around} {E : Value → Shared → Prop} {us : NEs}
theorem nd_at (I : Inv X pins σ H s) (e : H a = some (ND a us)) : s.TypeIs (.ref a) "dict" ∧ (∀ b, Value.ref a = .ref b → ∃ ob, s.heap.get? b = some ob ∧ ob.dict = none) ∧ (a == sysModules) = false := by
  obtain ⟨⟨z1, z2, z3, xs, rr, o, es, ep, ho, ex, q⟩, _⟩ := I.hok a _ e
  refine ⟨⟨o, ho, ex.1⟩, fun b z => ?_, z1⟩
  cases z
  exact ⟨o, ho, ex.2.1⟩
theorem nd_setd {Q : Value → Shared → Prop} (I : Inv X pins σ H s) (e : H a = some (ND a us)) (hks : ∀ p ∈ us, NestedIs s.heap p.1 (.ref p.2.1)) (hk : NestedIs s.heap k (.ref ka)) (hd : k.depth ≤ 8) (hh : ∀ w w', k.hash w = k.hash w') (rd : RelV d r) (hl : us.length < sizeLine) (hu : A.in1.units + 8 < cLine)
    (h1 : ∀ v, valN us k = some v → ∀ (w' : Value) (s' : Shared), Inv X pins σ H s' → RelV v w' → Q w' s') (h2 : valN us k = none → ∀ (w' : Value) (s' : Shared), Inv X pins σ (upd H a (ND a (us ++ [(k, ka, d)]))) s' → RelV d w' → Q w' s') :
    wpAny (model X.prog X.w) A (call (.builtin "dict.setdefault") [.ref a, .ref ka, r]) Q E s := by
  obtain ⟨⟨z1, z2, z3, xs, rr, o, es, ep, ho, ex, hes, hkv, nd⟩, _⟩ := I.hok a _ e
  have dd : s.heap.DictOfH (nestedKind X.prog X.w) a xs := ⟨o, es, ep, ho, ex, hes, hkv _ _, fun x hx => by
    obtain ⟨p, hp, e1, e2, _⟩ := EqN.mem rr x hx
    rw [← e1, ← e2]
    exact ⟨hks p hp, z3 p hp⟩, nd⟩
  have hz : xs.length ≤ sizeLine := by rw [← EqN.length rr]; exact z2
  refine call_setdefault_heap (knd := nestedKind X.prog X.w) (k := k) (xs := xs) hu ⟨hk, hd⟩ z1 dd (fun p hp => ?_) (fun hn h' dd' hs => ?_) hz
  · rcases atN k rr with ⟨_, q⟩ | ⟨v, p', q1, q2, q3⟩
    · rw [q] at hp; cases hp
    · rw [hp] at q2
      cases q2
      exact h1 v q1 _ _ (I.tok _) q3
  · rcases atN k rr with ⟨q, _⟩ | ⟨v, p', q1, q2, q3⟩
    · obtain ⟨o', es', ep', ho', ex', hes', hkv', _, nd'⟩ := dd'
      refine h2 q _ _ (d_write (t' := s.toks + (nestedKind X.prog X.w).draws k) I (by rw [e]; exact True.intro) hs ⟨o', ho'⟩ (nd_ok ⟨z1, ?_, fun p hp => ?_, xs ++ [(k, ka, r)], EqN.app rr (.cons ⟨rfl, rfl, rd⟩ .nil), o', es', ep', ho', ex', hes', fun P w => ?_, ?_⟩)) rd
      · rw [List.length_append]; simp only [List.length_cons, List.length_nil]; omega
      · rcases List.mem_append.mp hp with hp | hp
        · exact z3 p hp
        · rw [List.mem_singleton.mp hp]; exact hd
      · rw [hkv', storedH_new hn, List.map_append, List.map_append, ← hkv X.prog X.w, ← hkv P w]
        show es.toList ++ [(⟨k.hash X.w, .ref ka, r⟩ : DictEntry)] = es.toList ++ [(⟨k.hash w, .ref ka, r⟩ : DictEntry)]
        rw [hh X.w w]
      · rw [storedH_new hn] at nd'; exact nd'
    · rw [hn] at q2; cases q2
end
/-- {} -/
def tDNewN : TE := fun _ H Q => ∀ p, H p = none → Q (.ref p) (upd H p (ND p []))
/-- d.setdefault(y, z) -/
def tSN (K : PySem.W.Frag) (td ty tx : TE) : TE := fun σ H Q => td σ H fun x H1 => ∃ a us0, x = .ref a ∧ H1 a = some (ND a us0) ∧ ty σ H1 fun y H2 => tx σ H2 fun z H3 => ∃ (us : NEs) (k : NestedKey) (ka : Addr) (Hf : Hp) (ks : List D) (kd : D),
  Same Hf H3 ∧ H3 a = some (ND a us) ∧ FzAll K Hf (us.map fun p => .ref p.2.1) ks ∧ us.map (fun p => some p.1) = ks.map nkD ∧ y = .ref ka ∧ Fz K Hf (.ref ka) kd ∧ nkD kd = some k ∧ k.depth ≤ 8 ∧ us.length < sizeLine ∧
  (∀ v, valN us k = some v → Q v H3) ∧ (valN us k = none → Q z (upd H3 a (ND a (us ++ [(k, ka, z)]))))
theorem nks_all {K : PySem.W.Frag} {Hf : Hp} {h : Heap} (ok : ∀ a xs, Hf a = some (.tup xs) → ∃ its, Vals xs its ∧ IsTup h a its.toArray) : ∀ {us : NEs} {ks : List D}, FzAll K Hf (us.map fun p => .ref p.2.1) ks → us.map (fun p => some p.1) = ks.map nkD → ∀ p ∈ us, NestedIs h p.1 (.ref p.2.1)
  | [], _, _, _, _, hp => nomatch hp
  | u :: us, [], h0, _, _, _ => by cases h0
  | u :: us, kd :: ks, .cons h0 r, e, p, hp => by
    rw [List.map_cons, List.map_cons] at e
    injection e with e1 e2
    rcases List.mem_cons.mp hp with z | hp
    · subst z
      exact Fz.nk ok h0 e1.symm rfl
    · exact nks_all ok r e2 p hp
section
variable {X : Cx} {o e f : Expr} {td ty tx : TE} {apos cpos pos : Pos}
theorem pe_dnewN : PE X (.Dict [] [] pos) tDNewN := ⟨fun pins s σ H Q I h =>
  wpAny_Dict_empty ⟨.ref s.heap.objs.size, _, I.laid (a := s.heap.objs.size) (o := ND s.heap.objs.size []) (t' := s.toks) (fun _ _ q => Heap.get?_push_of_some _ q) (Nat.le_refl _)
    (nd_ok ⟨beq_eq_false_iff_ne.mpr (Ne.symm (Nat.ne_of_lt I.big)), Nat.zero_le _, (fun p hp => nomatch hp), [], .nil, _, #[], 0, Heap.get?_push_size _ rfl, ⟨rfl, rfl, rfl⟩, rfl, fun _ _ => rfl, List.nodup_nil⟩), rfl, h _ (I.hok.fresh (Nat.le_refl _))⟩⟩
theorem pe_setdN (hu : X.A.units + 64 < cLine) (ho : PE X o td) (he : PE X e ty) (hf : PE X f tx) (m : M2 X o "setdefault" apos e f cpos) : PE X (.Call (.Attribute o "setdefault" apos) [e, f] [] cpos) (tSN X.K td ty tx) := by
  refine ⟨fun pins s σ H Q I h => ?_⟩
  refine wpAny_Call_method m.base m.few m.line PySem.F.plainAttrs_dict PySem.F.slot_dict_setdefault PySem.F.type_dict_setdefault (thn (ho.run pins s σ H _ I h) fun u s1 ⟨x, H1, I1, rx, a, us0, ex, d, q1⟩ => ?_)
  subst ex
  obtain rfl : u = Value.ref a := rx
  obtain ⟨t1, t2, _⟩ := nd_at I1 d
  refine ⟨t1, t2, ?_⟩
  rw [m.trees]
  refine Calls.callWith_builtin rfl (Calls.evalArgs_plain (Calls.spliced_cons (thn (he.run pins s1 σ H1 _ I1 q1) fun iv s2 ⟨y, H2, I2, ry, q2⟩ =>
    Calls.spliced_cons (thn (hf.run pins s2 σ H2 _ I2 q2) fun fv s3 ⟨z, H3, I3, rz, us, k, ka, Hf, ks, kd, sf, ea, fk, ek, ey, fz, hk, hd, hl, q3, q4⟩ => Calls.spliced_nil ?_))))
  subst ey
  obtain rfl : iv = Value.ref ka := ry
  have ok : ∀ a xs, Hf a = some (.tup xs) → ∃ its, Vals xs its ∧ IsTup s3.heap a its.toArray := fun a xs h0 => (I3.hok a _ (sf _ _ h0)).2
  exact nd_setd I3 ea (nks_all ok fk ek) (Fz.nk ok fz hk rfl) hd (fun w w' => nk_hash w w' _ _ hk) rz hl (by rw [Around.in1_units]; omega) (fun v hv w' s4 I4 rw' => ⟨v, _, I4, rw', q3 v hv⟩) fun hn w' s4 I4 rw' => ⟨z, _, I4, rw', q4 hn⟩
end
/-! at a slot -/
section
variable {g : Gh} {Hf H : Hp} {σ : St} {Γ : Ev} {fr : List (V × Va)}
theorem StOk.getQ {i : Nat} {x : D} (h : StOk g Hf H σ Γ fr) (hi : Γ[i]? = some (some (.q, x))) : ∃ a us ks ds, σ[i]? = some (some (.ref a)) ∧ x = .dict (nRows ks ds) ∧ H a = some (ND a us) ∧ FzAll g.K Hf (us.map fun p => .ref p.2.1) ks ∧ FzAll g.K Hf (us.map (·.2.2)) ds ∧ us.map (fun p => some p.1) = ks.map nkD := by
  obtain ⟨ω, h⟩ := h
  obtain ⟨v, e, A, o, _⟩ := h.slots i _ hi
  obtain ⟨a, us, ks, ds, e1, e2, e3, r, r', e5, e4⟩ := o
  dsimp only at e1 e2
  subst e1
  exact ⟨a, us, ks, ds, e, e2, e3, r, r', e5⟩
theorem StOk.mutQ {i : Nat} {x : D} {a : Addr} {us' : NEs} {ks' ds' : List D} (h : StOk g Hf H σ Γ fr) (hi : Γ[i]? = some (some (.q, x))) (ha : σ[i]? = some (some (.ref a))) (hk : FzAll g.K Hf (us'.map fun p => .ref p.2.1) ks') (hv : FzAll g.K Hf (us'.map (·.2.2)) ds') (he : us'.map (fun p => some p.1) = ks'.map nkD) :
    StOk g Hf (upd H a (ND a us')) σ (Γ.set i (some (.q, .dict (nRows ks' ds')))) fr := by
  obtain ⟨ω, h⟩ := h
  obtain ⟨v, e, A, o, nd, hA⟩ := h.slots i _ hi
  obtain ⟨a', us, ks, ds, e1, e2, e3, r, r', e5, e4⟩ := o
  dsimp only at e1 e2
  subst e1
  rw [e] at ha
  cases ha
  have wa : ω a = some (.inl i) := hA a (by rw [e4]; exact List.mem_cons_self)
  have ow := h.own a _ wa
  have k : ∀ b j, j ≠ Sum.inl i → ω b = some j → upd H a (ND a us') b = H b := fun b j hj e => upd_ne (fun z => hj (by rw [z, wa] at e; exact (Option.some.inj e).symm))
  refine ⟨ω, fun b o e => ?_, fun b o e => ?_, h.old, h.new, fun b j e => ⟨(h.own b j e).1, (h.own b j e).2.1, ?_⟩, by rw [List.length_set]; exact h.len, fun j y e' => ?_, h.fr.mono (Same.refl _) fun b j _ e => ⟨k b (.inr j) (fun z => nomatch z) e, e⟩⟩
  · rw [upd_ne (ne_of_none e ow.1)]; exact h.base b o e
  · rw [upd_ne (ne_of_none e ow.2.1)]; exact h.sub b o e
  · by_cases z : b = a
    · subst z; rw [upd_same]; exact fun z => nomatch z
    · rw [upd_ne z]; exact (h.own b j e).2.2
  · by_cases hj : i = j
    · subst hj
      rw [List.getElem?_set_self (List.getElem?_eq_some_iff.mp hi).1] at e'
      cases e'
      exact ⟨.ref a, e, [a], ⟨a, us', ks', ds', rfl, rfl, upd_same, hk, hv, he, rfl⟩, by simp, fun b hb => by rw [List.mem_singleton.mp hb]; exact wa⟩
    · rw [List.getElem?_set_ne hj] at e'
      obtain ⟨w, e2, q⟩ := h.slots j y e'
      exact ⟨w, e2, q.mono (Same.refl _) fun b e => ⟨k b _ (fun z => by cases z; exact hj rfl) e, e⟩⟩
end
theorem NewV.nd {K : PySem.W.Frag} {Hf H : Hp} {p : Addr} (s : Same Hf H) (n : H p = none) : NewV K Hf H (upd H p (ND p [])) Hf (.ref p) (.q, .dict (nRows [] [])) :=
  ⟨same_new n, Same.refl _, s.trans (same_new n), fun _ n => .inl n, [p], ⟨p, [], [], [], rfl, rfl, upd_same, .nil, .nil, rfl, rfl⟩, by simp, fun a ha => by rw [List.mem_singleton.mp ha]; exact ⟨n, Same.free s n⟩⟩
def vNct0 : Ev → Out Va := fun Γ => .ok (.q, .dict (nRows [] [])) Γ
def ndic (o : Option (Option Va)) : Option (List (D × D)) := match o with
  | some (some (.q, .dict ((.bool false, .none) :: rs))) => some rs
  | _ => none
theorem ndic_in {o : Option (Option Va)} {rs : List (D × D)} (h : ndic o = some rs) : o = some (some (.q, .dict ((.bool false, .none) :: rs))) := by
  unfold ndic at h
  split at h
  · cases h; rfl
  · cases h
def lookN (rs : List (D × D)) (k : NestedKey) : Option D := (rs.find? fun p => decide (nkD p.1 = some k)).map (·.2)
def setdE (i : Nat) (rs : List (D × D)) (k x : D) (Γ : Ev) : Out D := match k with
  | .tuple ts => (match nkD (.tuple ts) with
    | some kk => if kk.depth ≤ 8 ∧ rs.length < 16777216 then (match lookN rs kk with
      | some y => .ok y Γ
      | none => .ok x (Γ.set i (some (.q, .dict ((.bool false, .none) :: (rs ++ [(k, x)])))))) else .st
    | none => .st)
  | _ => .st
def fSN (i : Nat) (fk fx : Ev → Out D) : Ev → Out D := fun Γ => match ndic (Γ[i]?) with
  | some _ => (fk Γ).bind fun k Γ1 => (fx Γ1).bind fun x Γ2 => (match ndic (Γ2[i]?) with
    | some rs => setdE i rs k x Γ2
    | none => .st)
  | none => .st
theorem lookN_ok {K : PySem.W.Frag} {Hf : Hp} (kk : NestedKey) : ∀ {us : NEs} {ks ds : List D}, FzAll K Hf (us.map (·.2.2)) ds → us.map (fun p => some p.1) = ks.map nkD → (valN us kk = none ∧ lookN (ks.zip ds) kk = none) ∨ ∃ v y, valN us kk = some v ∧ lookN (ks.zip ds) kk = some y ∧ Fz K Hf v y
  | [], [], [], _, _ => .inl ⟨rfl, rfl⟩
  | [], [], _ :: _, h, _ => by cases h
  | [], _ :: _, _, _, e => by simp at e
  | _ :: _, [], _, _, e => by simp at e
  | _ :: _, _ :: _, [], h, _ => by cases h
  | u :: us, k :: ks, d :: ds, h, e => by
    rw [List.map_cons] at h
    cases h with
    | cons h hr =>
      rw [List.map_cons, List.map_cons] at e
      injection e with e1 e2
      unfold valN lookN
      rw [List.zip_cons_cons, List.find?_cons, List.find?_cons, ← e1]
      by_cases c : u.1 = kk
      · rw [decide_eq_true c, decide_eq_true (by rw [c])]
        exact .inr ⟨_, _, rfl, rfl, h⟩
      · rw [decide_eq_false c, decide_eq_false (fun z => c (Option.some.inj z))]
        exact lookN_ok kk hr e2
theorem zip_len {us : NEs} {ks ds : List D} {K : PySem.W.Frag} {Hf : Hp} (h : FzAll K Hf (us.map (·.2.2)) ds) (e : us.map (fun p => some p.1) = ks.map nkD) : ks.length = ds.length ∧ us.length = ds.length := by
  have h1 := h.length
  have h2 := congrArg List.length e
  rw [List.length_map] at h1
  rw [List.length_map, List.length_map] at h2
  omega
section
variable {X : Cx} {W : WX} {o e f : Expr} {x : Str} {p apos cpos pos : Pos} {fk fx : Ev → Out D}
theorem pv_nct0 : PV X W (.Dict [] [] pos) vNct0 := ⟨fun f0 h0 => pe_dnewN.imp fun σ H Q ⟨Hf, Γ, fr, st, p⟩ a n => p _ _ _ (Same.refl _) (st.pushN (NewV.nd st.sub n))⟩
theorem pf_sn (i : Nat) (hu : X.A.units + 64 < cLine) (hk : PF X W e fk) (hx : PF X W f fx) (m : M2 X (.Name x p) "setdefault" apos e f cpos) (hN : X.N[i]? = some x := by rfl) (hv : Vis X.env.scope x := by first | exact Or.inl rfl | exact Or.inr (Or.inl rfl) | exact Or.inr (Or.inr rfl)) (hd : (x == ("__debug__" : Str)) = false := by decide)
    (hcd : (x == ("__classdict__" : Str)) = false := by decide) : PF X W (.Call (.Attribute (.Name x p) "setdefault" apos) [e, f] [] cpos) (fSN i fk fx) :=
  ⟨fun f0 h0 => (pe_setdN hu (pe_var hN hv hd hcd) (hk.run f0 h0) (hx.run f0 h0) m).imp fun σ H Q ⟨Hf, Γ, fr, st, p⟩ => by
    unfold fSN at p
    split at p
    · rename_i rs0 e0
      obtain ⟨a, us0, ks0, ds0, e1, _, e2, _⟩ := st.getQ (ndic_in e0)
      refine ⟨.ref a, e1, a, us0, rfl, e2, Hf, Γ, fr, st, Post.bind p fun k Γ1 _ y H1 Hf1 s1 ⟨st1, zk⟩ q => ⟨Hf1, Γ1, fr, st1, Post.bind q fun z Γ2 _ u H2 Hf2 s2 ⟨st2, zx⟩ q => ?_⟩⟩
      split at q
      · rename_i rs e3
        obtain ⟨a', us, ks, ds, e4, e5, e6, r, r', e7⟩ := st2.getQ (ndic_in e3)
        rw [e1] at e4
        cases e4
        have e5 : rs = ks.zip ds := by
          unfold nRows at e5
          injection e5 with e5
          injection e5
        subst e5
        have zk := zk.mono s2
        cases k with
        | tuple ts =>
          unfold setdE at q
          dsimp only at q
          split at q
          · rename_i kk hkk
            split at q
            · rename_i c
              have hl := zip_len r' e7
              rw [List.length_zip, hl.1, Nat.min_self] at c
              have hka : ∃ ka, y = .ref ka := by
                cases zk with
                | tup _ _ => exact ⟨_, rfl⟩
              obtain ⟨ka, rfl⟩ := hka
              refine ⟨us, kk, ka, Hf2, ks, .tuple ts, st2.sub, e6, r, e7, rfl, zk, hkk, c.1, by unfold sizeLine; omega, fun v hv => ?_, fun hn => ?_⟩
              · rcases lookN_ok kk r' e7 with ⟨q1, _⟩ | ⟨v', y', q1, q2, q3⟩
                · rw [q1] at hv; cases hv
                · rw [hv] at q1
                  cases q1
                  rw [q2] at q
                  exact q v H2 Hf2 (Same.refl _) ⟨st2, q3⟩
              · rcases lookN_ok kk r' e7 with ⟨_, q2⟩ | ⟨v', y', q1, q2, q3⟩
                · rw [q2] at q
                  have := st2.mutQ (us' := us ++ [(kk, ka, u)]) (ks' := ks ++ [.tuple ts]) (ds' := ds ++ [z]) (ndic_in e3) e1 (by rw [List.map_append]; exact r.append (.cons zk .nil)) (by rw [List.map_append]; exact r'.append (.cons zx .nil)) (by rw [List.map_append, List.map_append, e7]; simp [hkk])
                  refine q u _ Hf2 (Same.refl _) ⟨?_, zx⟩
                  unfold nRows at this
                  rw [List.zip_append (by omega)] at this
                  exact this
                · rw [hn] at q1; cases q1
            · exact q.elim
          · exact q.elim
        | _ => exact q.elim
      · exact q.elim
    · exact p.elim⟩
end
end PV
namespace PV
open PySem PySem.Spec PyProof.Rows L2
/-! ### an item taken out of a new tuple, of a new list -/
theorem OwnC.pick {K : PySem.W.Frag} {Hf H : Hp} : ∀ {r : Sh} {vs : List V} {ds : List D} {A : List Addr} {k : Nat} {s : Sh} {d : D}, OwnC K Hf H r vs ds A → atC r k = some s → ds[k]? = some d → ∃ v B, vs[k]? = some v ∧ Own K Hf H s v d B ∧ B.Sublist A := by
  intro r
  induction r with
  | c s0 r _ ih =>
    intro vs ds A k s d h e hd
    obtain ⟨v, vs', d0, ds', A1, A2, rfl, rfl, h1, h2, rfl⟩ := h
    cases k with
    | zero =>
      unfold atC at e
      cases e
      simp only [List.getElem?_cons_zero] at hd
      cases hd
      exact ⟨v, A1, rfl, h1, List.sublist_append_left _ _⟩
    | succ k =>
      unfold atC at e
      obtain ⟨w, B, q1, q2, q3⟩ := ih h2 e (by simpa using hd)
      exact ⟨w, B, by simpa using q1, q2, q3.trans (List.sublist_append_right _ _)⟩
  | _ => intro vs ds A k s d h e hd; first | (unfold atC at e; cases e; done) | (cases e; done) | exact h.elim
theorem OwnC.length {K : PySem.W.Frag} {Hf H : Hp} : ∀ {r : Sh} {vs : List V} {ds : List D} {A : List Addr}, OwnC K Hf H r vs ds A → vs.length = ds.length := by
  intro r
  induction r with
  | c s0 r _ ih =>
    intro vs ds A h
    obtain ⟨v, vs', d0, ds', A1, A2, rfl, rfl, h1, h2, rfl⟩ := h
    rw [List.length_cons, List.length_cons, ih h2]
  | u => intro vs ds A h; exact h.2.length
  | _ => intro vs ds A h; exact h.elim
def vIxT (f : Ev → Out Va) (fi : Ev → Out D) : Ev → Out Va := fun Γ => (f Γ).bind fun x Γ1 => (fi Γ1).bind fun n Γ2 => match x, n with
  | (.t r, .tuple ds), .int j => (match ixN ds.length j with
    | some k => (match ds[k]?, atC r k with | some d, some s => .ok (s, d) Γ2 | _, _ => .st)
    | none => .st)
  | _, _ => .st
def vIxV (f : Ev → Out Va) (fi : Ev → Out D) : Ev → Out Va := fun Γ => (f Γ).bind fun x Γ1 => (fi Γ1).bind fun n Γ2 => match idx x n with | some (_, y) => .ok y Γ2 | none => .st
theorem StOk.drop2 {g : Gh} {Hf H : Hp} {σ : St} {Γ : Ev} {fr : List (V × Va)} {v w : V} {x y : Va} (h : StOk g Hf H σ Γ ((v, x) :: (w, y) :: fr)) : StOk g Hf H σ Γ ((v, x) :: fr) :=
  StOk.repack0 (T := [(v, x), (w, y)]) (T' := [(v, x)]) h fun A f nd => by
    obtain ⟨A1, A2, rfl, o1, _⟩ := foot2_of f
    exact ⟨A1, foot1 o1, (List.nodup_append.mp nd).1, fun a ha => List.mem_append_left _ ha⟩
section
variable {X : Cx} {W : WX} {e ix : Expr} {spos : Pos} {fe : Ev → Out Va} {fi : Ev → Out D}
theorem pv_ixV (ha : PV X W e fe) (hi : PF X W ix fi) (hp : PlainIx ix) : PV X W (.Subscript e ix spos) (vIxV fe fi) := ⟨fun f0 h0 => (pe_ix ix_seq (ha.run f0 h0) (hi.run f0 h0) hp).imp fun σ H Q ⟨Hf, Γ, fr, st, p⟩ => by
  refine ⟨Hf, Γ, fr, st, Post.bind p fun x Γ1 _ v H1 Hf1 s1 st1 q => ⟨Hf1, Γ1, (v, x) :: fr, st1, ?_⟩⟩
  cases hf : fi Γ1 with
  | st => rw [hf] at q; exact q.elim
  | ex ee Γ2 => rw [hf] at q; exact PEx.push q
  | ok n Γ2 =>
    rw [hf] at q
    intro y H2 Hf2 s2 ⟨st2, z2⟩
    have q := Post.mono q s2
    dsimp only [Out.bind] at q
    split at q
    · rename_i k yy e3
      obtain ⟨b, rd, st3⟩ := st2.lend e3
      exact rd.tix (z2.mono st2.sub) (q (.ref b) H2 Hf2 (Same.refl _) st3.drop2)
    · exact q.elim⟩
theorem pv_ixT (ha : PV X W e fe) (hi : PF X W ix fi) (hp : PlainIx ix) : PV X W (.Subscript e ix spos) (vIxT fe fi) := ⟨fun f0 h0 => (pe_ix ix_seq (ha.run f0 h0) (hi.run f0 h0) hp).imp fun σ H Q ⟨Hf, Γ, fr, st, p⟩ => by
  refine ⟨Hf, Γ, fr, st, Post.bind p fun x Γ1 _ v H1 Hf1 s1 st1 q => ⟨Hf1, Γ1, (v, x) :: fr, st1, ?_⟩⟩
  cases hf : fi Γ1 with
  | st => rw [hf] at q; exact q.elim
  | ex ee Γ2 => rw [hf] at q; exact PEx.push q
  | ok n Γ2 =>
    rw [hf] at q
    intro y H2 Hf2 s2 ⟨st2, z2⟩
    have q := Post.mono q s2
    dsimp only [Out.bind] at q
    split at q
    · rename_i r ds j _ _
      split at q
      · rename_i k hk
        split at q
        · rename_i d s hd hs
          obtain ⟨A, o, nd⟩ := st2.topO
          obtain ⟨a, vs, ds', rfl, e2, e3, h⟩ := id o
          cases e2
          obtain ⟨w, B, q1, q2, q3⟩ := h.pick hs hd
          have st3 : StOk (gh X W f0 h0).h Hf2 H2 σ Γ2 ((w, (s, d)) :: fr) := StOk.repack0 (T := [(.ref a, (.t r, .tuple ds))]) (T' := [(w, (s, d))]) st2 fun A' f nd' => by
            obtain ⟨a', vs', ds', z1, z2, z3, h'⟩ := foot1_of f
            cases z1
            cases z2
            rw [e3] at z3
            cases z3
            obtain ⟨w', B', p1, p2, p3⟩ := h'.pick hs hd
            rw [q1] at p1
            cases p1
            exact ⟨B', foot1 p2, nd'.sublist p3, fun c hc => p3.mem hc⟩
          have hj : y = .int j := by cases z2; rfl
          subst hj
          have hl : vs.length = ds.length := h.length
          refine .inr (.inl ⟨a, vs, j, w, rfl, rfl, SqT.of (st2.sub _ _ e3), ?_, q w H2 Hf2 (Same.refl _) st3⟩)
          unfold atI
          rw [hl, hk]
          exact q1
        · exact q.elim
      · exact q.elim
    · exact q.elim⟩
end
end PV
namespace PV
open PySem PySem.Spec PyProof.Rows L2
/-! ### x.append(y); y = f(.., y, ..): y's list is lent to the call, then it is the last item of x -/
def sAC (ix iy : Nat) (f : Ev → Out Va) : Ev → SO := fun Γ => match Γ[ix]?, Γ[iy]? with
  | some (some (.l (.n s), .list ds)), some (some y0) => if (y0.1 = s ∧ stru s = true) ∧ flatD y0.2 = false ∧ ds.length < 16777216 then sB (f (Γ.set ix none)) fun r Γ2 => (match Γ2[iy]? with
      | some (some y1) => if y1.1 = s then .nx ((Γ2.set iy (some r)).set ix (some (.l (.n s), .list (ds ++ [y1.2])))) else .st
      | _ => .st) else .st
  | _, _ => .st
theorem StOk.swap2 {g : Gh} {Hf H : Hp} {σ : St} {Γ : Ev} {fr : List (V × Va)} {p q : V × Va} (h : StOk g Hf H σ Γ (p :: q :: fr)) : StOk g Hf H σ Γ (q :: p :: fr) := by
  obtain ⟨v, x⟩ := p
  obtain ⟨w, y⟩ := q
  exact StOk.repack0 (T := [(v, x), (w, y)]) (T' := [(w, y), (v, x)]) h fun A f nd => by
    obtain ⟨A1, A2, rfl, o1, o2⟩ := foot2_of f
    exact ⟨A2 ++ A1, foot2 o2 o1, (List.perm_append_comm.nodup_iff).mp nd, fun a ha => by rw [List.mem_append] at ha ⊢; exact ha.symm⟩
theorem StOk.swap23 {g : Gh} {Hf H : Hp} {σ : St} {Γ : Ev} {fr : List (V × Va)} {p q r : V × Va} (h : StOk g Hf H σ Γ (p :: q :: r :: fr)) : StOk g Hf H σ Γ (p :: r :: q :: fr) := by
  obtain ⟨v, x⟩ := p
  obtain ⟨w, y⟩ := q
  obtain ⟨u, z⟩ := r
  exact StOk.repack0 (T := [(v, x), (w, y), (u, z)]) (T' := [(v, x), (u, z), (w, y)]) h fun A f nd => by
    cases f with
    | @cons _ _ A1 B _ o1 f =>
      obtain ⟨A2, A3, rfl, o2, o3⟩ := foot2_of f
      exact ⟨A1 ++ (A3 ++ A2), .cons o1 (foot2 o3 o2), ((List.Perm.append_left A1 List.perm_append_comm).nodup_iff).mp nd, fun a ha => by simp only [List.mem_append] at ha ⊢; rcases ha with h | h | h <;> simp [h]⟩
section
variable {X : Cx} {W : WX} {e : Expr} {x y : Str} {px py px2 apos cpos pos pos2 tpos : Pos} {rest : List Stmt} {f : Ev → Out Va} {b : Ev → SO}
theorem pss_ac (ix iy : Nat) (hN : X.N.Nodup) (hxy : ix ≠ iy) (hx : X.N[ix]? = some x) (hy : X.N[iy]? = some y) (ly : Loc X.env.scope y) (hf : X.fn y = true ∨ X.env.scope.names.lookup y = some .local) (h : PV X W e f) (hr : PSts X W rest b)
    (hs1 : swapsWith (.Call (.Attribute (.Name x px) "append" apos) [.Name y py] [] cpos) none pos.line X.env = pure false := by rfl)
    (hs2 : swapsWith e (some (.Name y tpos)) pos2.line X.env = pure false := by rfl)
    (vx : Vis X.env.scope x := by first | exact Or.inl rfl | exact Or.inr (Or.inl rfl) | exact Or.inr (Or.inr rfl)) (dx : (x == ("__debug__" : Str)) = false := by decide) (cx : (x == ("__classdict__" : Str)) = false := by decide)
    (vy : Vis X.env.scope y := by first | exact Or.inl rfl | exact Or.inr (Or.inl rfl) | exact Or.inr (Or.inr rfl)) (dy : (y == ("__debug__" : Str)) = false := by decide) (cy : (y == ("__classdict__" : Str)) = false := by decide)
    (hbase : attributeBase (.Name x px) "append" X.env (eval (.Name x px) X.env) = eval (.Name x px) X.env := by rfl)
    (hfew : ((backTo cpos (starEach [.Name y py] X.env)).all (fun x => !x.1) && (backToKw cpos (keywordEach [] X.env)).all (fun x => x.1.isSome) && decide (([Expr.Name y py] : List Expr).length + ([] : List Keyword).length + (if ([] : List Keyword).isEmpty then 0 else 1) < 30)) = true := by rfl)
    (hline : (apos.endLine == cpos.line) = true := by rfl) (hst : starEach [.Name y py] X.env = (false, eval (.Name y py) X.env) :: starEach [] X.env := by rfl) (hplain : (backTo cpos (starEach [] X.env)).any (·.1) = false := by rfl) :
    PSts X W (.Expr (.Call (.Attribute (.Name x px) "append" apos) [.Name y py] [] cpos) pos :: .Assign [.Name y tpos] e pos2 :: rest) (sSeq (sAC ix iy f) b) :=
  ⟨fun f0 h0 => (pss_cons (ps_expr (pe_bm PySem.F.plainAttrs_list PySem.F.slot_list_append PySem.F.type_list_append mt_append (pe_var hx vx dx cx) (pa_cons (pe_var hy vy dy cy) pa_nil hst) hbase hfew hline hst hplain) hs1)
    (pss_cons (ps_set hN hy ly (h.run f0 h0) hs2 hf) (hr.run f0 h0))).imp fun D σ H ⟨Hf, Γ, fr, st, p⟩ => by
    unfold sSeq at p
    generalize hq : sAC ix iy f Γ = o at p
    unfold sAC at hq
    split at hq
    · rename_i s ds y0 e1 e2
      split at hq
      · rename_i c
        obtain ⟨v, q1, st1⟩ := st.take e1
        obtain ⟨w, q2, stw⟩ := st.take e2
        have hv : ∃ R, v = .ref R := by
          obtain ⟨A, o, _⟩ := st1.topO
          obtain ⟨b, _, _, _, e, _⟩ := o
          exact ⟨b, e⟩
        obtain ⟨R, rfl⟩ := hv
        have hw : ∃ A, w = .ref A := by
          obtain ⟨A, o, _⟩ := stw.topO
          dsimp only at o
          rw [c.1.1] at o
          exact o.isRef c.1.2
        obtain ⟨Aw, rfl⟩ := hw
        have hit : asItem (.n s) (.z, rawD Aw) = some (rawD Aw) := by
          unfold asItem
          rw [if_neg (fun z => by cases z)]
          dsimp only
          by_cases z : Sh.z = s
          · rw [if_pos z]
          · rw [if_neg z, if_pos ⟨rfl, rfl⟩]
        have st2 := st1.push (v := .ref Aw) (.raw Aw)
        obtain ⟨vs, hR, hl, st3⟩ := StOk.appTop st2 hit
        refine ⟨_, q1, .inl ⟨rfl, vs, SqL.of hR⟩, _, q2, R, vs, .ref Aw, rfl, rfl, hR, by rw [hl, sizeLine_eq]; exact c.2.2, ?_⟩
        refine ⟨Hf, Γ.set ix none, _, st3, ?_⟩
        cases hfr : f (Γ.set ix none) with
        | st =>
          rw [hfr] at hq
          subst hq
          exact p.elim
        | ex ee Γ2 =>
          rw [hfr] at hq
          subst hq
          exact PEx.push (p σ)
        | ok r Γ2 =>
          rw [hfr] at hq
          intro v H2 Hf2 s2 st4
          unfold sB at hq
          dsimp only at hq
          split at hq
          · rename_i y1 e4
            split at hq
            · rename_i c2
              subst hq
              obtain ⟨w', q3, st5⟩ := StOk.take st4 e4
              rw [q2] at q3
              cases q3
              obtain ⟨y11, y12⟩ := y1
              dsimp only at c2
              subst c2
              have hi : idx (.l (.n y11), .list (ds ++ [y0.2])) (.int (ds.length : Nat)) = some (ds.length, (y11, y0.2)) := by
                show (if stru y11 = true then (ixN (ds ++ [y0.2]).length (ds.length : Nat)).bind _ else none) = _
                rw [if_pos c.1.2, show ixN (ds ++ [y0.2]).length ((ds.length : Nat) : Int) = some ds.length by unfold ixN; rw [List.length_append, if_pos (by omega), if_pos (by simp only [List.length_cons, List.length_nil]; omega)]; rfl]
                show ((ds ++ [y0.2])[ds.length]?).bind _ = _
                rw [List.getElem?_append_right (Nat.le_refl _), Nat.sub_self]
                show (if flatD y0.2 = true then _ else _) = _
                rw [c.2.1]; rfl
              have hs : ∀ d : PyData, (ds ++ [y0.2]).set ds.length d = ds ++ [d] := fun d => by
                rw [List.set_append_right _ _ (Nat.le_refl _), Nat.sub_self]; rfl
              have st6 := st5.swap23
              have st7 := StOk.unlend (v := .ref R) (b := Aw) (d := y12) hi (by
                show StOk _ _ _ _ _ ((.ref Aw, (y11, y12)) :: (.ref R, (.l (.n y11), .list ((ds ++ [y0.2]).set ds.length (rawD Aw)))) :: _)
                rw [hs]
                exact st6)
              have st8 : StOk (gh X W f0 h0).h Hf2 H2 σ (Γ2.set iy none) ((.ref R, (.l (.n y11), .list (ds ++ [y12]))) :: (v, r) :: fr) := by
                have z : putAt (.l (.n y11), .list (ds ++ [y0.2])) ds.length y12 = (.l (.n y11), .list (ds ++ [y12])) := by
                  show (Sh.l (.n y11), PyData.list ((ds ++ [y0.2]).set ds.length y12)) = _
                  rw [hs]
                rw [z] at st7
                exact st7
              have st9 := st8.swap2.store iy
              rw [List.set_set] at st9
              have st10 := st9.putBack (i := ix) (by rw [List.getElem?_set_ne (Ne.symm hxy)]; exact q1)
              exact ⟨Hf2, _, fr, st10, PostS.mono p s2⟩
            · subst hq
              exact p.elim
          · subst hq
            exact p.elim
      · subst hq
        exact p.elim
    · subst hq
      exact p.elim⟩
end
end PV
namespace PV
open PySem PySem.Spec PyProof.Rows L2
/-! ### xs.reverse(), items of any shape -/
theorem OwnL.rev {R : V → D → List Addr → Prop} : ∀ {vs : List V} {ds : List D} {A : List Addr}, OwnL R vs ds A → ∃ A', OwnL R vs.reverse ds.reverse A' ∧ A'.Perm A
  | _, _, _, .nil => ⟨[], .nil, .refl _⟩
  | _, _, _, .cons (A := A) (B := B) h r => by
    obtain ⟨A', h1, h2⟩ := r.rev
    have h3 := h1.append (.cons h .nil)
    rw [List.append_nil] at h3
    refine ⟨A' ++ A, by rw [List.reverse_cons, List.reverse_cons]; exact h3, ?_⟩
    exact (List.perm_append_comm).trans (h2.append_left A)
def fRv (i : Nat) (p : Pl) : Ev → Out D := fun Γ => (p Γ).bind fun a Γ1 => match a.1 with
  | (.l _, .list ds) => .ok .none (Γ1.set i (some (a.2 (.list ds.reverse))))
  | _ => .st
theorem StOk.revTop {g : Gh} {Hf H : Hp} {σ : St} {Γ : Ev} {fr : List (V × Va)} {b : Addr} {s : Sh} {ds : List D} (h : StOk g Hf H σ Γ ((.ref b, (.l s, .list ds)) :: fr)) :
    ∃ vs, H b = some (.lst vs) ∧ StOk g Hf (upd H b (.lst vs.reverse)) σ Γ ((.ref b, (.l s, .list ds.reverse)) :: fr) := by
  have hb : ∃ vs, H b = some (.lst vs) := by
    obtain ⟨A, o, _⟩ := h.topO
    obtain ⟨a, vs, ds', B, e1, e2, e3, r, e4⟩ := o
    cases e1
    exact ⟨vs, e3⟩
  obtain ⟨vs, e3⟩ := hb
  refine ⟨vs, e3, ?_⟩
  refine StOk.repack (T := [(.ref b, (.l s, .list ds))]) (T' := [(.ref b, (.l s, .list ds.reverse))]) h fun A f nd => ?_
  obtain ⟨a, vs', ds', B, e1, e2, e3', r, rfl⟩ := foot1_of f
  cases e1
  cases e2
  rw [e3] at e3'
  cases e3'
  obtain ⟨nb, nB⟩ := List.nodup_cons.mp nd
  have up : ∀ c, c ≠ b → upd H b (.lst vs.reverse) c = H c := fun c hc => upd_ne hc
  have r' : OwnL (Own g.K Hf (upd H b (.lst vs.reverse)) s) vs ds B := r.imp fun v d C hC q => q.keep (Same.refl _) fun c hc => up c fun z => nb (z ▸ hC c hc)
  obtain ⟨B', r2, pm⟩ := r'.rev
  refine ⟨b :: B', foot1 ⟨b, _, _, _, rfl, rfl, upd_same, r2, rfl⟩, ?_, fun c hc => ?_, fun c hc => up c fun z => hc (by rw [z]; simp), fun c hc => ?_⟩
  · exact List.nodup_cons.mpr ⟨fun m => nb (pm.mem_iff.mp m), (pm.nodup_iff).mpr nB⟩
  · rcases List.mem_cons.mp hc with z | z
    · rw [z]; exact List.mem_cons_self
    · exact List.mem_cons_of_mem _ (pm.mem_iff.mp z)
  · by_cases z : c = b
    · rw [z, upd_same]; exact fun z => nomatch z
    · rw [up c z]
      have : ∀ {T A}, Foot g.K Hf H T A → ∀ a ∈ A, H a ≠ none := fun {T A} f => by
        induction f with
        | nil => exact fun _ z => nomatch z
        | cons o _ ih => exact fun a ha => (List.mem_append.mp ha).elim (o.there a) (ih a)
      exact this f c hc
theorem rv_core {g : GW} {p : Pl} {i : Nat} {σ : St} {H : Hp} {Q : VK} (h : tF g (fRv i p) σ H Q) :
    tL g i p σ H fun x H1 => tyV g.h.K "list" x H1 ∧ rReverse x [] H1 Q := by
  obtain ⟨Hf, Γ, fr, st, p⟩ := h
  refine ⟨Hf, Γ, fr, st, Post.bind p fun a Γ1 _ v H1 Hf1 s1 ⟨fl, st1, bk⟩ q => ?_⟩
  obtain ⟨⟨s, d⟩, rb⟩ := a
  dsimp only at q st1 bk
  split at q
  · rename_i s ds heq
    cases heq
    have hv : ∃ b, v = .ref b := by
      obtain ⟨A, o, _⟩ := st1.topO
      obtain ⟨b, vs, _, _, e, _, e3, _⟩ := o
      exact ⟨b, e⟩
    obtain ⟨b, rfl⟩ := hv
    obtain ⟨vs, e5, st2⟩ := StOk.revTop st1
    exact ⟨.inl ⟨rfl, vs, SqL.of e5⟩, b, vs, rfl, rfl, e5, q _ _ Hf1 (Same.refl _) ⟨bk _ _ _ _ st2, .non⟩⟩
  · exact q.elim
theorem pf_rv {X : Cx} {W : WX} {o : Expr} {apos cpos : Pos} {p : Pl} (i : Nat) (ho : PL X W o i p) (hbase : attributeBase o "reverse" X.env (eval o X.env) = eval o X.env := by rfl) (hline : (apos.endLine == cpos.line) = true := by rfl) :
    PF X W (.Call (.Attribute o "reverse" apos) [] [] cpos) (fRv i p) :=
  ⟨fun f0 h0 => (pe_bm0 PySem.F.plainAttrs_list PySem.F.slot_list_reverse PySem.F.type_list_reverse mt_reverse (ho.run f0 h0) hbase hline).imp fun σ H Q h => rv_core (g := gh X W f0 h0) h⟩
/-! ### a slot that may hold nothing, and does not -/
def pl0n (i : Nat) : Pl := fun Γ => match Γ[i]? with | some (some (.n s, d)) => if flatD d = true then .st else .ok ((s, d), fun d' => (.n s, d')) (Γ.set i none) | _ => .st
theorem StOk.unN {g : Gh} {Hf H : Hp} {σ : St} {Γ : Ev} {fr : List (V × Va)} {v : V} {s : Sh} {d : D} (h : StOk g Hf H σ Γ ((v, (.n s, d)) :: fr)) (f : flatD d = false) : StOk g Hf H σ Γ ((v, (s, d)) :: fr) :=
  StOk.repack0 (T := [(v, (.n s, d))]) (T' := [(v, (s, d))]) h fun A q nd => by
    rcases foot1_of q with z | z
    · rw [f] at z; cases z.2.1
    · exact ⟨A, foot1 z, nd, fun a ha => ha⟩
theorem StOk.inN {g : Gh} {Hf H : Hp} {σ : St} {Γ : Ev} {fr : List (V × Va)} {v : V} {s : Sh} {d : D} (h : StOk g Hf H σ Γ ((v, (s, d)) :: fr)) : StOk g Hf H σ Γ ((v, (.n s, d)) :: fr) :=
  StOk.repack0 (T := [(v, (s, d))]) (T' := [(v, (.n s, d))]) h fun A q nd => ⟨A, foot1 (.inr (foot1_of q)), nd, fun a ha => ha⟩
theorem pl_0n {X : Cx} {W : WX} {x : Str} {p : Pos} (i : Nat) (hN : X.N[i]? = some x := by rfl) (hv : Vis X.env.scope x := by first | exact Or.inl rfl | exact Or.inr (Or.inl rfl) | exact Or.inr (Or.inr rfl)) (hd : (x == ("__debug__" : Str)) = false := by decide)
    (hcd : (x == ("__classdict__" : Str)) = false := by decide) : PL X W (.Name x p) i (pl0n i) := ⟨fun f0 h0 => (pe_var hN hv hd hcd).imp fun σ H Q ⟨Hf, Γ, fr, st, p⟩ => by
  unfold pl0n at p
  split at p
  · rename_i s d e
    split at p
    · exact p.elim
    · rename_i hf
      obtain ⟨v, e1, st1⟩ := st.take e
      exact ⟨v, e1, p v H Hf (Same.refl _) ⟨[], st1.unN (Bool.eq_false_iff.mpr hf), fun Hf' H' Γ' d' st' => (StOk.inN st').putBack e1⟩⟩
  · exact p.elim⟩
end PV
namespace PV
open PySem PySem.Spec PyProof.Rows L2
/-! ### a comparison with an item of a list of lists -/
def itAt (Γ : Ev) (i : Nat) (j : Int) : Option D := match Γ[i]? with
  | some (some (.l (.n (.l .z)), .list ds)) => (ixN ds.length j).bind fun k => (ds[k]?).bind fun d => if flatD d = true then none else some d
  | _ => none
def o2I (op : D → D → Option Va) (a : Opn) (i : Nat) (j : Int) : Ev → Out Va := fun Γ => (a.f Γ).bind fun x Γ1 => .of ((a.l Γ1 x).bind fun x => (itAt Γ1 i j).bind fun y => op x y) Γ1
theorem StOk.itAt {g : Gh} {Hf H : Hp} {σ : St} {Γ : Ev} {fr : List (V × Va)} {i : Nat} {j : Int} {d : D} (h : StOk g Hf H σ Γ fr) (e : PV.itAt Γ i j = some d) : ∃ a vs w, σ[i]? = some (some (.ref a)) ∧ H a = some (.lst vs) ∧ atI vs j = some w ∧ Fz1 g.K Hf H w d := by
  unfold PV.itAt at e
  split at e
  · rename_i ds hi
    obtain ⟨ω, h⟩ := h
    obtain ⟨v, e1, A, o, nd, hA⟩ := h.slots i _ hi
    obtain ⟨a, vs, ds', B, e2, e3, e4, r, e5⟩ := o
    dsimp only at e2 e3
    subst e2
    cases e3
    rw [Option.bind_eq_some_iff] at e
    obtain ⟨k, hk, e⟩ := e
    rw [Option.bind_eq_some_iff] at e
    obtain ⟨d', hd, e⟩ := e
    split at e
    · cases e
    · rename_i hf
      cases e
      obtain ⟨w, A1, B1, A2, q1, q2, _⟩ := r.at hd
      rcases q2 with q2 | q2
      · exact absurd q2.2.1 hf
      · obtain ⟨b, us, es, C, p1, p2, p3, p4, _⟩ := q2
        refine ⟨a, vs, w, e1, e4, ?_, .inr ⟨b, us, es, p1, p2, p3, p4.zs.2⟩⟩
        unfold atI
        rw [r.length, hk]
        exact q1
  · cases e
section
variable {X : Cx} {W : WX} {a ix : Expr} {x : Str} {p spos pos : Pos} {oa : Opn} {fi : Ev → Out D}
theorem pb_cmpI {op : CmpOp} {r : R2} {f : D → D → Option Va} (ho : OpR X (compareOp op) r) (hs : OpS X.K r f) (i : Nat) (j : Int) (ha : PZ X W a oa) (hi : PF X W ix fi) (hj : ∀ Γ, fi Γ = .ok (.int j) Γ) (hp : PlainIx ix) (hm : behindInMarks op (.Subscript (.Name x p) ix spos) = false)
    (hN : X.N[i]? = some x := by rfl) (hv : Vis X.env.scope x := by first | exact Or.inl rfl | exact Or.inr (Or.inl rfl) | exact Or.inr (Or.inr rfl)) (hd : (x == ("__debug__" : Str)) = false := by decide) (hcd : (x == ("__classdict__" : Str)) = false := by decide) :
    PB X W (.Compare a [op] [.Subscript (.Name x p) ix spos] pos) (bV (o2I f oa i j)) :=
  ⟨fun f0 h0 => (pt_cmpR ho (ha.run f0 h0) (pe_ix ix_seq (pe_var hN hv hd hcd) (hi.run f0 h0) hp) hm).imp fun σ H Q h => tTest_of (f := o2I f oa i j) (fun Q h => by
    obtain ⟨Hf, Γ, fr, st, p⟩ := h
    refine ⟨Hf, Γ, fr, st, Post.bind p fun x Γ1 _ v H1 Hf1 s1 ⟨st1, l1⟩ q => ?_⟩
    obtain ⟨z, e, q⟩ := Post.of q
    obtain ⟨x', y', e1, e2, e3⟩ := bind2 e
    obtain ⟨b, vs, w, q1, q2, q3, _⟩ := st1.itAt e2
    refine ⟨.ref b, q1, Hf1, Γ1, fr, st1, ?_⟩
    rw [hj]
    intro u H2 Hf2 s2 ⟨st2, z2⟩
    have hu : u = .int j := by cases z2; rfl
    subst hu
    obtain ⟨b', vs', w', r1, r2, r3, r4⟩ := st2.itAt e2
    rw [q1] at r1
    cases r1
    refine .inl ⟨b, vs', j, w', rfl, rfl, SqL.of r2, r3, ?_⟩
    exact hs Hf2 H2 v w' x' y' z Q st2.sub (l1 Γ1 Hf2 H2 fr s2 st2 x' e1) r4 e3 fun v' H' Hf' n => q v' H' Hf' (s2.trans n.f1) (st2.pushN n)) h⟩
end
/-! ### a call whose last argument stands at a place -/
def fCallP (i n : Nat) (F : List D → Res) (fe : Ev → Out D) (p : Pl) : Ev → Out Va := fun Γ => (fe Γ).bind fun d Γ1 => (p Γ1).bind fun a Γ2 => if [d, a.1.2].length = n then (match F [d, a.1.2] with | .ok x => if okR x = true then .ok x (Γ2.set i (some (a.2 a.1.2))) else .st | _ => .st) else .st
section
variable {X : Cx} {W : WX} {e1 e2 : Expr} {x : Str} {p pos : Pos}
theorem pv_callP {f : Addr} {fd : FuncData} {ps : List Str} {k n : Nat} {F : List D → Res} {fe : Ev → Out D} {pl : Pl} (i : Nat) (hF : FnOk X.prog X.w X.K X.mg X.base (L2.CX X.prog X.w) k f fd ps (spV X.K X.mg n F)) (hr : Room k X.A) (hg : Gl X x) (hm : X.mg x = some (.ref f))
    (hk : PySem.W.keepIn X.K (.ref f) = true) (hb : Binds X.K fd ps []) (tk : Takes X W) (h1 : PF X W e1 fe) (h2 : PL X W e2 i pl) (hdb : (x == ("__debug__" : Str)) = false := by decide) (he : starEach [e1, e2] X.env = (false, eval e1 X.env) :: starEach [e2] X.env := by rfl)
    (he2 : starEach [e2] X.env = (false, eval e2 X.env) :: starEach [] X.env := by rfl) (hpl : (backTo pos (starEach [e2] X.env)).any (·.1) = false := by rfl) : PV X W (.Call (.Name x p) [e1, e2] [] pos) (fCallP i n F fe pl) :=
  ⟨fun f0 h0 => (pe_callS (E := WE W) hF hr hg hm hk hb (fun σ => passAt tk σ) (pa_cons (h1.run f0 h0) (pa_cons (h2.run f0 h0) pa_nil he2) he) hdb he hpl).imp fun σ H Q ⟨Hf, Γ, fr, st, p⟩ => ⟨Hf, Γ, fr, st, Post.bind p fun d Γ1 _ v H1 Hf1 s1 ⟨st1, l1⟩ q => ⟨Hf1, Γ1, fr, st1, Post.bind q fun a Γ2 _ u H2 Hf2 s2 ⟨fl, st2, bk⟩ q => by
    obtain ⟨G, g1, st3⟩ := st2.frz
    have g2 : Same G H2 := st3.sub
    have fz : FzAll X.K G [v, u] [d, a.1.2] := .cons ((l1.mono s2).mono g1) (.cons st3.top .nil)
    split at q
    · rename_i c
      refine ⟨G, [d, a.1.2], c, g2, fz, ?_⟩
      have back : ∀ {H' G' : Hp}, Same G G' → Same G' H' → (∀ a, G' a ≠ none → G a ≠ none ∨ H2 a = none) → ∃ F' : Hp, Same Hf2 F' ∧ Same F' H' ∧ (∀ a, F' a ≠ none → Hf2 a ≠ none ∨ H2 a = none) ∧ ∀ a, H2 a = none → F' a = G' a := fun {H' G'} a1 a2 a3 => by
        classical
        refine ⟨fun b => if G b ≠ none ∧ Hf2 b = none then none else G' b, fun b o e => ?_, fun b o e => ?_, fun b n => ?_, fun b e => ?_⟩
        · have : ¬ (G b ≠ none ∧ Hf2 b = none) := fun z => by rw [z.2] at e; cases e
          simp only [if_neg this]; exact a1 b o (g1 b o e)
        · by_cases c : G b ≠ none ∧ Hf2 b = none
          · simp only [if_pos c] at e; cases e
          · simp only [if_neg c] at e; exact a2 b o e
        · by_cases c : G b ≠ none ∧ Hf2 b = none
          · simp only [if_pos c] at n; exact absurd rfl n
          · simp only [if_neg c] at n
            rcases a3 b n with z | z
            · exact .inl fun w => c ⟨z, w⟩
            · exact .inr z
        · have : ¬ (G b ≠ none ∧ Hf2 b = none) := fun z => z.1 (Same.free g2 e)
          simp only [if_neg this]
      cases h : F [d, a.1.2] with
      | ok y =>
        rw [h] at q
        dsimp only at q
        split at q
        · rename_i ok
          intro v H' G' nv
          obtain ⟨F', b1, b2, b3, b4⟩ := back nv.f1 nv.f2 nv.f3
          obtain ⟨A, o, nd, hA⟩ := nv.o
          have nv' : NewV X.K Hf2 H2 H' F' v y := by
            refine ⟨nv.s, b1, b2, b3, A, ?_, nd, fun a ha => ⟨(hA a ha).1, by rw [b4 a (hA a ha).1]; exact (hA a ha).2⟩⟩
            unfold okR at ok
            split at ok
            · exact ⟨o.1, flat_fz o.2 ok⟩
            · obtain ⟨a, ws, es, B, e1, e2, e3, r, e4⟩ := o
              cases e2
              obtain ⟨rfl, fr⟩ := r.zs
              exact ⟨a, ws, _, [], e1, rfl, e3, OwnL.of_zs (flats_fz fr ok), e4⟩
            · cases ok
          exact q v H' F' b1 ((bk Hf2 H2 Γ2 a.1.2 st2).pushN nv')
        · exact q.elim
      | ex ee => rw [h] at q; exact q.elim
      | st => rw [h] at q; exact q.elim
    · exact q.elim⟩⟩⟩
end
end PV
namespace K62
open PySem PySem.Spec PyProof.Rows L2 PV

/-! ### the text -/
def topS (i : Nat) : Stmt := PySem.Challenge.pw_pinsalone_k62_telling_words_of_states.main.body.getD i (.Pass ⟨0, 0, 0, 0⟩)
abbrev s_letter_count : Stmt := topS 5
abbrev N_letter_count : List Str := ["table"]
theorem sc_letter_count : FnScope N_letter_count ["table"] (defScope s_letter_count) := ⟨rfl, rfl, rfl, by decide +kernel, rfl, by decide +kernel, by decide +kernel⟩
abbrev s_state_count : Stmt := topS 6
abbrev N_state_count : List Str := ["table"]
theorem sc_state_count : FnScope N_state_count ["table"] (defScope s_state_count) := ⟨rfl, rfl, rfl, by decide +kernel, rfl, by decide +kernel, by decide +kernel⟩
abbrev s_check_states : Stmt := topS 7
abbrev N_check_states : List Str := ["table", "states", "state"]
theorem sc_check_states : FnScope N_check_states ["table", "states"] (defScope s_check_states) := ⟨rfl, rfl, rfl, by decide +kernel, rfl, by decide +kernel, by decide +kernel⟩
abbrev s_step : Stmt := topS 8
abbrev N_step : List Str := ["table", "state", "letter"]
theorem sc_step : FnScope N_step ["table", "state", "letter"] (defScope s_step) := ⟨rfl, rfl, rfl, by decide +kernel, rfl, by decide +kernel, by decide +kernel⟩
abbrev s_search : Stmt := topS 10
abbrev N_search : List Str := ["one", "first", "other", "second", "words", "pairs", "at", "a", "b", "letter", "left", "left_answer", "right", "right_answer", "word"]
theorem sc_search : FnScope N_search ["one", "first", "other", "second"] (defScope s_search) := ⟨rfl, rfl, rfl, by decide +kernel, rfl, by decide +kernel, by decide +kernel⟩
abbrev s_next_round : Stmt := topS 12
abbrev N_next_round : List Str := ["table", "classes", "firsts", "following", "state", "row", "mark", "target", "answer"]
theorem sc_next_round : FnScope N_next_round ["table", "classes"] (defScope s_next_round) := ⟨rfl, rfl, rfl, by decide +kernel, rfl, by decide +kernel, by decide +kernel⟩
abbrev s_class_rounds : Stmt := topS 13
abbrev N_class_rounds : List Str := ["table", "rounds", "following", "_"]
theorem sc_class_rounds : FnScope N_class_rounds ["table"] (defScope s_class_rounds) := ⟨rfl, rfl, rfl, by decide +kernel, rfl, by decide +kernel, by decide +kernel⟩
abbrev s_telling_word : Stmt := topS 14
abbrev N_telling_word : List Str := ["table", "a", "b"]
theorem sc_telling_word : FnScope N_telling_word ["table", "a", "b"] (defScope s_telling_word) := ⟨rfl, rfl, rfl, by decide +kernel, rfl, by decide +kernel, by decide +kernel⟩
abbrev s_law_far : Stmt := topS 16
abbrev N_law_far : List Str := ["script", "k"]
theorem sc_law_far : FnScope N_law_far ["script", "k"] (defScope s_law_far) := ⟨rfl, rfl, rfl, by decide +kernel, rfl, by decide +kernel, by decide +kernel⟩
abbrev s_law_parts : Stmt := topS 17
abbrev N_law_parts : List Str := ["cell", "sizes", "parts", "rest", "k", "mixed"]
theorem sc_law_parts : FnScope N_law_parts ["cell", "sizes"] (defScope s_law_parts) := ⟨rfl, rfl, rfl, by decide +kernel, rfl, by decide +kernel, by decide +kernel⟩
abbrev s_law_is_integer : Stmt := topS 18
abbrev N_law_is_integer : List Str := ["actual"]
theorem sc_law_is_integer : FnScope N_law_is_integer ["actual"] (defScope s_law_is_integer) := ⟨rfl, rfl, rfl, by decide +kernel, rfl, by decide +kernel, by decide +kernel⟩
abbrev s_law_answer : Stmt := topS 19
abbrev N_law_answer : List Str := ["mode", "top", "part"]
theorem sc_law_answer : FnScope N_law_answer ["mode", "top", "part"] (defScope s_law_answer) := ⟨rfl, rfl, rfl, by decide +kernel, rfl, by decide +kernel, by decide +kernel⟩
abbrev s_law_table : Stmt := topS 20
abbrev N_law_table : List Str := ["script", "at", "head", "top", "rows", "k", "parts", "row", "i"]
theorem sc_law_table : FnScope N_law_table ["script", "at", "head"] (defScope s_law_table) := ⟨rfl, rfl, rfl, by decide +kernel, rfl, by decide +kernel, by decide +kernel⟩
abbrev s_law_answers : Stmt := topS 21
abbrev N_law_answers : List Str := ["table", "state", "word", "answers", "letter", "answer"]
theorem sc_law_answers : FnScope N_law_answers ["table", "state", "word"] (defScope s_law_answers) := ⟨rfl, rfl, rfl, by decide +kernel, rfl, by decide +kernel, by decide +kernel⟩
abbrev s_law_longer : Stmt := topS 22
abbrev N_law_longer : List Str := ["words", "letters", "longer", "word", "i"]
theorem sc_law_longer : FnScope N_law_longer ["words", "letters"] (defScope s_law_longer) := ⟨rfl, rfl, rfl, by decide +kernel, rfl, by decide +kernel, by decide +kernel⟩
abbrev s_law_words : Stmt := topS 23
abbrev N_law_words : List Str := ["letters", "longest", "words", "last", "k"]
theorem sc_law_words : FnScope N_law_words ["letters", "longest"] (defScope s_law_words) := ⟨rfl, rfl, rfl, by decide +kernel, rfl, by decide +kernel, by decide +kernel⟩
abbrev s_law_first : Stmt := topS 24
abbrev N_law_first : List Str := ["words", "one", "other", "k"]
theorem sc_law_first : FnScope N_law_first ["words", "one", "other"] (defScope s_law_first) := ⟨rfl, rfl, rfl, by decide +kernel, rfl, by decide +kernel, by decide +kernel⟩
abbrev s_law_round : Stmt := topS 25
abbrev N_law_round : List Str := ["rounds", "a", "b", "k"]
theorem sc_law_round : FnScope N_law_round ["rounds", "a", "b"] (defScope s_law_round) := ⟨rfl, rfl, rfl, by decide +kernel, rfl, by decide +kernel, by decide +kernel⟩
abbrev s_law_is_told : Stmt := topS 26
abbrev N_law_is_told : List Str := ["actual", "due", "item"]
theorem sc_law_is_told : FnScope N_law_is_told ["actual", "due"] (defScope s_law_is_told) := ⟨rfl, rfl, rfl, by decide +kernel, rfl, by decide +kernel, by decide +kernel⟩
abbrev s_law_refuses : Stmt := topS 27
abbrev N_law_refuses : List Str := ["table", "a", "b", "e"]
theorem sc_law_refuses : FnScope N_law_refuses ["table", "a", "b"] (defScope s_law_refuses) := ⟨rfl, rfl, rfl, by decide +kernel, rfl, by decide +kernel, by decide +kernel⟩
abbrev s_law : Stmt := topS 28
abbrev N_law : List Str := ["script", "head", "table", "parts", "states", "words", "told", "rounds", "firsts", "a", "b", "due", "actual", "r", "at", "state", "word"]
theorem sc_law : FnScope N_law ["script"] (defScope s_law) := ⟨rfl, rfl, rfl, by decide +kernel, rfl, by decide +kernel, by decide +kernel⟩
/-! ### what each def computes -/
def m_GatesError : Str → Option Bool := fun n => if n = S "NoSuchThing" then some true else none
def is_NoSuchThing : Str → Option Bool := fun n => if n = S "NoSuchThing" then some true else none
def kd_ROWS : D := (.int 2)
def fb_letter_count : Ev → SO := (sRet (vF (fV (o2 dShl (oF (fC (.int 1))) (oF (fV (o2 dAt (oF (fN 0)) (oF (fC (.int 0))))))))))
def F_letter_count : List D → Res := runD 1 1 fb_letter_count
def fb_state_count : Ev → SO := (sRet (vF (fV (fB dLen (osC (oF (fV (o2 dAt (oF (fN 0)) (oF (fC kd_ROWS))))) osN)))))
def F_state_count : List D → Res := runD 1 1 fb_state_count
def lb_check_states_1 : Ev → SO := (sWp [2] (sIf (bNot (bF (vCh dLe dLt (oF (fC (.int 0))) (oF (fN 2)) (oF (fV (fCall 1 F_state_count (fsC (fN 0) fsN)))))))
  (sRaise ⟨(S "NoSuchThing"), []⟩)
  sNx))
def fb_check_states : Ev → SO := (sPre [2] (sFor (iLT (fN 1)) (gN 2)
  lb_check_states_1))
def F_check_states : List D → Res := runD 3 2 fb_check_states
def fb_step : Ev → SO := (sRet (vF (fV (o2 dAt (oF (fV (o2 dAt (oF (fV (o2 dAt (oF (fN 0)) (oF (fC kd_ROWS))))) (oF (fN 1))))) (oF (fN 2))))))
def F_step : List D → Res := runD 3 3 fb_step
def lb_search_1 : Ev → SO := (sWp [9, 10, 11, 12, 13, 14] (sSeq (sTgt (gT (gsC (gN 10) (gsC (gN 11) gsN))) (fV (fCall 3 F_step (fsC (fN 0) (fsC (fN 7) (fsC (fN 9) fsN))))))
  (sSeq (sTgt (gT (gsC (gN 12) (gsC (gN 13) gsN))) (fV (fCall 3 F_step (fsC (fN 2) (fsC (fN 8) (fsC (fN 9) fsN))))))
  (sSeq (sAsg 14 (o2 dAdd (oF (fTAt 4 (fTup (fsC (fN 7) (fsC (fN 8) fsN))))) (oF (fV (fLst (fsC (fN 9) fsN))))))
  (sSeq (sIf (bV (o2 dNe (oF (fN 11)) (oF (fN 13))))
  (sWk0 4 .z (sWk0 5 .z (sRet (vTupV (vsC (vF (fN 5)) (vsC (vAs (.n (.l .z)) (vMv 14)) vsN))))))
  (sWk0 14 .z sNx))
  (sIf (bF (fTIn true 4 (fTup (fsC (fN 10) (fsC (fN 12) fsN)))))
  (sSeq (sTPutI 4 (fN 14) (fTup (fsC (fN 10) (fsC (fN 12) fsN))))
  (sExp (fMt 5 mAppend (fsC (fTup (fsC (fN 10) (fsC (fN 12) fsN))) fsN))))
  sNx))))))
def lb_search_2 : Ev → SO := (sWp [7, 8, 9, 10, 11, 12, 13, 14] (sSeq (sTgt (gT (gsC (gN 7) (gsC (gN 8) gsN))) (fV (o2 dAt (oB 5) (oF (fN 6)))))
  (sSeq (sPre [9, 10, 11, 12, 13, 14] (sFor (iR1 (fsC (fV (fCall 1 F_letter_count (fsC (fN 0) fsN))) fsN)) (gN 9)
  lb_search_1))
  (sAug 6 dAddI (fC (.int 1))))))
def lt_search_1 : Ev → Out Bool := (bV (o2 dLt (oF (fN 6)) (oF (fV (fB dLen (osC (oB 5) osN))))))
def fb_search : Ev → SO := (sSeq (sAsg 4 (vTct1 (fTup (fsC (fN 1) (fsC (fN 3) fsN))) (fV (fLst fsN))))
  (sSeq (sAsg 5 (fLst (fsC (fTup (fsC (fN 1) (fsC (fN 3) fsN))) fsN)))
  (sSeq (sAsg 6 (vF (fC (.int 0))))
  (sSeq (sWk 5 .z (sPre [7, 8, 9, 10, 11, 12, 13, 14] (sWhile lt_search_1
  lb_search_2 fuel)))
  (sRet (vTupV (vsC (vF (fN 5)) (vsC (vAs (.n (.l .z)) (vF (fC .none))) vsN))))))))
def F_search : List D → Res := runD 15 4 fb_search
def ce_next_round_1 : Ev → Out D := (fTup (fsC (fN 8) (fsC (fV (o2 dAt (oF (fN 1)) (oF (fN 7)))) fsN)))
def lb_next_round_1 : Ev → SO := (sWp [4, 5, 6] (sSeq (sAsg 6 (vF (fV (fB dTupOf (osC (oF (fV (vComp [7, 8] (iLT (fN 5)) (gT (gsC (gN 7) (gsC (gN 8) gsN))) bYes ce_next_round_1))) osN)))))
  (sExp (fMt 3 mAppend (fsC (fSN 2 (fN 6) (fN 4)) fsN)))))
def fb_next_round : Ev → SO := (sSeq (sAsg 2 vNct0)
  (sSeq (sAsg 3 (fLst fsN))
  (sSeq (sWk 3 .z (sPre [4, 5, 6] (sFor (iEnA (fsC (fV (o2 dAt (oF (fN 0)) (oF (fC kd_ROWS)))) fsN)) (gT (gsC (gN 4) (gsC (gN 5) gsN)))
  lb_next_round_1)))
  (sRet (vF (fN 3))))))
def F_next_round : List D → Res := runD 9 2 fb_next_round
def ce_class_rounds_1 : Ev → Out D := (fC (.int 0))
def lb_class_rounds_1 : Ev → SO := (sWp [] (sSeq (sExp (fMt 1 mAppend (fsC (fN 2) fsN)))
  (sAsg 2 (vF (fV (fCall 2 F_next_round (fsC (fN 0) (fsC (fN 2) fsN))))))))
def lt_class_rounds_1 : Ev → Out Bool := (bV (o2 dNe (oF (fN 2)) (oF (fV (o2 dAt (oB 1) (oF (fNeg (fC (.int 1)))))))))
def fb_class_rounds : Ev → SO := (sSeq (sAsg 1 (fLst (fsC (fV (vComp [3] (iLT (fV (o2 dAt (oF (fN 0)) (oF (fC kd_ROWS))))) (gN 3) bYes ce_class_rounds_1)) fsN)))
  (sSeq (sAsg 2 (vF (fV (fCall 2 F_next_round (fsC (fN 0) (fsC (fV (o2 dAt (oB 1) (oF (fC (.int 0))))) fsN))))))
  (sSeq (sWk 1 .z (sPre [] (sWhile lt_class_rounds_1
  lb_class_rounds_1 fuel)))
  (sRet (vF (fN 1))))))
def F_class_rounds : List D → Res := runD 4 1 fb_class_rounds
def fb_telling_word : Ev → SO := (sSeq (sExp (fV (fCall 2 F_check_states (fsC (fN 0) (fsC (fV (fLst (fsC (fN 1) (fsC (fN 2) fsN)))) fsN)))))
  (sRet (vIxT (fCall 4 F_search (fsC (fN 0) (fsC (fN 1) (fsC (fN 0) (fsC (fN 2) fsN))))) (fC (.int 1)))))
def F_telling_word : List D → Res := runD 3 3 fb_telling_word
def fb_law_far : Ev → SO := (sSeq (sIf (bV (o2 dEq (oF (fV (fB dLen (osC (oF (fN 0)) osN)))) (oF (fC (.int 0)))))
  (sRet (vF (fV (o2 dAdd (oF (fV (o2 dMul (oF (fC (.int 97))) (oF (fN 1))))) (oF (fC (.int 5)))))))
  sNx)
  (sSeq (sIf (bV (o2 dLt (oF (fN 1)) (oF (fV (fB dLen (osC (oF (fN 0)) osN))))))
  (sRet (vF (fV (o2 dAt (oF (fN 0)) (oF (fN 1))))))
  sNx)
  (sRet (vF (fV (o2 dAdd (oF (fV (o2 dAt (oF (fN 0)) (oF (fV (o2 dMod (oF (fV (fB dIntV (osC (oF (fN 1)) osN)))) (oF (fV (fB dLen (osC (oF (fN 0)) osN)))))))))) (oF (fV (o2 dMul (oF (fC (.int 1000003))) (oF (fN 1)))))))))))
def F_law_far : List D → Res := runD 2 2 fb_law_far
def lb_law_parts_1 : Ev → SO := (sWp [4, 5] (sIf (bV (o2 dGe (oF (fN 3)) (oF (fC (.int 0)))))
  (sSeq (sExp (fMt 2 mAppend (fsC (fV (o2 dMod (oF (fV (fB dIntV (osC (oF (fN 3)) osN)))) (oF (fV (o2 dAt (oF (fN 1)) (oF (fN 4))))))) fsN)))
  (sAsg 3 (vF (fV (o2 dDiv (oF (fN 3)) (oF (fV (o2 dAt (oF (fN 1)) (oF (fN 4))))))))))
  (sSeq (sAsg 5 (vF (fV (o2 dMod (oF (fV (fB dIntV (osC (oF (fV (o2 dAdd (oF (fV (o2 dAdd (oF (fV (o2 dMul (oF (fN 0)) (oF (fC (.int 48271)))))) (oF (fV (o2 dMul (oF (fN 4)) (oF (fC (.int 69621))))))))) (oF (fC (.int 11)))))) osN)))) (oF (fC (.int 2147483647)))))))
  (sSeq (sAsg 5 (vF (fV (o2 dMod (oF (fV (fB dIntV (osC (oF (fV (o2 dAdd (oF (fV (o2 dAdd (oF (fV (o2 dMul (oF (fN 5)) (oF (fN 5))))) (oF (fV (o2 dMul (oF (fC (.int 16807))) (oF (fN 4)))))))) (oF (fC (.int 5)))))) osN)))) (oF (fC (.int 998244353)))))))
  (sExp (fMt 2 mAppend (fsC (fV (o2 dMod (oF (fV (fB dIntV (osC (oF (fN 5)) osN)))) (oF (fV (o2 dAt (oF (fN 1)) (oF (fN 4))))))) fsN)))))))
def fb_law_parts : Ev → SO := (sSeq (sAsg 2 (fLst fsN))
  (sSeq (sAsg 3 (vF (fV (o2 dSub (oF (fN 0)) (oF (fV (o2 dPow (oF (fC (.int 10))) (oF (fC (.int 18))))))))))
  (sSeq (sWk 2 .z (sPre [4, 5] (sFor (iR1 (fsC (fV (fB dLen (osC (oF (fN 1)) osN))) fsN)) (gN 4)
  lb_law_parts_1)))
  (sRet (vF (fN 2))))))
def F_law_parts : List D → Res := runD 6 2 fb_law_parts
def fb_law_is_integer : Ev → SO := (sRet (vF (fV (vAnd (fIsi "int" (oF (fN 0))) (vF (fNot (fIsi "bool" (oF (fN 0)))))))))
def F_law_is_integer : List D → Res := runD 1 1 fb_law_is_integer
def fb_law_answer : Ev → SO := (sSeq (sIf (bV (o2 dEq (oF (fN 0)) (oF (fC (.int 0)))))
  (sRet (vF (fV (o2 dMod (oF (fV (fB dIntV (osC (oF (fN 2)) osN)))) (oF (fV (o2 dAdd (oF (fN 1)) (oF (fC (.int 1))))))))))
  sNx)
  (sSeq (sIf (bV (o2 dEq (oF (fN 0)) (oF (fC (.int 1)))))
  (sRet (vF (fV (o2 dMod (oF (fV (fB dIntV (osC (oF (fN 2)) osN)))) (oF (fC (.int 2)))))))
  sNx)
  (sRet (vF (fV (o2 dMul (oF (fN 1)) (oF (fV (o2 dDiv (oF (fN 2)) (oF (fC (.int 48))))))))))))
def F_law_answer : List D → Res := runD 3 3 fb_law_answer
def lb_law_table_1 : Ev → SO := (sWp [8] (sExp (fMt 7 mAppend (fsC (fTup (fsC (fV (o2 dMod (oF (fV (fB dIntV (osC (oF (fV (o2 dAt (oF (fN 6)) (oF (fV (o2 dMul (oF (fC (.int 2))) (oF (fN 8)))))))) osN)))) (oF (fV (o2 dAdd (oF (fC (.int 1))) (oF (fV (o2 dAt (oF (fN 2)) (oF (fC (.int 2))))))))))) (fsC (fV (fCall 3 F_law_answer (fsC (fV (o2 dAt (oF (fN 2)) (oF (fC (.int 3))))) (fsC (fN 3) (fsC (fV (o2 dAt (oF (fN 6)) (oF (fV (o2 dAdd (oF (fV (o2 dMul (oF (fC (.int 2))) (oF (fN 8))))) (oF (fC (.int 1)))))))) fsN))))) fsN))) fsN))))
def lb_law_table_2 : Ev → SO := (sWp [5, 6, 7, 8] (sSeq (sAsg 6 (vF (fV (fCall 2 F_law_parts (fsC (fV (fCall 2 F_law_far (fsC (fN 0) (fsC (fV (o2 dAdd (oF (fN 1)) (oF (fN 5)))) fsN)))) (fsC (fV (o2 dMul (oF (fV (fLst (fsC (fC (.int 32)) (fsC (fC (.int 64)) fsN))))) (oF (fV (o2 dAt (oF (fV (fLst (fsC (fC (.int 1)) (fsC (fC (.int 2)) (fsC (fC (.int 4)) fsN)))))) (oF (fV (o2 dAt (oF (fN 2)) (oF (fC (.int 0))))))))))) fsN))))))
  (sSeq (sAsg 7 (fLst fsN))
  (sSeq (sWk 7 .z (sPre [8] (sFor (iR1 (fsC (fV (o2 dDiv (oF (fV (fB dLen (osC (oF (fN 6)) osN)))) (oF (fC (.int 2))))) fsN)) (gN 8)
  lb_law_table_1)))
  (sExp (fMt 4 mAppend (fsC (fV (fB dTupOf (osC (oF (fN 7)) osN))) fsN)))))))
def fb_law_table : Ev → SO := (sSeq (sAsg 3 (vF (fV (o2 dAt (oF (fV (fLst (fsC (fC (.int 1)) (fsC (fC (.int 3)) (fsC (fC (.int 7)) (fsC (fC (.int 15)) (fsC (fC (.int 31)) (fsC (fC (.int 63)) fsN))))))))) (oF (fV (o2 dAt (oF (fN 2)) (oF (fC (.int 1))))))))))
  (sSeq (sAsg 4 (fLst fsN))
  (sSeq (sWk 4 .z (sPre [5, 6, 7, 8] (sFor (iR1 (fsC (fV (o2 dAdd (oF (fC (.int 1))) (oF (fV (o2 dAt (oF (fN 2)) (oF (fC (.int 2)))))))) fsN)) (gN 5)
  lb_law_table_2)))
  (sRet (vF (fTup (fsC (fV (o2 dAt (oF (fN 2)) (oF (fC (.int 0))))) (fsC (fV (o2 dAdd (oF (fC (.int 1))) (oF (fV (o2 dAt (oF (fN 2)) (oF (fC (.int 1)))))))) (fsC (fV (fB dTupOf (osC (oF (fN 4)) osN))) fsN)))))))))
def F_law_table : List D → Res := runD 9 3 fb_law_table
def lb_law_answers_1 : Ev → SO := (sWp [4, 5] (sSeq (sTgt (gT (gsC (gN 1) (gsC (gN 5) gsN))) (fV (o2 dAt (oF (fV (o2 dAt (oF (fV (o2 dAt (oF (fN 0)) (oF (fC (.int 2)))))) (oF (fN 1))))) (oF (fN 4)))))
  (sExp (fMt 3 mAppend (fsC (fN 5) fsN)))))
def fb_law_answers : Ev → SO := (sSeq (sAsg 3 (fLst fsN))
  (sSeq (sWk 3 .z (sPre [4, 5] (sFor (iLT (fN 2)) (gN 4)
  lb_law_answers_1)))
  (sRet (vF (fN 3)))))
def F_law_answers : List D → Res := runD 6 3 fb_law_answers
def lb_law_longer_1 : Ev → SO := (sWp [4] (sExp (fMt 2 mAppend (fsC (fV (o2 dAdd (oF (fN 3)) (oF (fV (fLst (fsC (fN 4) fsN)))))) fsN))))
def lb_law_longer_2 : Ev → SO := (sWp [3, 4] (sPre [4] (sFor (iR1 (fsC (fN 1) fsN)) (gN 4)
  lb_law_longer_1)))
def fb_law_longer : Ev → SO := (sSeq (sAsg 2 (fLst fsN))
  (sSeq (sWk 2 .z (sPre [3, 4] (sFor (iLT (fN 0)) (gN 3)
  lb_law_longer_2)))
  (sRet (vF (fN 2)))))
def F_law_longer : List D → Res := runD 5 2 fb_law_longer
def lb_law_words_1 : Ev → SO := (sWp [4] (sSeq (sAsg 3 (vF (fV (fCall 2 F_law_longer (fsC (fN 3) (fsC (fN 0) fsN))))))
  (sAsg 2 (vF (fV (o2 dAdd (oF (fN 2)) (oF (fN 3))))))))
def fb_law_words : Ev → SO := (sSeq (sAsg 2 (vF (fV (fLst (fsC (fV (fLst fsN)) fsN)))))
  (sSeq (sAsg 3 (vF (fV (fLst (fsC (fV (fLst fsN)) fsN)))))
  (sSeq (sPre [4] (sFor (iR1 (fsC (fN 1) fsN)) (gN 4)
  lb_law_words_1))
  (sRet (vF (fN 2))))))
def F_law_words : List D → Res := runD 5 2 fb_law_words
def lb_law_first_1 : Ev → SO := (sWp [3] (sIf (bV (o2 dNe (oF (fV (o2 dAt (oF (fN 1)) (oF (fN 3))))) (oF (fV (o2 dAt (oF (fN 2)) (oF (fN 3)))))))
  (sRet (vF (fV (o2 dAt (oF (fN 0)) (oF (fN 3))))))
  sNx))
def fb_law_first : Ev → SO := (sSeq (sPre [3] (sFor (iR1 (fsC (fV (fB dLen (osC (oF (fN 0)) osN))) fsN)) (gN 3)
  lb_law_first_1))
  (sRet (vF (fC .none))))
def F_law_first : List D → Res := runD 4 3 fb_law_first
def lb_law_round_1 : Ev → SO := (sWp [3] (sIf (bV (o2 dNe (oF (fV (o2 dAt (oF (fV (o2 dAt (oF (fN 0)) (oF (fN 3))))) (oF (fN 1))))) (oF (fV (o2 dAt (oF (fV (o2 dAt (oF (fN 0)) (oF (fN 3))))) (oF (fN 2)))))))
  (sRet (vF (fN 3)))
  sNx))
def fb_law_round : Ev → SO := (sSeq (sPre [3] (sFor (iR1 (fsC (fV (fB dLen (osC (oF (fN 0)) osN))) fsN)) (gN 3)
  lb_law_round_1))
  (sRet (vF (fC .none))))
def F_law_round : List D → Res := runD 4 3 fb_law_round
def ce_law_is_told_1 : Ev → Out D := (fV (fCall 1 F_law_is_integer (fsC (fN 2) fsN)))
def fb_law_is_told : Ev → SO := (sSeq (sIf (bV (o2 dIs (oF (fN 1)) (oF (fC .none))))
  (sRet (vF (fV (o2 dIs (oF (fN 0)) (oF (fC .none))))))
  sNx)
  (sRet (vF (fV (vAnd (fIsi "list" (oF (fN 0))) (vAnd (fV (fB dAll (osC (oF (fV (vComp [2] (iLT (fN 0)) (gN 2) bYes ce_law_is_told_1))) osN))) (o2 dEq (oF (fN 0)) (oF (fN 1)))))))))
def F_law_is_told : List D → Res := runD 3 2 fb_law_is_told
def hs_law_refuses_1 : Addr → Exc → Ev → SO := fun ea ex => (sRet (vF (fIsX 3 is_NoSuchThing ea ex)))
theorem hp_hs_law_refuses_1 : ∀ (a : Addr) (e : Exc) (Γ : Ev), sClr 3 (hs_law_refuses_1 a e (Γ.set 3 (some (.z, rawD a)))) = sClr 3 (hs_law_refuses_1 0 e (Γ.set 3 (some (.z, rawD 0)))) := by
  intro a e Γ
  unfold hs_law_refuses_1
  cases h_NoSuchThing : is_NoSuchThing e.c <;> by_cases h : 3 < Γ.length <;> simp [fBM, fLst, fsC, fsN, fC, fIsX, rawS, rawD, sRet, sAsg, sSeq, sIf, sExp, vF, fV, vAnd, vOr, fNot, o2, oF, fB, osC, osN, sB, Out.bind, Out.of, sClr, List.set_set, h, h_NoSuchThing]
def fb_law_refuses : Ev → SO := (sSeq (sTryA m_GatesError 3
  (sExp (fV (fCall 3 F_telling_word (fsC (fN 0) (fsC (fN 1) (fsC (fN 2) fsN))))))
  hs_law_refuses_1)
  (sRet (vF (fC (.bool false)))))
def F_law_refuses : List D → Res := runD 4 3 fb_law_refuses
def ce_law_1 : Ev → Out D := (fV (fCall 3 F_law_answers (fsC (fN 2) (fsC (fN 15) (fsC (fN 16) fsN)))))
def ce_law_2 : Ev → Out D := (fV (vComp [16] (iLT (fN 5)) (gN 16) bYes ce_law_1))
def lb_law_1 : Ev → SO := (sWp [10, 11, 12, 13] (sSeq (sAsg 11 (vF (fV (fCall 3 F_law_first (fsC (fN 5) (fsC (fV (o2 dAt (oF (fN 6)) (oF (fN 9)))) (fsC (fV (o2 dAt (oF (fN 6)) (oF (fN 10)))) fsN)))))))
  (sSeq (sAsg 12 (fCall 3 F_telling_word (fsC (fN 2) (fsC (fN 9) (fsC (fN 10) fsN)))))
  (sSeq (sIf (bOr (bNot (bO (oF (fV (fCallQ 2 F_law_is_told (.b 12 :: (.f (fN 11) :: []))))))) (bNot (bO (oF (fV (fCall 2 F_law_is_told (fsC (fV (fCall 3 F_telling_word (fsC (fN 2) (fsC (fN 10) (fsC (fN 9) fsN))))) (fsC (fN 11) fsN))))))))
  (sWk0 12 .z (sRet (vF (fC (.bool false)))))
  sNx)
  (sSeq (sAsg 13 (vF (fV (fCall 3 F_law_round (fsC (fN 7) (fsC (fN 9) (fsC (fN 10) fsN)))))))
  (sIf (bV (o2 dIs (oF (fN 11)) (oF (fC .none))))
  (sIf (bV (o2 dIsnt (oF (fN 13)) (oF (fC .none))))
  (sRet (vF (fC (.bool false))))
  sNx)
  (sIf (bV (o2 dNe (oF (fN 13)) (oF (fV (fB dLen (osC (oF (fN 11)) osN))))))
  (sRet (vF (fC (.bool false))))
  (sSeq (sExp (fPM 12 (pl0n 12) mAppend (fsC (fC (.int 0)) fsN)))
  (sIf (bNot (bO (oF (fV (fCall 2 F_law_is_told (fsC (fV (fCall 3 F_telling_word (fsC (fN 2) (fsC (fN 9) (fsC (fN 10) fsN))))) (fsC (fN 11) fsN)))))))
  (sRet (vF (fC (.bool false))))
  sNx)))))))))
def lb_law_2 : Ev → SO := (sWp [9, 10, 11, 12, 13] (sPre [10, 11, 12, 13] (sFor (iR1 (fsC (fN 4) fsN)) (gN 10)
  lb_law_1)))
def fb_law : Ev → SO := (sSeq (sAsg 1 (vF (fV (fCall 2 F_law_parts (fsC (fV (fCall 2 F_law_far (fsC (fN 0) (fsC (fC (.int 0)) fsN)))) (fsC (fV (fLst (fsC (fC (.int 3)) (fsC (fC (.int 6)) (fsC (fC (.int 32)) (fsC (fC (.int 4)) fsN)))))) fsN))))))
  (sSeq (sAsg 2 (vF (fV (fCall 3 F_law_table (fsC (fN 0) (fsC (fC (.int 2)) (fsC (fV (fLst (fsC (fV (o2 dAt (oF (fN 1)) (oF (fC (.int 0))))) (fsC (fV (o2 dAt (oF (fN 1)) (oF (fC (.int 1))))) (fsC (fV (o2 dMod (oF (fV (fB dIntV (osC (oF (fV (o2 dAt (oF (fN 1)) (oF (fC (.int 2)))))) osN)))) (oF (fV (o2 dAt (oF (fV (fLst (fsC (fC (.int 32)) (fsC (fC (.int 7)) (fsC (fC (.int 5)) fsN)))))) (oF (fV (o2 dAt (oF (fN 1)) (oF (fC (.int 0))))))))))) (fsC (fV (o2 dAt (oF (fN 1)) (oF (fC (.int 3))))) fsN)))))) fsN)))))))
  (sSeq (sAsg 3 (vF (fV (fCall 2 F_law_parts (fsC (fV (fCall 2 F_law_far (fsC (fN 0) (fsC (fC (.int 1)) fsN)))) (fsC (fV (fLst (fsC (fC (.int 32)) (fsC (fC (.int 32)) (fsC (fC (.int 90)) fsN))))) fsN))))))
  (sSeq (sAsg 4 (vF (fV (fB dLen (osC (oF (fV (o2 dAt (oF (fN 2)) (oF (fC (.int 2)))))) osN)))))
  (sSeq (sAsg 5 (vF (fV (fCall 2 F_law_words (fsC (fV (fB dLen (osC (oF (fV (o2 dAt (oF (fV (o2 dAt (oF (fN 2)) (oF (fC (.int 2)))))) (oF (fC (.int 0)))))) osN))) (fsC (fV (o2 dSub (oF (fN 4)) (oF (fC (.int 1))))) fsN))))))
  (sSeq (sFz 6 (sAsg 6 (vComp [15] (iR1 (fsC (fN 4) fsN)) (gN 15) bYes ce_law_2)))
  (sSeq (sAsg 7 (vF (fV (fCall 1 F_class_rounds (fsC (fN 2) fsN)))))
  (sSeq (sAsg 8 (vF (fV (vLR1 (fN 4)))))
  (sSeq (sWp [] (sIf (bV (o2 dGt (oF (fN 4)) (oF (fC (.int 7)))))
  (sAsg 8 (vF (fV (fLst (fsC (fV (o2 dMod (oF (fV (fB dIntV (osC (oF (fV (o2 dAt (oF (fN 3)) (oF (fC (.int 0)))))) osN)))) (oF (fN 4)))) (fsC (fV (o2 dMod (oF (fV (fB dIntV (osC (oF (fV (o2 dAt (oF (fN 3)) (oF (fC (.int 1)))))) osN)))) (oF (fN 4)))) fsN))))))
  sNx))
  (sSeq (sPre [9, 10, 11, 12, 13] (sFor (iLT (fN 8)) (gN 9)
  lb_law_2))
  (sSeq (sAsg 14 (vF (fV (o2 dMod (oF (fV (fB dIntV (osC (oF (fV (o2 dAt (oF (fN 3)) (oF (fC (.int 0)))))) osN)))) (oF (fN 4))))))
  (sSeq (sIf (bOr (bNot (bO (oF (fV (fCall 3 F_law_refuses (fsC (fN 2) (fsC (fV (o2 dAdd (oF (fN 4)) (oF (fV (o2 dAt (oF (fN 3)) (oF (fC (.int 2)))))))) (fsC (fN 14) fsN)))))))) (bNot (bO (oF (fV (fCall 3 F_law_refuses (fsC (fN 2) (fsC (fN 14) (fsC (fV (o2 dAdd (oF (fN 4)) (oF (fV (o2 dAt (oF (fN 3)) (oF (fC (.int 2)))))))) fsN)))))))))
  (sRet (vF (fC (.bool false))))
  sNx)
  (sRet (vF (fV (vAnd (fV (fCall 3 F_law_refuses (fsC (fN 2) (fsC (fV (o2 dSub (oF (fNeg (fC (.int 1)))) (oF (fV (o2 dAt (oF (fN 3)) (oF (fC (.int 2)))))))) (fsC (fN 14) fsN))))) (fCall 3 F_law_refuses (fsC (fN 2) (fsC (fN 14) (fsC (fV (o2 dSub (oF (fNeg (fC (.int 1)))) (oF (fV (o2 dAt (oF (fN 3)) (oF (fC (.int 2)))))))) fsN))))))))))))))))))))
def F_law : List D → Res := runD 17 1 fb_law
/-! ### what the top has left -/
structure Tx (K : PySem.W.Frag) (mg : Str → Option Value) (w : World) where
  f_letter_count : Addr
  fd_letter_count : FuncData
  f_state_count : Addr
  fd_state_count : FuncData
  f_check_states : Addr
  fd_check_states : FuncData
  f_step : Addr
  fd_step : FuncData
  f_search : Addr
  fd_search : FuncData
  f_next_round : Addr
  fd_next_round : FuncData
  f_class_rounds : Addr
  fd_class_rounds : FuncData
  f_telling_word : Addr
  fd_telling_word : FuncData
  f_law_far : Addr
  fd_law_far : FuncData
  f_law_parts : Addr
  fd_law_parts : FuncData
  f_law_is_integer : Addr
  fd_law_is_integer : FuncData
  f_law_answer : Addr
  fd_law_answer : FuncData
  f_law_table : Addr
  fd_law_table : FuncData
  f_law_answers : Addr
  fd_law_answers : FuncData
  f_law_longer : Addr
  fd_law_longer : FuncData
  f_law_words : Addr
  fd_law_words : FuncData
  f_law_first : Addr
  fd_law_first : FuncData
  f_law_round : Addr
  fd_law_round : FuncData
  f_law_is_told : Addr
  fd_law_is_told : FuncData
  f_law_refuses : Addr
  fd_law_refuses : FuncData
  f_law : Addr
  fd_law : FuncData
  c_GatesError : Addr
  c_NoSuchThing : Addr
  a_ROWS : V
  u_ROWS : Value
  F_letter_count : Fun K "letter_count" "letter_count" s_letter_count f_letter_count fd_letter_count
  g_letter_count : mg "letter_count" = some (.ref f_letter_count)
  kp_letter_count : PySem.W.keepIn K (.ref f_letter_count) = true
  b_letter_count : Binds K fd_letter_count ["table"] []
  F_state_count : Fun K "state_count" "state_count" s_state_count f_state_count fd_state_count
  g_state_count : mg "state_count" = some (.ref f_state_count)
  kp_state_count : PySem.W.keepIn K (.ref f_state_count) = true
  b_state_count : Binds K fd_state_count ["table"] []
  F_check_states : Fun K "check_states" "check_states" s_check_states f_check_states fd_check_states
  g_check_states : mg "check_states" = some (.ref f_check_states)
  kp_check_states : PySem.W.keepIn K (.ref f_check_states) = true
  b_check_states : Binds K fd_check_states ["table", "states"] []
  F_step : Fun K "step" "step" s_step f_step fd_step
  g_step : mg "step" = some (.ref f_step)
  kp_step : PySem.W.keepIn K (.ref f_step) = true
  b_step : Binds K fd_step ["table", "state", "letter"] []
  F_search : Fun K "search" "search" s_search f_search fd_search
  g_search : mg "search" = some (.ref f_search)
  kp_search : PySem.W.keepIn K (.ref f_search) = true
  b_search : Binds K fd_search ["one", "first", "other", "second"] []
  F_next_round : Fun K "next_round" "next_round" s_next_round f_next_round fd_next_round
  g_next_round : mg "next_round" = some (.ref f_next_round)
  kp_next_round : PySem.W.keepIn K (.ref f_next_round) = true
  b_next_round : Binds K fd_next_round ["table", "classes"] []
  F_class_rounds : Fun K "class_rounds" "class_rounds" s_class_rounds f_class_rounds fd_class_rounds
  g_class_rounds : mg "class_rounds" = some (.ref f_class_rounds)
  kp_class_rounds : PySem.W.keepIn K (.ref f_class_rounds) = true
  b_class_rounds : Binds K fd_class_rounds ["table"] []
  F_telling_word : Fun K "telling_word" "telling_word" s_telling_word f_telling_word fd_telling_word
  g_telling_word : mg "telling_word" = some (.ref f_telling_word)
  kp_telling_word : PySem.W.keepIn K (.ref f_telling_word) = true
  b_telling_word : Binds K fd_telling_word ["table", "a", "b"] []
  F_law_far : Fun K "_law_far" "_law_far" s_law_far f_law_far fd_law_far
  g_law_far : mg "_law_far" = some (.ref f_law_far)
  kp_law_far : PySem.W.keepIn K (.ref f_law_far) = true
  b_law_far : Binds K fd_law_far ["script", "k"] []
  F_law_parts : Fun K "_law_parts" "_law_parts" s_law_parts f_law_parts fd_law_parts
  g_law_parts : mg "_law_parts" = some (.ref f_law_parts)
  kp_law_parts : PySem.W.keepIn K (.ref f_law_parts) = true
  b_law_parts : Binds K fd_law_parts ["cell", "sizes"] []
  F_law_is_integer : Fun K "_law_is_integer" "_law_is_integer" s_law_is_integer f_law_is_integer fd_law_is_integer
  g_law_is_integer : mg "_law_is_integer" = some (.ref f_law_is_integer)
  kp_law_is_integer : PySem.W.keepIn K (.ref f_law_is_integer) = true
  b_law_is_integer : Binds K fd_law_is_integer ["actual"] []
  F_law_answer : Fun K "_law_answer" "_law_answer" s_law_answer f_law_answer fd_law_answer
  g_law_answer : mg "_law_answer" = some (.ref f_law_answer)
  kp_law_answer : PySem.W.keepIn K (.ref f_law_answer) = true
  b_law_answer : Binds K fd_law_answer ["mode", "top", "part"] []
  F_law_table : Fun K "_law_table" "_law_table" s_law_table f_law_table fd_law_table
  g_law_table : mg "_law_table" = some (.ref f_law_table)
  kp_law_table : PySem.W.keepIn K (.ref f_law_table) = true
  b_law_table : Binds K fd_law_table ["script", "at", "head"] []
  F_law_answers : Fun K "_law_answers" "_law_answers" s_law_answers f_law_answers fd_law_answers
  g_law_answers : mg "_law_answers" = some (.ref f_law_answers)
  kp_law_answers : PySem.W.keepIn K (.ref f_law_answers) = true
  b_law_answers : Binds K fd_law_answers ["table", "state", "word"] []
  F_law_longer : Fun K "_law_longer" "_law_longer" s_law_longer f_law_longer fd_law_longer
  g_law_longer : mg "_law_longer" = some (.ref f_law_longer)
  kp_law_longer : PySem.W.keepIn K (.ref f_law_longer) = true
  b_law_longer : Binds K fd_law_longer ["words", "letters"] []
  F_law_words : Fun K "_law_words" "_law_words" s_law_words f_law_words fd_law_words
  g_law_words : mg "_law_words" = some (.ref f_law_words)
  kp_law_words : PySem.W.keepIn K (.ref f_law_words) = true
  b_law_words : Binds K fd_law_words ["letters", "longest"] []
  F_law_first : Fun K "_law_first" "_law_first" s_law_first f_law_first fd_law_first
  g_law_first : mg "_law_first" = some (.ref f_law_first)
  kp_law_first : PySem.W.keepIn K (.ref f_law_first) = true
  b_law_first : Binds K fd_law_first ["words", "one", "other"] []
  F_law_round : Fun K "_law_round" "_law_round" s_law_round f_law_round fd_law_round
  g_law_round : mg "_law_round" = some (.ref f_law_round)
  kp_law_round : PySem.W.keepIn K (.ref f_law_round) = true
  b_law_round : Binds K fd_law_round ["rounds", "a", "b"] []
  F_law_is_told : Fun K "_law_is_told" "_law_is_told" s_law_is_told f_law_is_told fd_law_is_told
  g_law_is_told : mg "_law_is_told" = some (.ref f_law_is_told)
  kp_law_is_told : PySem.W.keepIn K (.ref f_law_is_told) = true
  b_law_is_told : Binds K fd_law_is_told ["actual", "due"] []
  F_law_refuses : Fun K "_law_refuses" "_law_refuses" s_law_refuses f_law_refuses fd_law_refuses
  g_law_refuses : mg "_law_refuses" = some (.ref f_law_refuses)
  kp_law_refuses : PySem.W.keepIn K (.ref f_law_refuses) = true
  b_law_refuses : Binds K fd_law_refuses ["table", "a", "b"] []
  F_law : Fun K "law" "law" s_law f_law fd_law
  g_law : mg "law" = some (.ref f_law)
  kp_law : PySem.W.keepIn K (.ref f_law) = true
  b_law : Binds K fd_law ["script"] []
  m_all : mg "all" = none
  m_bool : mg "bool" = none
  m_enumerate : mg "enumerate" = none
  m_int : mg "int" = none
  m_isinstance : mg "isinstance" = none
  m_len : mg "len" = none
  m_list : mg "list" = none
  m_range : mg "range" = none
  m_tuple : mg "tuple" = none
  g_GatesError : mg "GatesError" = some (.ref c_GatesError)
  kp_GatesError : PySem.W.keepIn K (.ref c_GatesError) = true
  sb_GatesError : PySem.W.subIn K (.ref c_GatesError) (.type "BaseException") = some true
  ty_GatesError : PySem.W.typeIn K (.ref c_GatesError) = some (.type "type")
  g_NoSuchThing : mg "NoSuchThing" = some (.ref c_NoSuchThing)
  x_NoSuchThing : PySem.W.excIn K c_NoSuchThing [.type "ValueError", .type "Exception", .type "BaseException", .type "object"] "ValueError.__new__" = true
  kp_NoSuchThing : PySem.W.keepIn K (.ref c_NoSuchThing) = true
  sb_NoSuchThing : PySem.W.subIn K (.ref c_NoSuchThing) (.type "BaseException") = some true
  ty_NoSuchThing : PySem.W.typeIn K (.ref c_NoSuchThing) = some (.type "type")
  em_GatesError_NoSuchThing : PySem.W.exmOne K (.ref c_NoSuchThing) (.ref c_GatesError) = some true
  ki_NoSuchThing_NoSuchThing : PySem.W.kitOne K (.ref c_NoSuchThing) (.ref c_NoSuchThing) = some true
  xc_NoSuchThing : ExcC K c_NoSuchThing
  g_ROWS : mg "ROWS" = some u_ROWS
  r_ROWS : RelV a_ROWS u_ROWS
  k_ROWS : KD K a_ROWS kd_ROWS
section
variable {P : Program} {w : World} {K : PySem.W.Frag} {mg : Str → Option Value} {base : Heap}
theorem Tx.ex_GatesError (T : Tx K mg w) : ∀ n b cls, m_GatesError n = some b → mg n = some cls → PySem.W.exmOne K cls (.ref T.c_GatesError) = some b := fun n b cls h h2 => by
  unfold m_GatesError at h
  split at h
  · rename_i e
    cases h
    subst e
    rw [show mg (S "NoSuchThing") = some (.ref T.c_NoSuchThing) from T.g_NoSuchThing] at h2
    cases h2
    exact T.em_GatesError_NoSuchThing
  ·
    cases h
theorem Tx.cr_GatesError (T : Tx K mg w) : ∀ n cls, m_GatesError n = some true → mg n = some cls → ∃ D0, cls = .ref D0 := fun n cls h h2 => by
  unfold m_GatesError at h
  split at h
  · rename_i e
    subst e
    rw [show mg (S "NoSuchThing") = some (.ref T.c_NoSuchThing) from T.g_NoSuchThing] at h2
    cases h2
    exact ⟨_, rfl⟩
  ·
    cases h
theorem Tx.isx_NoSuchThing (T : Tx K mg w) : ∀ c b D0, is_NoSuchThing c = some b → mg c = some (.ref D0) → ExcC K D0 ∧ PySem.W.kitOne K (.ref D0) (.ref T.c_NoSuchThing) = some b := fun n b D0 h h2 => by
  unfold is_NoSuchThing at h
  split at h
  · rename_i e
    cases h
    subst e
    rw [show mg (S "NoSuchThing") = some (.ref T.c_NoSuchThing) from T.g_NoSuchThing] at h2
    cases h2
    exact ⟨T.xc_NoSuchThing, T.ki_NoSuchThing_NoSuchThing⟩
  ·
    cases h
theorem ok_letter_count (T : Tx K mg w) : FnOk P w K mg base (L2.CX P w) 1 T.f_letter_count T.fd_letter_count ["table"] (spV K mg 1 F_letter_count) := fn_ok T.F_letter_count sc_letter_count fun cdv A outer s H E W hr tk pw =>
  (pss_1 (ps_r (pv_f (pf_v (pv_bin op_shl ops_shl (pz_f pf_int) (pz_f (pf_v (pv_ix ix_seq ops_at (pz_f (pf_n 0)) (pz_f pf_int) (fun _ _ => rfl)))))))))
theorem ok_state_count (T : Tx K mg w) : FnOk P w K mg base (L2.CX P w) 1 T.f_state_count T.fd_state_count ["table"] (spV K mg 1 F_state_count) := fn_ok T.F_state_count sc_state_count fun cdv A outer s H E W hr tk pw =>
  (pss_1 (ps_r (pv_f (pf_v (pv_callB call_lenV cs_len (by rfl) T.m_len (by decide +kernel) (pzs_c (pz_f (pf_v (pv_ix ix_seq ops_at (pz_f (pf_n 0)) (pz_f (pf_gl (by rfl) T.g_ROWS T.r_ROWS T.k_ROWS)) (fun _ _ => rfl)))) pzs_n))))))
theorem ok_check_states (T : Tx K mg w) : FnOk P w K mg base (L2.CX P w) 2 T.f_check_states T.fd_check_states ["table", "states"] (spV K mg 2 F_check_states) := fn_ok T.F_check_states sc_check_states fun cdv A outer s H E W hr tk pw =>
  (pss_1 (ps_pre [2] (ps_f (is := [2]) pw rfl (pi_lt (pf_n 1)) (pg_n 2 (by decide) sc_check_states.nd rfl (by first | exact .inl rfl | exact .inr rfl) (by first | exact .inl rfl | exact .inr rfl))
  (pss_wp [2] (pss_1 (ps_i (pb_not (pb_ch op_le ops_le op_ltV ops_lt (pz_f pf_int) (pz_f (pf_n 2)) (pz_f (pf_v (pv_call (ok_state_count T) (hr.mono (by decide)) (by rfl) T.g_state_count T.kp_state_count T.b_state_count tk (pfs_c (pf_n 0) pfs_n))))))
  (pss_1 (ps_rs rfl tk PySem.F.excBase_ValueError T.x_NoSuchThing T.g_NoSuchThing T.kp_NoSuchThing (raises_own T.sb_NoSuchThing T.ty_NoSuchThing) (by rfl)))
  pss_n))))))
theorem ok_step (T : Tx K mg w) : FnOk P w K mg base (L2.CX P w) 1 T.f_step T.fd_step ["table", "state", "letter"] (spV K mg 3 F_step) := fn_ok T.F_step sc_step fun cdv A outer s H E W hr tk pw =>
  (pss_1 (ps_r (pv_f (pf_v (pv_ix ix_seq ops_at (pz_f (pf_v (pv_ix ix_seq ops_at (pz_f (pf_v (pv_ix ix_seq ops_at (pz_f (pf_n 0)) (pz_f (pf_gl (by rfl) T.g_ROWS T.r_ROWS T.k_ROWS)) (fun _ _ => rfl)))) (pz_f (pf_n 1)) (fun _ _ => rfl)))) (pz_f (pf_n 2)) (fun _ _ => rfl))))))
theorem ok_search (T : Tx K mg w) : FnOk P w K mg base (L2.CX P w) 2 T.f_search T.fd_search ["one", "first", "other", "second"] (spV K mg 4 F_search) := fn_ok T.F_search sc_search fun cdv A outer s H E W hr tk pw =>
  (pss_c (ps_a 4 sc_search.nd rfl (by first | exact .inl rfl | exact .inr rfl) (pv_tct1 (hU1 hr) (pf_tup (pfs_c (pf_n 1) (pfs_c (pf_n 3) pfs_n))) (pf_v (pv_lst pfs_n))))
  (pss_c (ps_a 5 sc_search.nd rfl (by first | exact .inl rfl | exact .inr rfl) (pv_lst (pfs_c (pf_tup (pfs_c (pf_n 1) (pfs_c (pf_n 3) pfs_n))) pfs_n)))
  (pss_c (ps_a 6 sc_search.nd rfl (by first | exact .inl rfl | exact .inr rfl) (pv_f pf_int))
  (pss_c (ps_wk 5 .z (ps_pre [7, 8, 9, 10, 11, 12, 13, 14] (ps_w fuel pw (pb_cmp op_ltV ops_lt (pz_f (pf_n 6)) (pz_f (pf_v (pv_callB call_lenV cs_len (by rfl) T.m_len (by decide +kernel) (pzs_c (pz_b 5) pzs_n)))) (nomark _))
  (pss_wp [7, 8, 9, 10, 11, 12, 13, 14] (pss_c (ps_t (is := [7, 8]) (pf_v (pv_ix ix_seq ops_at (pz_b 5) (pz_f (pf_n 6)) (fun _ _ => rfl))) (pg_t rfl (pgs_c (pg_n 7 (by decide) sc_search.nd rfl (by first | exact .inl rfl | exact .inr rfl) (by first | exact .inl rfl | exact .inr rfl)) (pgs_c (pg_n 8 (by decide) sc_search.nd rfl (by first | exact .inl rfl | exact .inr rfl) (by first | exact .inl rfl | exact .inr rfl)) pgs_n))))
  (pss_c (ps_pre [9, 10, 11, 12, 13, 14] (ps_f (is := [9]) pw rfl (pi_r1 (by rfl) T.m_range (pfs_c (pf_v (pv_call (ok_letter_count T) (hr.mono (by decide)) (by rfl) T.g_letter_count T.kp_letter_count T.b_letter_count tk (pfs_c (pf_n 0) pfs_n))) pfs_n)) (pg_n 9 (by decide) sc_search.nd rfl (by first | exact .inl rfl | exact .inr rfl) (by first | exact .inl rfl | exact .inr rfl))
  (pss_wp [9, 10, 11, 12, 13, 14] (pss_c (ps_t (is := [10, 11]) (pf_v (pv_call (ok_step T) (hr.mono (by decide)) (by rfl) T.g_step T.kp_step T.b_step tk (pfs_c (pf_n 0) (pfs_c (pf_n 7) (pfs_c (pf_n 9) pfs_n))))) (pg_t rfl (pgs_c (pg_n 10 (by decide) sc_search.nd rfl (by first | exact .inl rfl | exact .inr rfl) (by first | exact .inl rfl | exact .inr rfl)) (pgs_c (pg_n 11 (by decide) sc_search.nd rfl (by first | exact .inl rfl | exact .inr rfl) (by first | exact .inl rfl | exact .inr rfl)) pgs_n))))
  (pss_c (ps_t (is := [12, 13]) (pf_v (pv_call (ok_step T) (hr.mono (by decide)) (by rfl) T.g_step T.kp_step T.b_step tk (pfs_c (pf_n 2) (pfs_c (pf_n 8) (pfs_c (pf_n 9) pfs_n))))) (pg_t rfl (pgs_c (pg_n 12 (by decide) sc_search.nd rfl (by first | exact .inl rfl | exact .inr rfl) (by first | exact .inl rfl | exact .inr rfl)) (pgs_c (pg_n 13 (by decide) sc_search.nd rfl (by first | exact .inl rfl | exact .inr rfl) (by first | exact .inl rfl | exact .inr rfl)) pgs_n))))
  (pss_c (ps_a 14 sc_search.nd rfl (by first | exact .inl rfl | exact .inr rfl) (pv_bin op_addV ops_add (pz_f (pf_tat 4 (hU1 hr) (pf_tup (pfs_c (pf_n 7) (pfs_c (pf_n 8) pfs_n))) (fun _ _ => rfl))) (pz_f (pf_v (pv_lst (pfs_c (pf_n 9) pfs_n))))))
  (pss_c (ps_i (pb_cmp (op_neV (hU hr)) ops_ne (pz_f (pf_n 11)) (pz_f (pf_n 13)) (nomark _))
  (pss_wk0 4 .z (pss_wk0 5 .z (pss_1 (ps_r (pv_tupV (pvs_c (pv_f (pf_n 5)) (pvs_c (pv_as (.n (.l .z)) (pv_mv 14)) pvs_n)))))))
  (pss_wk0 14 .z pss_n))
  (pss_1 (ps_i (pb_tnin 4 (hU1 hr) (pf_tup (pfs_c (pf_n 10) (pfs_c (pf_n 12) pfs_n))))
  (pss_c (ps_tputI 4 (hU1 hr) (pf_n 14) (pf_tup (pfs_c (pf_n 10) (pfs_c (pf_n 12) pfs_n))))
  (pss_1 (ps_x (pf_mt 5 PySem.F.plainAttrs_list PySem.F.slot_list_append PySem.F.type_list_append mt_append ms_append (pfs_c (pf_tup (pfs_c (pf_n 10) (pfs_c (pf_n 12) pfs_n))) pfs_n)))))
  pss_n)))))))))
  (pss_1 (ps_g 6 sc_search.nd rfl (by first | exact .inl rfl | exact .inr rfl) pf_int iop_add ops_addI))))))))
  (pss_1 (ps_r (pv_tupV (pvs_c (pv_f (pf_n 5)) (pvs_c (pv_as (.n (.l .z)) (pv_f pf_non)) pvs_n)))))))))
theorem ok_next_round (T : Tx K mg w) : FnOk P w K mg base (L2.CX P w) 1 T.f_next_round T.fd_next_round ["table", "classes"] (spV K mg 2 F_next_round) := fn_ok T.F_next_round sc_next_round fun cdv A outer s H E W hr tk pw =>
  (pss_c (ps_a 2 sc_next_round.nd rfl (by first | exact .inl rfl | exact .inr rfl) pv_nct0)
  (pss_c (ps_a 3 sc_next_round.nd rfl (by first | exact .inl rfl | exact .inr rfl) (pv_lst pfs_n))
  (pss_c (ps_wk 3 .z (ps_pre [4, 5, 6] (ps_f (is := [4, 5]) pw rfl (pi_enA (by rfl) T.m_enumerate (pfs_c (pf_v (pv_ix ix_seq ops_at (pz_f (pf_n 0)) (pz_f (pf_gl (by rfl) T.g_ROWS T.r_ROWS T.k_ROWS)) (fun _ _ => rfl))) pfs_n)) (pg_t rfl (pgs_c (pg_n 4 (by decide) sc_next_round.nd rfl (by first | exact .inl rfl | exact .inr rfl) (by first | exact .inl rfl | exact .inr rfl)) (pgs_c (pg_n 5 (by decide) sc_next_round.nd rfl (by first | exact .inl rfl | exact .inr rfl) (by first | exact .inl rfl | exact .inr rfl)) pgs_n)))
  (pss_wp [4, 5, 6] (pss_c (ps_a 6 sc_next_round.nd rfl (by first | exact .inl rfl | exact .inr rfl) (pv_f (pf_v (pv_callTy call_tuple_of cs_tuple (by rfl) T.m_tuple (by decide +kernel) (pzs_c (pz_f (pf_v (pv_lc (own := [("target", 7), ("answer", 8)]) rfl sc_next_round.nd (blkOk_by (own := [("target", 7), ("answer", 8)]) (N := N_next_round) (sc := defScope s_next_round) (by decide +kernel)) (pi_lt (pf_n 5)) (fun _ _ _ _ _ => (pg_t rfl (pgs_c (pg_n 7 (by decide) sc_next_round.nd rfl (by first | exact .inl rfl | exact .inr rfl) (by first | exact .inl rfl | exact .inr rfl)) (pgs_c (pg_n 8 (by decide) sc_next_round.nd rfl (by first | exact .inl rfl | exact .inr rfl) (by first | exact .inl rfl | exact .inr rfl)) pgs_n)))) (fun _ _ _ _ _ => pbs_n) (fun _ _ _ _ _ => (pf_tup (pfs_c (pf_n 8) (pfs_c (pf_v (pv_ix ix_seq ops_at (pz_f (pf_n 1)) (pz_f (pf_n 7)) (fun _ _ => rfl))) pfs_n))))))) pzs_n)))))
  (pss_1 (ps_x (pf_mt 3 PySem.F.plainAttrs_list PySem.F.slot_list_append PySem.F.type_list_append mt_append ms_append (pfs_c (pf_sn 2 (Nat.lt_of_succ_lt (hU65 hr)) (pf_n 6) (pf_n 4) ⟨rfl, rfl, rfl, rfl⟩) pfs_n)))))))))
  (pss_1 (ps_r (pv_f (pf_n 3)))))))
theorem ok_class_rounds (T : Tx K mg w) : FnOk P w K mg base (L2.CX P w) 2 T.f_class_rounds T.fd_class_rounds ["table"] (spV K mg 1 F_class_rounds) := fn_ok T.F_class_rounds sc_class_rounds fun cdv A outer s H E W hr tk pw =>
  (pss_c (ps_a 1 sc_class_rounds.nd rfl (by first | exact .inl rfl | exact .inr rfl) (pv_lst (pfs_c (pf_v (pv_lc (own := [("_", 3)]) rfl sc_class_rounds.nd (blkOk_by (own := [("_", 3)]) (N := N_class_rounds) (sc := defScope s_class_rounds) (by decide +kernel)) (pi_lt (pf_v (pv_ix ix_seq ops_at (pz_f (pf_n 0)) (pz_f (pf_gl (by rfl) T.g_ROWS T.r_ROWS T.k_ROWS)) (fun _ _ => rfl)))) (fun _ _ _ _ _ => (pg_n 3 (by decide) sc_class_rounds.nd rfl (by first | exact .inl rfl | exact .inr rfl) (by first | exact .inl rfl | exact .inr rfl))) (fun _ _ _ _ _ => pbs_n) (fun _ _ _ _ _ => pf_int))) pfs_n)))
  (pss_c (ps_a 2 sc_class_rounds.nd rfl (by first | exact .inl rfl | exact .inr rfl) (pv_f (pf_v (pv_call (ok_next_round T) (hr.mono (by decide)) (by rfl) T.g_next_round T.kp_next_round T.b_next_round tk (pfs_c (pf_n 0) (pfs_c (pf_v (pv_ix ix_seq ops_at (pz_b 1) (pz_f pf_int) (fun _ _ => rfl))) pfs_n))))))
  (pss_c (ps_wk 1 .z (ps_pre [] (ps_w fuel pw (pb_cmp (op_neV (hU hr)) ops_ne (pz_f (pf_n 2)) (pz_f (pf_v (pv_ix ix_seq ops_at (pz_b 1) (pz_f (pf_neg pf_int)) (fun _ _ => rfl)))) (nomark _))
  (pss_wp [] (pss_c (ps_x (pf_mt 1 PySem.F.plainAttrs_list PySem.F.slot_list_append PySem.F.type_list_append mt_append ms_append (pfs_c (pf_n 2) pfs_n)))
  (pss_1 (ps_a 2 sc_class_rounds.nd rfl (by first | exact .inl rfl | exact .inr rfl) (pv_f (pf_v (pv_call (ok_next_round T) (hr.mono (by decide)) (by rfl) T.g_next_round T.kp_next_round T.b_next_round tk (pfs_c (pf_n 0) (pfs_c (pf_n 2) pfs_n))))))))))))
  (pss_1 (ps_r (pv_f (pf_n 1)))))))
theorem ok_telling_word (T : Tx K mg w) : FnOk P w K mg base (L2.CX P w) 3 T.f_telling_word T.fd_telling_word ["table", "a", "b"] (spV K mg 3 F_telling_word) := fn_ok T.F_telling_word sc_telling_word fun cdv A outer s H E W hr tk pw =>
  (pss_c (ps_x (pf_v (pv_call (ok_check_states T) (hr.mono (by decide)) (by rfl) T.g_check_states T.kp_check_states T.b_check_states tk (pfs_c (pf_n 0) (pfs_c (pf_v (pv_lst (pfs_c (pf_n 1) (pfs_c (pf_n 2) pfs_n)))) pfs_n)))))
  (pss_1 (ps_r (pv_ixT (pv_call (ok_search T) (hr.mono (by decide)) (by rfl) T.g_search T.kp_search T.b_search tk (pfs_c (pf_n 0) (pfs_c (pf_n 1) (pfs_c (pf_n 0) (pfs_c (pf_n 2) pfs_n))))) pf_int (fun _ _ => rfl)))))
theorem ok_law_far (T : Tx K mg w) : FnOk P w K mg base (L2.CX P w) 1 T.f_law_far T.fd_law_far ["script", "k"] (spV K mg 2 F_law_far) := fn_ok T.F_law_far sc_law_far fun cdv A outer s H E W hr tk pw =>
  (pss_c (ps_i (pb_cmp (op_eqV (hU hr)) ops_eq (pz_f (pf_v (pv_callB call_lenV cs_len (by rfl) T.m_len (by decide +kernel) (pzs_c (pz_f (pf_n 0)) pzs_n)))) (pz_f pf_int) (nomark _))
  (pss_1 (ps_r (pv_f (pf_v (pv_bin op_addV ops_add (pz_f (pf_v (pv_bin op_mulV ops_mul (pz_f pf_int) (pz_f (pf_n 1))))) (pz_f pf_int))))))
  pss_n)
  (pss_c (ps_i (pb_cmp op_ltV ops_lt (pz_f (pf_n 1)) (pz_f (pf_v (pv_callB call_lenV cs_len (by rfl) T.m_len (by decide +kernel) (pzs_c (pz_f (pf_n 0)) pzs_n)))) (nomark _))
  (pss_1 (ps_r (pv_f (pf_v (pv_ix ix_seq ops_at (pz_f (pf_n 0)) (pz_f (pf_n 1)) (fun _ _ => rfl))))))
  pss_n)
  (pss_1 (ps_r (pv_f (pf_v (pv_bin op_addV ops_add (pz_f (pf_v (pv_ix ix_seq ops_at (pz_f (pf_n 0)) (pz_f (pf_v (pv_bin op_mod ops_mod (pz_f (pf_v (pv_callTy call_intV cs_intV (by rfl) T.m_int (by decide +kernel) (pzs_c (pz_f (pf_n 1)) pzs_n)))) (pz_f (pf_v (pv_callB call_lenV cs_len (by rfl) T.m_len (by decide +kernel) (pzs_c (pz_f (pf_n 0)) pzs_n))))))) (fun _ _ => rfl)))) (pz_f (pf_v (pv_bin op_mulV ops_mul (pz_f pf_int) (pz_f (pf_n 1))))))))))))
theorem ok_law_parts (T : Tx K mg w) : FnOk P w K mg base (L2.CX P w) 1 T.f_law_parts T.fd_law_parts ["cell", "sizes"] (spV K mg 2 F_law_parts) := fn_ok T.F_law_parts sc_law_parts fun cdv A outer s H E W hr tk pw =>
  (pss_c (ps_a 2 sc_law_parts.nd rfl (by first | exact .inl rfl | exact .inr rfl) (pv_lst pfs_n))
  (pss_c (ps_a 3 sc_law_parts.nd rfl (by first | exact .inl rfl | exact .inr rfl) (pv_f (pf_v (pv_bin op_sub ops_sub (pz_f (pf_n 0)) (pz_f (pf_v (pv_bin op_pow ops_pow (pz_f pf_int) (pz_f pf_int))))))))
  (pss_c (ps_wk 2 .z (ps_pre [4, 5] (ps_f (is := [4]) pw rfl (pi_r1 (by rfl) T.m_range (pfs_c (pf_v (pv_callB call_lenV cs_len (by rfl) T.m_len (by decide +kernel) (pzs_c (pz_f (pf_n 1)) pzs_n))) pfs_n)) (pg_n 4 (by decide) sc_law_parts.nd rfl (by first | exact .inl rfl | exact .inr rfl) (by first | exact .inl rfl | exact .inr rfl))
  (pss_wp [4, 5] (pss_1 (ps_i (pb_cmp op_ge ops_ge (pz_f (pf_n 3)) (pz_f pf_int) (nomark _))
  (pss_c (ps_x (pf_mt 2 PySem.F.plainAttrs_list PySem.F.slot_list_append PySem.F.type_list_append mt_append ms_append (pfs_c (pf_v (pv_bin op_mod ops_mod (pz_f (pf_v (pv_callTy call_intV cs_intV (by rfl) T.m_int (by decide +kernel) (pzs_c (pz_f (pf_n 3)) pzs_n)))) (pz_f (pf_v (pv_ix ix_seq ops_at (pz_f (pf_n 1)) (pz_f (pf_n 4)) (fun _ _ => rfl)))))) pfs_n)))
  (pss_1 (ps_a 3 sc_law_parts.nd rfl (by first | exact .inl rfl | exact .inr rfl) (pv_f (pf_v (pv_bin op_divV ops_div (pz_f (pf_n 3)) (pz_f (pf_v (pv_ix ix_seq ops_at (pz_f (pf_n 1)) (pz_f (pf_n 4)) (fun _ _ => rfl))))))))))
  (pss_c (ps_a 5 sc_law_parts.nd rfl (by first | exact .inl rfl | exact .inr rfl) (pv_f (pf_v (pv_bin op_mod ops_mod (pz_f (pf_v (pv_callTy call_intV cs_intV (by rfl) T.m_int (by decide +kernel) (pzs_c (pz_f (pf_v (pv_bin op_addV ops_add (pz_f (pf_v (pv_bin op_addV ops_add (pz_f (pf_v (pv_bin op_mulV ops_mul (pz_f (pf_n 0)) (pz_f pf_int)))) (pz_f (pf_v (pv_bin op_mulV ops_mul (pz_f (pf_n 4)) (pz_f pf_int))))))) (pz_f pf_int)))) pzs_n)))) (pz_f pf_int)))))
  (pss_c (ps_a 5 sc_law_parts.nd rfl (by first | exact .inl rfl | exact .inr rfl) (pv_f (pf_v (pv_bin op_mod ops_mod (pz_f (pf_v (pv_callTy call_intV cs_intV (by rfl) T.m_int (by decide +kernel) (pzs_c (pz_f (pf_v (pv_bin op_addV ops_add (pz_f (pf_v (pv_bin op_addV ops_add (pz_f (pf_v (pv_bin op_mulV ops_mul (pz_f (pf_n 5)) (pz_f (pf_n 5))))) (pz_f (pf_v (pv_bin op_mulV ops_mul (pz_f pf_int) (pz_f (pf_n 4)))))))) (pz_f pf_int)))) pzs_n)))) (pz_f pf_int)))))
  (pss_1 (ps_x (pf_mt 2 PySem.F.plainAttrs_list PySem.F.slot_list_append PySem.F.type_list_append mt_append ms_append (pfs_c (pf_v (pv_bin op_mod ops_mod (pz_f (pf_v (pv_callTy call_intV cs_intV (by rfl) T.m_int (by decide +kernel) (pzs_c (pz_f (pf_n 5)) pzs_n)))) (pz_f (pf_v (pv_ix ix_seq ops_at (pz_f (pf_n 1)) (pz_f (pf_n 4)) (fun _ _ => rfl)))))) pfs_n))))))))))))
  (pss_1 (ps_r (pv_f (pf_n 2)))))))
theorem ok_law_is_integer (T : Tx K mg w) : FnOk P w K mg base (L2.CX P w) 1 T.f_law_is_integer T.fd_law_is_integer ["actual"] (spV K mg 1 F_law_is_integer) := fn_ok T.F_law_is_integer sc_law_is_integer fun cdv A outer s H E W hr tk pw =>
  (pss_1 (ps_r (pv_f (pf_v (pv_and (pf_isi (by rfl) T.m_isinstance (by decide +kernel) (pz_f (pf_n 0)) (by rfl) T.m_int (by decide +kernel) (fun t h => kit_ty (kit_int t h))) (pv_one (pv_f (pf_not (pf_isi (by rfl) T.m_isinstance (by decide +kernel) (pz_f (pf_n 0)) (by rfl) T.m_bool (by decide +kernel) (fun t h => kit_ty (kit_bool t h)))))))))))
theorem ok_law_answer (T : Tx K mg w) : FnOk P w K mg base (L2.CX P w) 1 T.f_law_answer T.fd_law_answer ["mode", "top", "part"] (spV K mg 3 F_law_answer) := fn_ok T.F_law_answer sc_law_answer fun cdv A outer s H E W hr tk pw =>
  (pss_c (ps_i (pb_cmp (op_eqV (hU hr)) ops_eq (pz_f (pf_n 0)) (pz_f pf_int) (nomark _))
  (pss_1 (ps_r (pv_f (pf_v (pv_bin op_mod ops_mod (pz_f (pf_v (pv_callTy call_intV cs_intV (by rfl) T.m_int (by decide +kernel) (pzs_c (pz_f (pf_n 2)) pzs_n)))) (pz_f (pf_v (pv_bin op_addV ops_add (pz_f (pf_n 1)) (pz_f pf_int)))))))))
  pss_n)
  (pss_c (ps_i (pb_cmp (op_eqV (hU hr)) ops_eq (pz_f (pf_n 0)) (pz_f pf_int) (nomark _))
  (pss_1 (ps_r (pv_f (pf_v (pv_bin op_mod ops_mod (pz_f (pf_v (pv_callTy call_intV cs_intV (by rfl) T.m_int (by decide +kernel) (pzs_c (pz_f (pf_n 2)) pzs_n)))) (pz_f pf_int))))))
  pss_n)
  (pss_1 (ps_r (pv_f (pf_v (pv_bin op_mulV ops_mul (pz_f (pf_n 1)) (pz_f (pf_v (pv_bin op_divV ops_div (pz_f (pf_n 2)) (pz_f pf_int)))))))))))
theorem ok_law_table (T : Tx K mg w) : FnOk P w K mg base (L2.CX P w) 2 T.f_law_table T.fd_law_table ["script", "at", "head"] (spV K mg 3 F_law_table) := fn_ok T.F_law_table sc_law_table fun cdv A outer s H E W hr tk pw =>
  (pss_c (ps_a 3 sc_law_table.nd rfl (by first | exact .inl rfl | exact .inr rfl) (pv_f (pf_v (pv_ix ix_seq ops_at (pz_f (pf_v (pv_lst (pfs_c pf_int (pfs_c pf_int (pfs_c pf_int (pfs_c pf_int (pfs_c pf_int (pfs_c pf_int pfs_n))))))))) (pz_f (pf_v (pv_ix ix_seq ops_at (pz_f (pf_n 2)) (pz_f pf_int) (fun _ _ => rfl)))) (fun _ _ => rfl)))))
  (pss_c (ps_a 4 sc_law_table.nd rfl (by first | exact .inl rfl | exact .inr rfl) (pv_lst pfs_n))
  (pss_c (ps_wk 4 .z (ps_pre [5, 6, 7, 8] (ps_f (is := [5]) pw rfl (pi_r1 (by rfl) T.m_range (pfs_c (pf_v (pv_bin op_addV ops_add (pz_f pf_int) (pz_f (pf_v (pv_ix ix_seq ops_at (pz_f (pf_n 2)) (pz_f pf_int) (fun _ _ => rfl)))))) pfs_n)) (pg_n 5 (by decide) sc_law_table.nd rfl (by first | exact .inl rfl | exact .inr rfl) (by first | exact .inl rfl | exact .inr rfl))
  (pss_wp [5, 6, 7, 8] (pss_c (ps_a 6 sc_law_table.nd rfl (by first | exact .inl rfl | exact .inr rfl) (pv_f (pf_v (pv_call (ok_law_parts T) (hr.mono (by decide)) (by rfl) T.g_law_parts T.kp_law_parts T.b_law_parts tk (pfs_c (pf_v (pv_call (ok_law_far T) (hr.mono (by decide)) (by rfl) T.g_law_far T.kp_law_far T.b_law_far tk (pfs_c (pf_n 0) (pfs_c (pf_v (pv_bin op_addV ops_add (pz_f (pf_n 1)) (pz_f (pf_n 5)))) pfs_n)))) (pfs_c (pf_v (pv_bin op_mulV ops_mul (pz_f (pf_v (pv_lst (pfs_c pf_int (pfs_c pf_int pfs_n))))) (pz_f (pf_v (pv_ix ix_seq ops_at (pz_f (pf_v (pv_lst (pfs_c pf_int (pfs_c pf_int (pfs_c pf_int pfs_n)))))) (pz_f (pf_v (pv_ix ix_seq ops_at (pz_f (pf_n 2)) (pz_f pf_int) (fun _ _ => rfl)))) (fun _ _ => rfl)))))) pfs_n))))))
  (pss_c (ps_a 7 sc_law_table.nd rfl (by first | exact .inl rfl | exact .inr rfl) (pv_lst pfs_n))
  (pss_c (ps_wk 7 .z (ps_pre [8] (ps_f (is := [8]) pw rfl (pi_r1 (by rfl) T.m_range (pfs_c (pf_v (pv_bin op_divV ops_div (pz_f (pf_v (pv_callB call_lenV cs_len (by rfl) T.m_len (by decide +kernel) (pzs_c (pz_f (pf_n 6)) pzs_n)))) (pz_f pf_int))) pfs_n)) (pg_n 8 (by decide) sc_law_table.nd rfl (by first | exact .inl rfl | exact .inr rfl) (by first | exact .inl rfl | exact .inr rfl))
  (pss_wp [8] (pss_1 (ps_x (pf_mt 7 PySem.F.plainAttrs_list PySem.F.slot_list_append PySem.F.type_list_append mt_append ms_append (pfs_c (pf_tup (pfs_c (pf_v (pv_bin op_mod ops_mod (pz_f (pf_v (pv_callTy call_intV cs_intV (by rfl) T.m_int (by decide +kernel) (pzs_c (pz_f (pf_v (pv_ix ix_seq ops_at (pz_f (pf_n 6)) (pz_f (pf_v (pv_bin op_mulV ops_mul (pz_f pf_int) (pz_f (pf_n 8))))) (fun _ _ => rfl)))) pzs_n)))) (pz_f (pf_v (pv_bin op_addV ops_add (pz_f pf_int) (pz_f (pf_v (pv_ix ix_seq ops_at (pz_f (pf_n 2)) (pz_f pf_int) (fun _ _ => rfl))))))))) (pfs_c (pf_v (pv_call (ok_law_answer T) (hr.mono (by decide)) (by rfl) T.g_law_answer T.kp_law_answer T.b_law_answer tk (pfs_c (pf_v (pv_ix ix_seq ops_at (pz_f (pf_n 2)) (pz_f pf_int) (fun _ _ => rfl))) (pfs_c (pf_n 3) (pfs_c (pf_v (pv_ix ix_seq ops_at (pz_f (pf_n 6)) (pz_f (pf_v (pv_bin op_addV ops_add (pz_f (pf_v (pv_bin op_mulV ops_mul (pz_f pf_int) (pz_f (pf_n 8))))) (pz_f pf_int)))) (fun _ _ => rfl))) pfs_n))))) pfs_n))) pfs_n))))))))
  (pss_1 (ps_x (pf_mt 4 PySem.F.plainAttrs_list PySem.F.slot_list_append PySem.F.type_list_append mt_append ms_append (pfs_c (pf_v (pv_callTy call_tuple_of cs_tuple (by rfl) T.m_tuple (by decide +kernel) (pzs_c (pz_f (pf_n 7)) pzs_n))) pfs_n)))))))))))
  (pss_1 (ps_r (pv_f (pf_tup (pfs_c (pf_v (pv_ix ix_seq ops_at (pz_f (pf_n 2)) (pz_f pf_int) (fun _ _ => rfl))) (pfs_c (pf_v (pv_bin op_addV ops_add (pz_f pf_int) (pz_f (pf_v (pv_ix ix_seq ops_at (pz_f (pf_n 2)) (pz_f pf_int) (fun _ _ => rfl)))))) (pfs_c (pf_v (pv_callTy call_tuple_of cs_tuple (by rfl) T.m_tuple (by decide +kernel) (pzs_c (pz_f (pf_n 4)) pzs_n))) pfs_n))))))))))
theorem ok_law_answers (T : Tx K mg w) : FnOk P w K mg base (L2.CX P w) 1 T.f_law_answers T.fd_law_answers ["table", "state", "word"] (spV K mg 3 F_law_answers) := fn_ok T.F_law_answers sc_law_answers fun cdv A outer s H E W hr tk pw =>
  (pss_c (ps_a 3 sc_law_answers.nd rfl (by first | exact .inl rfl | exact .inr rfl) (pv_lst pfs_n))
  (pss_c (ps_wk 3 .z (ps_pre [4, 5] (ps_f (is := [4]) pw rfl (pi_lt (pf_n 2)) (pg_n 4 (by decide) sc_law_answers.nd rfl (by first | exact .inl rfl | exact .inr rfl) (by first | exact .inl rfl | exact .inr rfl))
  (pss_wp [4, 5] (pss_c (ps_t (is := [1, 5]) (pf_v (pv_ix ix_seq ops_at (pz_f (pf_v (pv_ix ix_seq ops_at (pz_f (pf_v (pv_ix ix_seq ops_at (pz_f (pf_n 0)) (pz_f pf_int) (fun _ _ => rfl)))) (pz_f (pf_n 1)) (fun _ _ => rfl)))) (pz_f (pf_n 4)) (fun _ _ => rfl))) (pg_t rfl (pgs_c (pg_n 1 (by decide) sc_law_answers.nd rfl (by first | exact .inl rfl | exact .inr rfl) (by first | exact .inl rfl | exact .inr rfl)) (pgs_c (pg_n 5 (by decide) sc_law_answers.nd rfl (by first | exact .inl rfl | exact .inr rfl) (by first | exact .inl rfl | exact .inr rfl)) pgs_n))))
  (pss_1 (ps_x (pf_mt 3 PySem.F.plainAttrs_list PySem.F.slot_list_append PySem.F.type_list_append mt_append ms_append (pfs_c (pf_n 5) pfs_n)))))))))
  (pss_1 (ps_r (pv_f (pf_n 3))))))
theorem ok_law_longer (T : Tx K mg w) : FnOk P w K mg base (L2.CX P w) 1 T.f_law_longer T.fd_law_longer ["words", "letters"] (spV K mg 2 F_law_longer) := fn_ok T.F_law_longer sc_law_longer fun cdv A outer s H E W hr tk pw =>
  (pss_c (ps_a 2 sc_law_longer.nd rfl (by first | exact .inl rfl | exact .inr rfl) (pv_lst pfs_n))
  (pss_c (ps_wk 2 .z (ps_pre [3, 4] (ps_f (is := [3]) pw rfl (pi_lt (pf_n 0)) (pg_n 3 (by decide) sc_law_longer.nd rfl (by first | exact .inl rfl | exact .inr rfl) (by first | exact .inl rfl | exact .inr rfl))
  (pss_wp [3, 4] (pss_1 (ps_pre [4] (ps_f (is := [4]) pw rfl (pi_r1 (by rfl) T.m_range (pfs_c (pf_n 1) pfs_n)) (pg_n 4 (by decide) sc_law_longer.nd rfl (by first | exact .inl rfl | exact .inr rfl) (by first | exact .inl rfl | exact .inr rfl))
  (pss_wp [4] (pss_1 (ps_x (pf_mt 2 PySem.F.plainAttrs_list PySem.F.slot_list_append PySem.F.type_list_append mt_append ms_append (pfs_c (pf_v (pv_bin op_addV ops_add (pz_f (pf_n 3)) (pz_f (pf_v (pv_lst (pfs_c (pf_n 4) pfs_n)))))) pfs_n))))))))))))
  (pss_1 (ps_r (pv_f (pf_n 2))))))
theorem ok_law_words (T : Tx K mg w) : FnOk P w K mg base (L2.CX P w) 2 T.f_law_words T.fd_law_words ["letters", "longest"] (spV K mg 2 F_law_words) := fn_ok T.F_law_words sc_law_words fun cdv A outer s H E W hr tk pw =>
  (pss_c (ps_a 2 sc_law_words.nd rfl (by first | exact .inl rfl | exact .inr rfl) (pv_f (pf_v (pv_lst (pfs_c (pf_v (pv_lst pfs_n)) pfs_n)))))
  (pss_c (ps_a 3 sc_law_words.nd rfl (by first | exact .inl rfl | exact .inr rfl) (pv_f (pf_v (pv_lst (pfs_c (pf_v (pv_lst pfs_n)) pfs_n)))))
  (pss_c (ps_pre [4] (ps_f (is := [4]) pw rfl (pi_r1 (by rfl) T.m_range (pfs_c (pf_n 1) pfs_n)) (pg_n 4 (by decide) sc_law_words.nd rfl (by first | exact .inl rfl | exact .inr rfl) (by first | exact .inl rfl | exact .inr rfl))
  (pss_wp [4] (pss_c (ps_a 3 sc_law_words.nd rfl (by first | exact .inl rfl | exact .inr rfl) (pv_f (pf_v (pv_call (ok_law_longer T) (hr.mono (by decide)) (by rfl) T.g_law_longer T.kp_law_longer T.b_law_longer tk (pfs_c (pf_n 3) (pfs_c (pf_n 0) pfs_n))))))
  (pss_1 (ps_a 2 sc_law_words.nd rfl (by first | exact .inl rfl | exact .inr rfl) (pv_f (pf_v (pv_bin op_addV ops_add (pz_f (pf_n 2)) (pz_f (pf_n 3)))))))))))
  (pss_1 (ps_r (pv_f (pf_n 2)))))))
theorem ok_law_first (T : Tx K mg w) : FnOk P w K mg base (L2.CX P w) 1 T.f_law_first T.fd_law_first ["words", "one", "other"] (spV K mg 3 F_law_first) := fn_ok T.F_law_first sc_law_first fun cdv A outer s H E W hr tk pw =>
  (pss_c (ps_pre [3] (ps_f (is := [3]) pw rfl (pi_r1 (by rfl) T.m_range (pfs_c (pf_v (pv_callB call_lenV cs_len (by rfl) T.m_len (by decide +kernel) (pzs_c (pz_f (pf_n 0)) pzs_n))) pfs_n)) (pg_n 3 (by decide) sc_law_first.nd rfl (by first | exact .inl rfl | exact .inr rfl) (by first | exact .inl rfl | exact .inr rfl))
  (pss_wp [3] (pss_1 (ps_i (pb_cmp (op_neV (hU hr)) ops_ne (pz_f (pf_v (pv_ix ix_seq ops_at (pz_f (pf_n 1)) (pz_f (pf_n 3)) (fun _ _ => rfl)))) (pz_f (pf_v (pv_ix ix_seq ops_at (pz_f (pf_n 2)) (pz_f (pf_n 3)) (fun _ _ => rfl)))) (nomark _))
  (pss_1 (ps_r (pv_f (pf_v (pv_ix ix_seq ops_at (pz_f (pf_n 0)) (pz_f (pf_n 3)) (fun _ _ => rfl))))))
  pss_n)))))
  (pss_1 (ps_r (pv_f pf_non))))
theorem ok_law_round (T : Tx K mg w) : FnOk P w K mg base (L2.CX P w) 1 T.f_law_round T.fd_law_round ["rounds", "a", "b"] (spV K mg 3 F_law_round) := fn_ok T.F_law_round sc_law_round fun cdv A outer s H E W hr tk pw =>
  (pss_c (ps_pre [3] (ps_f (is := [3]) pw rfl (pi_r1 (by rfl) T.m_range (pfs_c (pf_v (pv_callB call_lenV cs_len (by rfl) T.m_len (by decide +kernel) (pzs_c (pz_f (pf_n 0)) pzs_n))) pfs_n)) (pg_n 3 (by decide) sc_law_round.nd rfl (by first | exact .inl rfl | exact .inr rfl) (by first | exact .inl rfl | exact .inr rfl))
  (pss_wp [3] (pss_1 (ps_i (pb_cmp (op_neV (hU hr)) ops_ne (pz_f (pf_v (pv_ix ix_seq ops_at (pz_f (pf_v (pv_ix ix_seq ops_at (pz_f (pf_n 0)) (pz_f (pf_n 3)) (fun _ _ => rfl)))) (pz_f (pf_n 1)) (fun _ _ => rfl)))) (pz_f (pf_v (pv_ix ix_seq ops_at (pz_f (pf_v (pv_ix ix_seq ops_at (pz_f (pf_n 0)) (pz_f (pf_n 3)) (fun _ _ => rfl)))) (pz_f (pf_n 2)) (fun _ _ => rfl)))) (nomark _))
  (pss_1 (ps_r (pv_f (pf_n 3))))
  pss_n)))))
  (pss_1 (ps_r (pv_f pf_non))))
theorem ok_law_is_told (T : Tx K mg w) : FnOk P w K mg base (L2.CX P w) 2 T.f_law_is_told T.fd_law_is_told ["actual", "due"] (spV K mg 2 F_law_is_told) := fn_ok T.F_law_is_told sc_law_is_told fun cdv A outer s H E W hr tk pw =>
  (pss_c (ps_i (pb_cmp op_isV ops_is (pz_f (pf_n 1)) (pz_f pf_non) (nomark _))
  (pss_1 (ps_r (pv_f (pf_v (pv_cmp op_isV ops_is (pz_f (pf_n 0)) (pz_f pf_non) (nomark _))))))
  pss_n)
  (pss_1 (ps_r (pv_f (pf_v (pv_and (pf_isi (by rfl) T.m_isinstance (by decide +kernel) (pz_f (pf_n 0)) (by rfl) T.m_list (by decide +kernel) (fun t h => kit_ty (kit_list t h))) (pv_and (pf_v (pv_callB (cr_all rfl) cs_all (by rfl) T.m_all (by decide +kernel) (pzs_c (pz_f (pf_v (pv_lc (own := [("item", 2)]) rfl sc_law_is_told.nd (blkOk_by (own := [("item", 2)]) (N := N_law_is_told) (sc := defScope s_law_is_told) (by decide +kernel)) (pi_lt (pf_n 0)) (fun _ _ _ _ _ => (pg_n 2 (by decide) sc_law_is_told.nd rfl (by first | exact .inl rfl | exact .inr rfl) (by first | exact .inl rfl | exact .inr rfl))) (fun _ _ _ _ _ => pbs_n) (fun _ _ _ _ _ => (pf_v (pv_call (ok_law_is_integer T) (hr.mono (by decide)) (by rfl) T.g_law_is_integer T.kp_law_is_integer T.b_law_is_integer takes0 (pfs_c (pf_n 2) pfs_n))))))) pzs_n))) (pv_one (pv_cmp (op_eqV (hU hr)) ops_eq (pz_f (pf_n 0)) (pz_f (pf_n 1)) (nomark _))))))))))
theorem ok_law_refuses (T : Tx K mg w) : FnOk P w K mg base (L2.CX P w) 4 T.f_law_refuses T.fd_law_refuses ["table", "a", "b"] (spV K mg 3 F_law_refuses) := fn_ok T.F_law_refuses sc_law_refuses fun cdv A outer s H E W hr tk pw =>
  (pss_c (ps_tryA rfl rfl sc_law_refuses.nd rfl rfl ⟨rfl, by decide, Or.inl T.g_GatesError⟩ tk T.ex_GatesError T.cr_GatesError hp_hs_law_refuses_1 (fun W' pn xe tk' pw' => (pss_1 (ps_x (pf_v (pv_call (ok_telling_word T) (hr.mono (by decide)) (by rfl) T.g_telling_word T.kp_telling_word T.b_telling_word tk' (pfs_c (pf_n 0) (pfs_c (pf_n 1) (pfs_c (pf_n 2) pfs_n))))))))
  (fun ea oe Dd ex pn hz hfl hmg => (pss_1 (ps_r (pv_f (pf_isx hz hfl hmg T.isx_NoSuchThing (by rfl) T.m_isinstance (by decide +kernel) (by rfl) (by first | exact Or.inl rfl | exact Or.inr (Or.inl rfl) | exact Or.inr (Or.inr rfl)) (by decide) (by decide) (by rfl) T.g_NoSuchThing))))))
  (pss_1 (ps_r (pv_f pf_bl))))
theorem ok_law (T : Tx K mg w) : FnOk P w K mg base (L2.CX P w) 5 T.f_law T.fd_law ["script"] (spV K mg 1 F_law) := fn_ok T.F_law sc_law fun cdv A outer s H E W hr tk pw =>
  (pss_c (ps_a 1 sc_law.nd rfl (by first | exact .inl rfl | exact .inr rfl) (pv_f (pf_v (pv_call (ok_law_parts T) (hr.mono (by decide)) (by rfl) T.g_law_parts T.kp_law_parts T.b_law_parts tk (pfs_c (pf_v (pv_call (ok_law_far T) (hr.mono (by decide)) (by rfl) T.g_law_far T.kp_law_far T.b_law_far tk (pfs_c (pf_n 0) (pfs_c pf_int pfs_n)))) (pfs_c (pf_v (pv_lst (pfs_c pf_int (pfs_c pf_int (pfs_c pf_int (pfs_c pf_int pfs_n)))))) pfs_n))))))
  (pss_c (ps_a 2 sc_law.nd rfl (by first | exact .inl rfl | exact .inr rfl) (pv_f (pf_v (pv_call (ok_law_table T) (hr.mono (by decide)) (by rfl) T.g_law_table T.kp_law_table T.b_law_table tk (pfs_c (pf_n 0) (pfs_c pf_int (pfs_c (pf_v (pv_lst (pfs_c (pf_v (pv_ix ix_seq ops_at (pz_f (pf_n 1)) (pz_f pf_int) (fun _ _ => rfl))) (pfs_c (pf_v (pv_ix ix_seq ops_at (pz_f (pf_n 1)) (pz_f pf_int) (fun _ _ => rfl))) (pfs_c (pf_v (pv_bin op_mod ops_mod (pz_f (pf_v (pv_callTy call_intV cs_intV (by rfl) T.m_int (by decide +kernel) (pzs_c (pz_f (pf_v (pv_ix ix_seq ops_at (pz_f (pf_n 1)) (pz_f pf_int) (fun _ _ => rfl)))) pzs_n)))) (pz_f (pf_v (pv_ix ix_seq ops_at (pz_f (pf_v (pv_lst (pfs_c pf_int (pfs_c pf_int (pfs_c pf_int pfs_n)))))) (pz_f (pf_v (pv_ix ix_seq ops_at (pz_f (pf_n 1)) (pz_f pf_int) (fun _ _ => rfl)))) (fun _ _ => rfl)))))) (pfs_c (pf_v (pv_ix ix_seq ops_at (pz_f (pf_n 1)) (pz_f pf_int) (fun _ _ => rfl))) pfs_n)))))) pfs_n)))))))
  (pss_c (ps_a 3 sc_law.nd rfl (by first | exact .inl rfl | exact .inr rfl) (pv_f (pf_v (pv_call (ok_law_parts T) (hr.mono (by decide)) (by rfl) T.g_law_parts T.kp_law_parts T.b_law_parts tk (pfs_c (pf_v (pv_call (ok_law_far T) (hr.mono (by decide)) (by rfl) T.g_law_far T.kp_law_far T.b_law_far tk (pfs_c (pf_n 0) (pfs_c pf_int pfs_n)))) (pfs_c (pf_v (pv_lst (pfs_c pf_int (pfs_c pf_int (pfs_c pf_int pfs_n))))) pfs_n))))))
  (pss_c (ps_a 4 sc_law.nd rfl (by first | exact .inl rfl | exact .inr rfl) (pv_f (pf_v (pv_callB call_lenV cs_len (by rfl) T.m_len (by decide +kernel) (pzs_c (pz_f (pf_v (pv_ix ix_seq ops_at (pz_f (pf_n 2)) (pz_f pf_int) (fun _ _ => rfl)))) pzs_n)))))
  (pss_c (ps_a 5 sc_law.nd rfl (by first | exact .inl rfl | exact .inr rfl) (pv_f (pf_v (pv_call (ok_law_words T) (hr.mono (by decide)) (by rfl) T.g_law_words T.kp_law_words T.b_law_words tk (pfs_c (pf_v (pv_callB call_lenV cs_len (by rfl) T.m_len (by decide +kernel) (pzs_c (pz_f (pf_v (pv_ix ix_seq ops_at (pz_f (pf_v (pv_ix ix_seq ops_at (pz_f (pf_n 2)) (pz_f pf_int) (fun _ _ => rfl)))) (pz_f pf_int) (fun _ _ => rfl)))) pzs_n))) (pfs_c (pf_v (pv_bin op_sub ops_sub (pz_f (pf_n 4)) (pz_f pf_int))) pfs_n))))))
  (pss_c (ps_fz 6 (ps_lc 6 (own := [("state", 15)]) rfl sc_law.nd (blkOk_by (own := [("state", 15)]) (N := N_law) (sc := defScope s_law) (by decide +kernel)) rfl rfl (sw_true rfl rfl rfl (by decide +kernel)) (pi_r1 (by rfl) T.m_range (pfs_c (pf_n 4) pfs_n)) (fun _ _ _ _ _ => (pg_n 15 (by decide) sc_law.nd rfl (by first | exact .inl rfl | exact .inr rfl) (by first | exact .inl rfl | exact .inr rfl))) (fun _ _ _ _ _ => pbs_n) (fun _ _ _ _ _ => (pf_v (pv_lc (own := [("word", 16)]) rfl sc_law.nd (blkOk_nest (own := [("word", 16)]) (N := N_law) (by decide +kernel)) (pi_lt (pf_n 5)) (fun _ _ _ _ _ => (pg_n 16 (by decide) sc_law.nd rfl (by first | exact .inl rfl | exact .inr rfl) (by first | exact .inl rfl | exact .inr rfl))) (fun _ _ _ _ _ => pbs_n) (fun _ _ _ _ _ => (pf_v (pv_call (ok_law_answers T) (hr.mono (by decide)) (by rfl) T.g_law_answers T.kp_law_answers T.b_law_answers takes0 (pfs_c (pf_n 2) (pfs_c (pf_n 15) (pfs_c (pf_n 16) pfs_n)))))))))))
  (pss_c (ps_a 7 sc_law.nd rfl (by first | exact .inl rfl | exact .inr rfl) (pv_f (pf_v (pv_call (ok_class_rounds T) (hr.mono (by decide)) (by rfl) T.g_class_rounds T.kp_class_rounds T.b_class_rounds tk (pfs_c (pf_n 2) pfs_n)))))
  (pss_c (ps_a 8 sc_law.nd rfl (by first | exact .inl rfl | exact .inr rfl) (pv_f (pf_v (pv_lr1 rfl (by rfl) T.m_list (by rfl) T.m_range (pf_n 4)))))
  (pss_c (ps_wp [] (ps_i (pb_cmp op_gtV ops_gt (pz_f (pf_n 4)) (pz_f pf_int) (nomark _))
  (pss_1 (ps_a 8 sc_law.nd rfl (by first | exact .inl rfl | exact .inr rfl) (pv_f (pf_v (pv_lst (pfs_c (pf_v (pv_bin op_mod ops_mod (pz_f (pf_v (pv_callTy call_intV cs_intV (by rfl) T.m_int (by decide +kernel) (pzs_c (pz_f (pf_v (pv_ix ix_seq ops_at (pz_f (pf_n 3)) (pz_f pf_int) (fun _ _ => rfl)))) pzs_n)))) (pz_f (pf_n 4)))) (pfs_c (pf_v (pv_bin op_mod ops_mod (pz_f (pf_v (pv_callTy call_intV cs_intV (by rfl) T.m_int (by decide +kernel) (pzs_c (pz_f (pf_v (pv_ix ix_seq ops_at (pz_f (pf_n 3)) (pz_f pf_int) (fun _ _ => rfl)))) pzs_n)))) (pz_f (pf_n 4)))) pfs_n)))))))
  pss_n))
  (pss_c (ps_pre [9, 10, 11, 12, 13] (ps_f (is := [9]) pw rfl (pi_lt (pf_n 8)) (pg_n 9 (by decide) sc_law.nd rfl (by first | exact .inl rfl | exact .inr rfl) (by first | exact .inl rfl | exact .inr rfl))
  (pss_wp [9, 10, 11, 12, 13] (pss_1 (ps_pre [10, 11, 12, 13] (ps_f (is := [10]) pw rfl (pi_r1 (by rfl) T.m_range (pfs_c (pf_n 4) pfs_n)) (pg_n 10 (by decide) sc_law.nd rfl (by first | exact .inl rfl | exact .inr rfl) (by first | exact .inl rfl | exact .inr rfl))
  (pss_wp [10, 11, 12, 13] (pss_c (ps_a 11 sc_law.nd rfl (by first | exact .inl rfl | exact .inr rfl) (pv_f (pf_v (pv_call (ok_law_first T) (hr.mono (by decide)) (by rfl) T.g_law_first T.kp_law_first T.b_law_first tk (pfs_c (pf_n 5) (pfs_c (pf_v (pv_ix ix_seq ops_at (pz_f (pf_n 6)) (pz_f (pf_n 9)) (fun _ _ => rfl))) (pfs_c (pf_v (pv_ix ix_seq ops_at (pz_f (pf_n 6)) (pz_f (pf_n 10)) (fun _ _ => rfl))) pfs_n)))))))
  (pss_c (ps_a 12 sc_law.nd rfl (by first | exact .inl rfl | exact .inr rfl) (pv_call (ok_telling_word T) (hr.mono (by decide)) (by rfl) T.g_telling_word T.kp_telling_word T.b_telling_word tk (pfs_c (pf_n 2) (pfs_c (pf_n 9) (pfs_c (pf_n 10) pfs_n)))))
  (pss_c (ps_i (pb_w (pw_o (pb_not (pb_o (pz_f (pf_v (pv_callQ (ok_law_is_told T) (hr.mono (by decide)) (by rfl) T.g_law_is_told T.kp_law_is_told T.b_law_is_told tk (pq_b 12 (pq_f (pf_n 11) pq_n))))))) (pw_o1 (pb_not (pb_o (pz_f (pf_v (pv_call (ok_law_is_told T) (hr.mono (by decide)) (by rfl) T.g_law_is_told T.kp_law_is_told T.b_law_is_told tk (pfs_c (pf_v (pv_call (ok_telling_word T) (hr.mono (by decide)) (by rfl) T.g_telling_word T.kp_telling_word T.b_telling_word tk (pfs_c (pf_n 2) (pfs_c (pf_n 10) (pfs_c (pf_n 9) pfs_n))))) (pfs_c (pf_n 11) pfs_n))))))))))
  (pss_wk0 12 .z (pss_1 (ps_r (pv_f pf_bl))))
  pss_n)
  (pss_c (ps_a 13 sc_law.nd rfl (by first | exact .inl rfl | exact .inr rfl) (pv_f (pf_v (pv_call (ok_law_round T) (hr.mono (by decide)) (by rfl) T.g_law_round T.kp_law_round T.b_law_round tk (pfs_c (pf_n 7) (pfs_c (pf_n 9) (pfs_c (pf_n 10) pfs_n)))))))
  (pss_1 (ps_i (pb_cmp op_isV ops_is (pz_f (pf_n 11)) (pz_f pf_non) (nomark _))
  (pss_1 (ps_i (pb_cmp op_isntV ops_isnt (pz_f (pf_n 13)) (pz_f pf_non) (nomark _))
  (pss_1 (ps_r (pv_f pf_bl)))
  pss_n))
  (pss_1 (ps_i (pb_cmp (op_neV (hU hr)) ops_ne (pz_f (pf_n 13)) (pz_f (pf_v (pv_callB call_lenV cs_len (by rfl) T.m_len (by decide +kernel) (pzs_c (pz_f (pf_n 11)) pzs_n)))) (nomark _))
  (pss_1 (ps_r (pv_f pf_bl)))
  (pss_c (ps_x (pf_pm 12 PySem.F.plainAttrs_list PySem.F.slot_list_append PySem.F.type_list_append mt_append ms_append (pl_0n 12) (pfs_c pf_int pfs_n)))
  (pss_1 (ps_i (pb_not (pb_o (pz_f (pf_v (pv_call (ok_law_is_told T) (hr.mono (by decide)) (by rfl) T.g_law_is_told T.kp_law_is_told T.b_law_is_told tk (pfs_c (pf_v (pv_call (ok_telling_word T) (hr.mono (by decide)) (by rfl) T.g_telling_word T.kp_telling_word T.b_telling_word tk (pfs_c (pf_n 2) (pfs_c (pf_n 9) (pfs_c (pf_n 10) pfs_n))))) (pfs_c (pf_n 11) pfs_n)))))))
  (pss_1 (ps_r (pv_f pf_bl)))
  pss_n))))))))))))))))))
  (pss_c (ps_a 14 sc_law.nd rfl (by first | exact .inl rfl | exact .inr rfl) (pv_f (pf_v (pv_bin op_mod ops_mod (pz_f (pf_v (pv_callTy call_intV cs_intV (by rfl) T.m_int (by decide +kernel) (pzs_c (pz_f (pf_v (pv_ix ix_seq ops_at (pz_f (pf_n 3)) (pz_f pf_int) (fun _ _ => rfl)))) pzs_n)))) (pz_f (pf_n 4))))))
  (pss_c (ps_i (pb_w (pw_o (pb_not (pb_o (pz_f (pf_v (pv_call (ok_law_refuses T) (hr.mono (by decide)) (by rfl) T.g_law_refuses T.kp_law_refuses T.b_law_refuses tk (pfs_c (pf_n 2) (pfs_c (pf_v (pv_bin op_addV ops_add (pz_f (pf_n 4)) (pz_f (pf_v (pv_ix ix_seq ops_at (pz_f (pf_n 3)) (pz_f pf_int) (fun _ _ => rfl)))))) (pfs_c (pf_n 14) pfs_n)))))))) (pw_o1 (pb_not (pb_o (pz_f (pf_v (pv_call (ok_law_refuses T) (hr.mono (by decide)) (by rfl) T.g_law_refuses T.kp_law_refuses T.b_law_refuses tk (pfs_c (pf_n 2) (pfs_c (pf_n 14) (pfs_c (pf_v (pv_bin op_addV ops_add (pz_f (pf_n 4)) (pz_f (pf_v (pv_ix ix_seq ops_at (pz_f (pf_n 3)) (pz_f pf_int) (fun _ _ => rfl)))))) pfs_n)))))))))))
  (pss_1 (ps_r (pv_f pf_bl)))
  pss_n)
  (pss_1 (ps_r (pv_f (pf_v (pv_and (pf_v (pv_call (ok_law_refuses T) (hr.mono (by decide)) (by rfl) T.g_law_refuses T.kp_law_refuses T.b_law_refuses tk (pfs_c (pf_n 2) (pfs_c (pf_v (pv_bin op_sub ops_sub (pz_f (pf_neg pf_int)) (pz_f (pf_v (pv_ix ix_seq ops_at (pz_f (pf_n 3)) (pz_f pf_int) (fun _ _ => rfl)))))) (pfs_c (pf_n 14) pfs_n))))) (pv_one (pv_call (ok_law_refuses T) (hr.mono (by decide)) (by rfl) T.g_law_refuses T.kp_law_refuses T.b_law_refuses tk (pfs_c (pf_n 2) (pfs_c (pf_n 14) (pfs_c (pf_v (pv_bin op_sub ops_sub (pz_f (pf_neg pf_int)) (pz_f (pf_v (pv_ix ix_seq ops_at (pz_f (pf_n 3)) (pz_f pf_int) (fun _ _ => rfl)))))) pfs_n))))))))))))))))))))))
end
end K62
namespace PV
open PySem
/-! ### evaluating -/
section
variable {α β : Type}
theorem bind_ok {a : α} {Γ : Ev} {k : α → Ev → Out β} : Out.bind (.ok a Γ) k = k a Γ := id rfl
theorem bind_ex {e : Exc} {Γ : Ev} {k : α → Ev → Out β} : Out.bind (.ex e Γ) k = .ex e Γ := id rfl
theorem of_some {a : α} {Γ : Ev} : Out.of (some a) Γ = .ok a Γ := id rfl
theorem sB_ok {a : α} {Γ : Ev} {k : α → Ev → SO} : sB (.ok a Γ) k = k a Γ := id rfl
theorem sB_ex {e : Exc} {Γ : Ev} {k : α → Ev → SO} : sB (.ex e Γ : Out α) k = .ex e Γ := id rfl
end
def SO.then (r : SO) (b : Ev → SO) : SO := match r with
  | .nx Γ => b Γ
  | r => r
theorem then_nx {Γ : Ev} {b : Ev → SO} : SO.then (.nx Γ) b = b Γ := id rfl
theorem then_rt {x : Va} {Γ : Ev} {b : Ev → SO} : SO.then (.rt x Γ) b = .rt x Γ := id rfl
theorem then_ex {e : Exc} {Γ : Ev} {b : Ev → SO} : SO.then (.ex e Γ) b = .ex e Γ := id rfl
theorem then_ct {Γ : Ev} {b : Ev → SO} : SO.then (.ct Γ) b = .ct Γ := id rfl
theorem then_bk {Γ : Ev} {b : Ev → SO} : SO.then (.bk Γ) b = .bk Γ := id rfl
theorem seq_eq (a b : Ev → SO) (Γ : Ev) : sSeq a b Γ = SO.then (a Γ) b := id rfl

/-! the combinators, at an environment -/
def gZ (o : Option (Option Va)) (Γ : Ev) : Out D := match o with | some (some (.z, d)) => .ok d Γ | _ => .st
def gB (o : Option (Option Va)) (Γ : Ev) : Out D := match o with | some (some _) => .ok .none Γ | _ => .st
def gBl (o : Option (Option Va)) : Option D := match o with | some (some (.l .z, .list ds)) => some (.list ds) | some (some (.z, d)) => some d | _ => none
def gF (o : Option (Option Va)) (i : Nat) (Γ : Ev) : Out D := match o with | some (some x) => .ok x.2 (Γ.set i (some (.z, x.2))) | _ => .st
def gM (o : Option (Option Va)) (i : Nat) (Γ : Ev) : Out Va := match o with | some (some x) => .ok x (Γ.set i none) | _ => .st
section
variable {Γ : Ev} {d d' : D} {i : Nat} {f g h : Ev → Out D} {u v : Ev → Out Va} {o p q : Opn} {os : Opns} {fs : Ev → Out (List D)} {c c' : Ev → Out Bool} {s : Sh}
theorem gZ_z : gZ (some (some (.z, d))) Γ = .ok d Γ := id rfl
theorem gB_s {x : Va} : gB (some (some x)) Γ = .ok .none Γ := id rfl
theorem gBl_l {ds : List D} : gBl (some (some (.l .z, .list ds))) = some (.list ds) := id rfl
theorem gBl_z : gBl (some (some (.z, d))) = some d := id rfl
theorem gF_s {x : Va} : gF (some (some x)) i Γ = .ok x.2 (Γ.set i (some (.z, x.2))) := id rfl
theorem gM_s {x : Va} : gM (some (some x)) i Γ = .ok x (Γ.set i none) := id rfl
theorem fC_ap : fC d Γ = .ok d Γ := id rfl
theorem fN_ap : fN i Γ = gZ (Γ[i]?) Γ := id rfl
theorem fZ_ap : fZ i Γ = gF (Γ[i]?) i Γ := id rfl
theorem vMv_ap : vMv i Γ = gM (Γ[i]?) i Γ := id rfl
theorem fV_ap : fV u Γ = (u Γ).bind fun x Γ1 => .ok x.2 Γ1 := id rfl
theorem vF_ap : vF f Γ = (f Γ).bind fun d Γ1 => .ok (.z, d) Γ1 := id rfl
theorem oF_f : (oF f).f Γ = f Γ := id rfl
theorem oF_l : (oF f).l Γ d = some d := id rfl
theorem oB_f : (oB i).f Γ = gB (Γ[i]?) Γ := id rfl
theorem oB_l : (oB i).l Γ d = gBl (Γ[i]?) := id rfl
theorem osN_f : osN.f Γ = .ok [] Γ := id rfl
theorem osN_l {ds : List D} : osN.l Γ ds = some ds := id rfl
theorem osC_f : (osC o os).f Γ = (o.f Γ).bind fun d Γ1 => (os.f Γ1).bind fun ds Γ2 => .ok (d :: ds) Γ2 := id rfl
theorem osC_l {ds : List D} : (osC o os).l Γ (d :: ds) = (o.l Γ d).bind fun d => (os.l Γ ds).bind fun ds => some (d :: ds) := id rfl
theorem o2_ap {op : D → D → Option Va} : o2 op o p Γ = (o.f Γ).bind fun x Γ1 => (p.f Γ1).bind fun y Γ2 => .of ((o.l Γ2 x).bind fun x => (p.l Γ2 y).bind fun y => op x y) Γ2 := id rfl
theorem fB_ap {op : List D → Option Va} : fB op os Γ = (os.f Γ).bind fun ds Γ1 => .of ((os.l Γ1 ds).bind op) Γ1 := id rfl
theorem fsN_ap : fsN Γ = .ok [] Γ := id rfl
theorem fsC_ap : fsC f fs Γ = (f Γ).bind fun d Γ1 => (fs Γ1).bind fun ds Γ2 => .ok (d :: ds) Γ2 := id rfl
theorem fLst_ap : fLst fs Γ = (fs Γ).bind fun ds Γ1 => .of (if ds.length ≤ 16777216 then some (.l .z, .list ds) else none) Γ1 := id rfl
theorem fTup_ap : fTup fs Γ = (fs Γ).bind fun ds Γ1 => .of (if ds.length ≤ 16777216 then some (.tuple ds) else none) Γ1 := id rfl
def mtE (o : Option (Option Va)) (i : Nat) (op : List D → List D → Option (D × List D)) (args : List D) (Γ : Ev) : Out D := match o with
  | some (some (.l .z, .list ds)) => (match op ds args with | some (d, ds') => .ok d (Γ.set i (some (.l .z, .list ds'))) | none => .st)
  | _ => .st
def mtS (o : Option (Option Va)) (r : Out D) : Out D := match o with | some (some (.l .z, .list _)) => r | _ => .st
theorem fMt_ap {op : List D → List D → Option (D × List D)} : fMt i op fs Γ = mtS (Γ[i]?) ((fs Γ).bind fun args Γ1 => mtE (Γ1[i]?) i op args Γ1) := id rfl
theorem mtS_l {ds : List D} {r : Out D} : mtS (some (some (.l .z, .list ds))) r = r := id rfl
theorem mtE_l {op : List D → List D → Option (D × List D)} {ds args : List D} : mtE (some (some (.l .z, .list ds))) i op args Γ = (match op ds args with | some (d, ds') => .ok d (Γ.set i (some (.l .z, .list ds'))) | none => .st) := id rfl
def bB (d : D) : Option Bool := match d with | .bool c => some c | _ => none
theorem bB_b {b : Bool} : bB (.bool b) = some b := id rfl
theorem bV_ap : bV u Γ = (u Γ).bind fun x Γ1 => .of (bB x.2) Γ1 := by
  unfold bV
  congr 1
def bBo (d : D) (Γ : Ev) : Out Bool := match d with | .bool b => .ok b Γ | _ => .st
theorem bBo_b {b : Bool} : bBo (.bool b) Γ = .ok b Γ := id rfl
theorem bF_ap : bF f Γ = (f Γ).bind bBo := id rfl
theorem bO_ap : bO o Γ = (o.f Γ).bind fun d Γ1 => .of ((o.l Γ1 d).bind dTru) Γ1 := id rfl
theorem bNot_ap : bNot c Γ = (c Γ).bind fun b Γ1 => .ok (!b) Γ1 := id rfl
theorem bAnd_ap : bAnd c c' Γ = (c Γ).bind fun b Γ1 => if b = true then c' Γ1 else .ok false Γ1 := id rfl
theorem bOr_ap : bOr c c' Γ = (c Γ).bind fun b Γ1 => if b = true then .ok true Γ1 else c' Γ1 := id rfl
theorem vIf_ap : vIf c u v Γ = (c Γ).bind fun k Γ1 => if k = true then u Γ1 else v Γ1 := id rfl
def vA (d : D) (r : Out Va) (Γ : Ev) : Out Va := match d with | .bool true => r | .bool false => .ok (.z, .bool false) Γ | _ => .st
def vO (d : D) (r : Out Va) (Γ : Ev) : Out Va := match d with | .bool true => .ok (.z, .bool true) Γ | .bool false => r | _ => .st
theorem vA_b {b : Bool} {r : Out Va} : vA (.bool b) r Γ = if b = true then r else .ok (.z, .bool false) Γ := by cases b <;> rfl
theorem vO_b {b : Bool} {r : Out Va} : vO (.bool b) r Γ = if b = true then .ok (.z, .bool true) Γ else r := by cases b <;> rfl
theorem vAnd_ap : vAnd f v Γ = (f Γ).bind fun d Γ1 => vA d (v Γ1) Γ1 := id rfl
theorem vOr_ap : vOr f v Γ = (f Γ).bind fun d Γ1 => vO d (v Γ1) Γ1 := id rfl
def dNot (d : D) (Γ : Ev) : Out D := match d with | .bool b => .ok (.bool !b) Γ | _ => .st
theorem dNot_b {b : Bool} : dNot (.bool b) Γ = .ok (.bool !b) Γ := id rfl
theorem fNot_ap : fNot f Γ = (f Γ).bind dNot := id rfl
def dNg (d : D) (Γ : Ev) : Out D := match d with | .int i => .ok (.int (-i)) Γ | _ => .st
theorem dNg_i {i : Int} : dNg (.int i) Γ = .ok (.int (-i)) Γ := id rfl
theorem fNeg_ap : fNeg f Γ = (f Γ).bind dNg := id rfl
theorem fPN_ap : fPN Γ = .ok none Γ := id rfl
def dPs (d : D) (Γ : Ev) : Out (Option Int) := match d with | .int i => .ok (some i) Γ | _ => .st
theorem dPs_i {i : Int} : dPs (.int i) Γ = .ok (some i) Γ := id rfl
theorem fPS_ap : fPS f Γ = (f Γ).bind dPs := id rfl
theorem vCut_ap {a b : Ev → Out (Option Int)} : vCut o a b Γ = (o.f Γ).bind fun d Γ1 => (a Γ1).bind fun lo Γ2 => (b Γ2).bind fun hi Γ3 => .of ((o.l Γ3 d).bind fun d => dCut d lo hi) Γ3 := id rfl
theorem fIsi_ap {T : String} : fIsi T o Γ = (o.f Γ).bind fun d Γ1 => .of ((o.l Γ1 d).bind (dIsi T)) Γ1 := id rfl
def rOut (r : Res) (Γ : Ev) : Out Va := match r with | .ok x => .ok x Γ | .ex e => .ex e Γ | .st => .st
theorem rOut_ok {x : Va} : rOut (.ok x) Γ = .ok x Γ := id rfl
theorem rOut_ex {e : Exc} : rOut (.ex e) Γ = .ex e Γ := id rfl
theorem fCall_ap {n : Nat} {F : List D → Res} : fCall n F fs Γ = (fs Γ).bind fun ds Γ1 => if ds.length = n then rOut (F ds) Γ1 else .st := id rfl
theorem fDct0_ap : fDct0 Γ = .ok (.dict []) Γ := id rfl
def dIterL (d : D) (Γ : Ev) : Out (List D) := match d with | .list ds => .ok ds Γ | .tuple ds => .ok ds Γ | .dict [(.none, .tuple ds)] => .ok ds Γ | _ => .st
theorem dIterL_l {ds : List D} : dIterL (.list ds) Γ = .ok ds Γ := id rfl
theorem dIterL_t {ds : List D} : dIterL (.tuple ds) Γ = .ok ds Γ := id rfl
theorem iLT_ap : iLT f Γ = (f Γ).bind dIterL := id rfl
theorem iR1_ap : iR1 fs Γ = (fs Γ).bind fun ds Γ1 => match ds with | [.int j] => if j < 2 ^ 62 ∧ -(2 ^ 62) ≤ j then .ok (rangeL 0 j.toNat) Γ1 else .st | _ => .st := id rfl
theorem iR2_ap : iR2 fs Γ = (fs Γ).bind fun ds Γ1 => match ds with | [.int i, .int j] => if (j < 2 ^ 62 ∧ -(2 ^ 62) ≤ j) ∧ i < 2 ^ 62 ∧ -(2 ^ 62) ≤ i then .ok (rangeL i (j - i).toNat) Γ1 else .st | _ => .st := id rfl
theorem iEn_ap : iEn fs Γ = (fs Γ).bind fun ds Γ1 => match ds with | [.list es] => .ok (enumL es) Γ1 | _ => .st := id rfl
theorem iZp_ap : iZp fs Γ = (fs Γ).bind fun ds Γ1 => match ds with | [.list xs, .list ys] => .ok (zipL xs ys) Γ1 | _ => .st := id rfl
theorem vLR1_ap : vLR1 f Γ = (f Γ).bind fun d Γ1 => match d with | .int j => if 0 ≤ j ∧ j ≤ 16777216 then .ok (.l .z, .list (rangeL 0 j.toNat)) Γ1 else .st | _ => .st := id rfl
theorem vComp_ap {is : List Nat} {ff : Ev → Out (List D)} {t : D → Ev → Option Ev} : vComp is ff t c f Γ = (ff Γ).bind fun ds Γ1 => if ds.length ≤ 16777216 then (match compL is t c f ds (wipeG Γ1 is) with | some (es, Γ2) => .ok (.l .z, .list es) (restG Γ1 Γ2 is) | none => .st) else .st := id rfl
/-! statements -/
variable {a b : Ev → SO} {t : D → Ev → Option Ev}
theorem sNx_ap : sNx Γ = .nx Γ := id rfl
theorem sAsg_ap : sAsg i u Γ = sB (u Γ) fun x Γ1 => .nx (Γ1.set i (some x)) := id rfl
theorem sRet_ap : sRet u Γ = sB (u Γ) fun x Γ1 => .rt x Γ1 := id rfl
theorem sExp_ap : sExp f Γ = sB (f Γ) fun _ Γ1 => .nx Γ1 := id rfl
theorem sIf_ap : sIf c a b Γ = sB (c Γ) fun k Γ1 => if k = true then a Γ1 else b Γ1 := id rfl
theorem sFor_ap {ff : Ev → Out (List D)} : sFor ff t a Γ = sB (ff Γ) fun ds Γ1 => sForL t a ds Γ1 := id rfl
def oNx (o : Option Ev) : SO := match o with | some Γ => .nx Γ | none => .st
theorem oNx_s : oNx (some Γ) = .nx Γ := id rfl
theorem sTgt_ap : sTgt t f Γ = sB (f Γ) fun d Γ1 => oNx (t d Γ1) := id rfl
def fzE (o : Option (Option Va)) (i : Nat) (Γ : Ev) : SO := match o with | some (some x) => .nx (Γ.set i (some (.z, x.2))) | _ => .nx Γ
theorem fzE_s {x : Va} : fzE (some (some x)) i Γ = .nx (Γ.set i (some (.z, x.2))) := id rfl
theorem sFz_ap : sFz i a Γ = (a Γ).then fun Γ1 => fzE (Γ1[i]?) i Γ1 := by
  unfold sFz SO.then fzE
  cases a Γ <;> rfl
theorem sRaise_ap {e : Exc} : sRaise e Γ = .ex e Γ := id rfl
def SO.res (r : SO) : Res := match r with | .nx _ => .ok (.z, .none) | .rt x _ => .ok x | .ex e _ => .ex e | _ => .st
theorem res_nx : SO.res (.nx Γ) = .ok (.z, .none) := id rfl
theorem res_rt {x : Va} : SO.res (.rt x Γ) = .ok x := id rfl
theorem res_ex {e : Exc} : SO.res (.ex e Γ) = .ex e := id rfl
theorem runD_ap {n k : Nat} {ds : List D} : runD n k a ds = if ds.length = k then (a (st0 n ds)).res else .st := id rfl
end
abbrev L (ns : List Int) : D := .list (ns.map .int)
abbrev T (ns : List Int) : D := .tuple (ns.map .int)
theorem at_int {ns : List Int} {k : Nat} {x : Int} (h : ns[k]? = some x) : dAt (L ns) (.int k) = some (.z, .int x) := by
  have : L2.atI (ns.map PyData.int) (k : Int) = some (.int x) := L2.atI_nat (by rw [List.getElem?_map, h]; rfl)
  simp only [dAt, this]
  rfl
theorem atT_int {ns : List Int} {k : Nat} {x : Int} (h : ns[k]? = some x) : dAt (T ns) (.int k) = some (.z, .int x) := by
  have : L2.atI (ns.map PyData.int) (k : Int) = some (.int x) := L2.atI_nat (by rw [List.getElem?_map, h]; rfl)
  simp only [dAt, this]
  rfl
theorem at_list {ds : List D} {k : Nat} {x : D} (h : ds[k]? = some x) : dAt (.list ds) (.int k) = some (.z, x) := by
  simp only [dAt, L2.atI_nat h]
  rfl
theorem at_tup {ds : List D} {k : Nat} {x : D} (h : ds[k]? = some x) : dAt (.tuple ds) (.int k) = some (.z, x) := by
  simp only [dAt, L2.atI_nat h]
  rfl
/-- a loop by an invariant, no way out -/
theorem forL_inv {t : D → Ev → Option Ev} {body : Ev → SO} (I : Nat → Ev → Prop) : ∀ (ds : List D) (j : Nat) (Γ : Ev), I j Γ →
    (∀ i d Γ, ds[i]? = some d → I (j + i) Γ → ∃ Γ1 Γ2, t d Γ = some Γ1 ∧ (body Γ1 = .nx Γ2 ∨ body Γ1 = .ct Γ2) ∧ I (j + i + 1) Γ2) → ∃ Γ', sForL t body ds Γ = .nx Γ' ∧ I (j + ds.length) Γ'
  | [], j, Γ, h, _ => ⟨Γ, rfl, h⟩
  | d :: ds, j, Γ, h, hs => by
    obtain ⟨Γ1, Γ2, h1, h2, h3⟩ := hs 0 d Γ rfl h
    obtain ⟨Γ', e, q⟩ := forL_inv I ds (j + 1) Γ2 h3 fun i d' Γ3 hd hi => by
      have := hs (i + 1) d' Γ3 (by simpa using hd) (by rw [show j + (i + 1) = j + 1 + i by omega]; exact hi)
      rw [show j + (i + 1) = j + 1 + i by omega] at this
      exact this
    refine ⟨Γ', ?_, by rw [List.length_cons, show j + (ds.length + 1) = j + 1 + ds.length by omega]; exact q⟩
    unfold sForL
    rw [h1]
    rcases h2 with h2 | h2 <;> (dsimp only; rw [h2]; exact e)
theorem range_get {lo : Int} {n i : Nat} {d : D} (h : (rangeL lo n)[i]? = some d) : i < n ∧ d = .int (lo + i) := by
  unfold rangeL at h
  rw [List.getElem?_map] at h
  by_cases c : i < n
  · rw [List.getElem?_range c] at h
    exact ⟨c, (Option.some.inj h).symm⟩
  · rw [List.getElem?_eq_none (by simpa using c)] at h
    cases h
theorem range_len {lo : Int} {n : Nat} : (rangeL lo n).length = n := by simp [rangeL]

/-! the list's values -/
theorem at_t0 {a : D} {r : List D} : dAt (.tuple (a :: r)) (.int 0) = some (.z, a) := at_tup (k := 0) rfl
theorem at_t1 {a b : D} {r : List D} : dAt (.tuple (a :: b :: r)) (.int 1) = some (.z, b) := at_tup (k := 1) rfl
theorem at_t2 {a b c : D} {r : List D} : dAt (.tuple (a :: b :: c :: r)) (.int 2) = some (.z, c) := at_tup (k := 2) rfl
theorem at_t3 {a b c d : D} {r : List D} : dAt (.tuple (a :: b :: c :: d :: r)) (.int 3) = some (.z, d) := at_tup (k := 3) rfl
theorem at_l0 {a : D} {r : List D} : dAt (.list (a :: r)) (.int 0) = some (.z, a) := at_list (k := 0) rfl
theorem at_l1 {a b : D} {r : List D} : dAt (.list (a :: b :: r)) (.int 1) = some (.z, b) := at_list (k := 1) rfl
theorem at_l2 {a b c : D} {r : List D} : dAt (.list (a :: b :: c :: r)) (.int 2) = some (.z, c) := at_list (k := 2) rfl
theorem at_l3 {a b c d : D} {r : List D} : dAt (.list (a :: b :: c :: d :: r)) (.int 3) = some (.z, d) := at_list (k := 3) rfl
/-- an item at a place that is known to be inside -/
theorem at_intI {ns : List Int} {i : Int} (h0 : 0 ≤ i) (h1 : i < ns.length) : dAt (L ns) (.int i) = some (.z, .int (ns[i.toNat]'(by omega))) := by
  have := at_int (ns := ns) (k := i.toNat) (x := ns[i.toNat]'(by omega)) (List.getElem?_eq_getElem _)
  rwa [Int.toNat_of_nonneg h0] at this
theorem at_listI {ds : List D} {i : Int} (h0 : 0 ≤ i) (h1 : i < ds.length) : dAt (.list ds) (.int i) = some (.z, ds[i.toNat]'(by omega)) := by
  have := at_list (ds := ds) (k := i.toNat) (x := ds[i.toNat]'(by omega)) (List.getElem?_eq_getElem _)
  rwa [Int.toNat_of_nonneg h0] at this
theorem app_int {ns : List Int} {x : Int} (h : ns.length < 16777216) : mAppend (ns.map .int) [.int x] = some (.none, (ns ++ [x]).map .int) := by
  unfold mAppend
  dsimp only
  rw [if_pos (by rw [List.length_map]; exact h), List.map_append]
  rfl
theorem app_d {ds : List D} {x : D} (h : ds.length < 16777216) : mAppend ds [x] = some (.none, ds ++ [x]) := if_pos h
theorem mul_ok {i j : Int} (h : i.natAbs < 2 ^ 64 ∨ j.natAbs < 2 ^ 64) : dMul (.int i) (.int j) = some (.z, .int (i * j)) := by
  unfold dMul
  exact if_pos (by unfold mulOk; rcases h with h | h <;> simp [h])
theorem div_ok {i j : Int} (h : 0 < j ∧ j < 2 ^ 64) : dDiv (.int i) (.int j) = some (.z, .int (i / j)) := if_pos h
theorem mod_ok {i j : Int} (h : 0 < j) : dMod (.int i) (.int j) = some (.z, .int (i % j)) := if_pos h
theorem eq_int {i j : Int} : dEq (.int i) (.int j) = some (.z, .bool (decide (i = j))) := id rfl
theorem ne_int {i j : Int} : dNe (.int i) (.int j) = some (.z, .bool !(decide (i = j))) := id rfl
theorem ne_str {i j : Str} : dNe (.str i) (.str j) = some (.z, .bool !(decide (i = j))) := id rfl
theorem lt_int {i j : Int} : dLt (.int i) (.int j) = some (.z, .bool (decide (i < j))) := id rfl
theorem gt_int {i j : Int} : dGt (.int i) (.int j) = some (.z, .bool (decide (j < i))) := id rfl
theorem le_int {i j : Int} : dLe (.int i) (.int j) = some (.z, .bool (decide (i ≤ j))) := id rfl
theorem ge_int {i j : Int} : dGe (.int i) (.int j) = some (.z, .bool (decide (j ≤ i))) := id rfl
theorem add_int {i j : Int} : dAdd (.int i) (.int j) = some (.z, .int (i + j)) := id rfl
theorem sub_int {i j : Int} : dSub (.int i) (.int j) = some (.z, .int (i - j)) := id rfl
theorem int_int {i : Int} : dIntV [.int i] = some (.z, .int i) := id rfl
theorem int_bool {b : Bool} : dIntV [.bool b] = some (.z, .int (if b = true then 1 else 0)) := id rfl
theorem len_l {ds : List D} : dLen [.list ds] = some (.z, .int ds.length) := id rfl
theorem len_t {ds : List D} : dLen [.tuple ds] = some (.z, .int ds.length) := id rfl
theorem len_scr {ns : List Int} : dLen [scr ns] = some (.z, .int ns.length) := by show some _ = _; rw [List.length_map]
theorem at_scr {ns : List Int} {k : Nat} {x : Int} (h : ns[k]? = some x) : dAt (scr ns) (.int k) = some (.z, .int x) := at_int h
/-- a comprehension whose item reads only -/
theorem comp_gen {is : List Nat} {t : D → Ev → Option Ev} {c : Ev → Out Bool} {fe : Ev → Out D} {Γ : Ev} (f : D → D) (b : D → Bool) : ∀ ds : List D,
    (∀ d ∈ ds, ∃ Γd, t d Γ = some Γd ∧ c Γd = .ok (b d) Γd ∧ (b d = true → fe Γd = .ok (f d) Γd) ∧ wipeG Γd is = Γ) → compL is t c fe ds Γ = some ((ds.filter b).map f, Γ)
  | [], _ => rfl
  | d :: ds, h => by
    obtain ⟨Γd, h1, h2, h3, h4⟩ := h d (List.mem_cons_self ..)
    have ih := comp_gen f b ds fun d hd => h d (List.mem_cons_of_mem _ hd)
    unfold compL
    rw [h1]
    dsimp only
    rw [h2]
    cases hb : b d with
    | true =>
      dsimp only
      rw [h3 hb]
      dsimp only
      rw [h4, ih, List.filter_cons, if_pos hb]
      rfl
    | false =>
      dsimp only
      rw [h4, ih, List.filter_cons, if_neg (by rw [hb]; exact Bool.false_ne_true)]
theorem comp_ok {is : List Nat} {ff : Ev → Out (List D)} {t : D → Ev → Option Ev} {c : Ev → Out Bool} {fe : Ev → Out D} {Γ Γ1 : Ev} {ds es : List D} (h1 : ff Γ = .ok ds Γ1) (hl : ds.length ≤ 16777216) (h2 : compL is t c fe ds (wipeG Γ1 is) = some (es, wipeG Γ1 is)) (h3 : restG Γ1 (wipeG Γ1 is) is = Γ1) :
    vComp is ff t c fe Γ = .ok (.l .z, .list es) Γ1 := by
  rw [vComp_ap, h1, bind_ok, if_pos hl, h2]
  dsimp only
  rw [h3]
theorem range0_get {n i : Nat} {d : D} (h : (rangeL 0 n)[i]? = some d) : i < n ∧ d = .int i := by
  obtain ⟨a, b⟩ := range_get h
  exact ⟨a, by rw [b, Int.zero_add]⟩
theorem r1_ok {c : Nat} {Γ : Ev} (h : c ≤ 16777216) : (if (c:Int) < 2^62 ∧ -(2^62) ≤ (c:Int) then Out.ok (rangeL 0 (c:Int).toNat) Γ else .st) = .ok (rangeL 0 c) Γ := by
  rw [if_pos (by omega), Int.toNat_natCast]
theorem erase_map {α β : Type} (f : α → β) : ∀ (l : List α) (k : Nat), (l.map f).eraseIdx k = (l.eraseIdx k).map f
  | [], _ => rfl
  | _ :: _, 0 => rfl
  | a :: l, k + 1 => congrArg (f a :: ·) (erase_map f l k)
theorem pop_int {ns : List Int} {k : Nat} {y : Int} (h : ns[k]? = some y) (hb : ns.length ≤ 16777216) : mPop (ns.map .int) [.int k] = some (.int y, (ns.eraseIdx k).map .int) := by
  have hk : k < ns.length := by
    by_cases c : k < ns.length
    · exact c
    · rw [List.getElem?_eq_none (by omega)] at h; cases h
  unfold mPop
  dsimp only
  have hs : seqIndex? (k : Int) (ns.map PyData.int).length = some k := by
    unfold seqIndex?
    rw [List.length_map]
    simp (disch := omega) [hk]
    try omega
  rw [if_pos (by omega), hs]
  have e : (ns.map PyData.int).eraseIdx k = (ns.eraseIdx k).map PyData.int := erase_map ..
  simp only [Option.bind_some, List.getElem?_map, h, Option.map_some, e]
theorem pop0 {x : D} {ds : List D} : mPop (x :: ds) [.int 0] = some (x, ds) := by
  unfold mPop
  dsimp only
  have hs : seqIndex? 0 (x :: ds).length = some 0 := by
    unfold seqIndex?
    simp only [List.length_cons]
    simp
    try omega
  rw [if_pos (by decide), hs]
  rfl
def dInT (neg : Bool) (tab : List (Str × Option D)) (d : D) : Option D := match d with
  | .str x => (tab.lookup x).map fun r => .bool (if neg then !r.isSome else r.isSome)
  | _ => none
def dGtT (tab : List (Str × Option D)) (d : D) : Option D := match d with
  | .str x => (tab.lookup x).bind fun r => r
  | _ => none
theorem inT_f {tab : List (Str × Option D)} {x : Str} : dInT false tab (.str x) = (tab.lookup x).map fun r => .bool r.isSome := id rfl
theorem inT_t {tab : List (Str × Option D)} {x : Str} : dInT true tab (.str x) = (tab.lookup x).map fun r => .bool !r.isSome := id rfl
theorem gtT_s {tab : List (Str × Option D)} {x : Str} : dGtT tab (.str x) = (tab.lookup x).bind fun r => r := id rfl
theorem fIn_ap {neg : Bool} {tab : List (Str × Option D)} {o : Opn} {Γ : Ev} : fIn neg tab o Γ = (o.f Γ).bind fun d Γ1 => .of ((o.l Γ1 d).bind (dInT neg tab)) Γ1 := by
  unfold fIn
  congr 1
theorem fGet_ap {tab : List (Str × Option D)} {o : Opn} {Γ : Ev} : fGet tab o Γ = (o.f Γ).bind fun d Γ1 => .of ((o.l Γ1 d).bind (dGtT tab)) Γ1 := by
  unfold fGet
  congr 1
theorem fGet2_nil {fd fk fx : Ev → Out D} {Γ Γ1 : Ev} (h : fd Γ = .ok (.dict []) Γ1) : fGet2 fd fk fx Γ = (fk Γ1).bind fun k Γ2 => (fx Γ2).bind fun x Γ3 => .of ((dKey k).map fun _ => x) Γ3 := by
  unfold fGet2
  rw [h]
  rfl
theorem key_i {i : Int} : dKey (.int i) = some (.inl i) := id rfl
theorem isS_s {α : Type} {a : α} : (some a).isSome = true := id rfl
theorem isS_n {α : Type} : (none : Option α).isSome = false := id rfl
theorem map_none {α β : Type} {f : α → β} : (none : Option α).map f = none := id rfl
theorem bind_none {α β : Type} {f : α → Option β} : (none : Option α).bind f = none := id rfl
theorem bools_mapP {α : Type} (p : α → Bool) : ∀ ns : List α, dBools (ns.map fun b => .bool (p b)) = some (ns.map p)
  | [] => rfl
  | n :: ns => by
    rw [List.map_cons, dBools, bools_mapP p ns]
    rfl
theorem sum_int {ns : List Int} : dSum [.list (ns.map .int)] = some (.z, .int ns.sum) := by
  unfold dSum
  dsimp only
  rw [ints_map]
  rfl
theorem all_b {α : Type} {p : α → Bool} {ns : List α} : dAll [.list (ns.map fun b => .bool (p b))] = some (.z, .bool ((ns.map p).all id)) := by
  unfold dAll
  dsimp only
  rw [bools_mapP]
  rfl
theorem any_b {α : Type} {p : α → Bool} {ns : List α} : dAny [.list (ns.map fun b => .bool (p b))] = some (.z, .bool ((ns.map p).any id)) := by
  unfold dAny
  dsimp only
  rw [bools_mapP]
  rfl
/-- a comprehension over integers, all of them taken -/
theorem comp_ints {i : Nat} {c : Ev → Out Bool} {fe : Ev → Out D} {Γ : Ev} (f : Int → D) (ns : List Int) (h0 : Γ.set i none = Γ) (hc : ∀ n ∈ ns, c (Γ.set i (some (.z, .int n))) = .ok true (Γ.set i (some (.z, .int n)))) (hf : ∀ n ∈ ns, fe (Γ.set i (some (.z, .int n))) = .ok (f n) (Γ.set i (some (.z, .int n)))) : compL [i] (gN i) c fe (ns.map .int) Γ = some (ns.map f, Γ) := by
  have := comp_gen (is := [i]) (t := gN i) (c := c) (fe := fe) (Γ := Γ) (fun d => match d with | .int n => f n | _ => .none) (fun _ => true) (ns.map .int) (fun d hd => by
    obtain ⟨n, hn, rfl⟩ := List.mem_map.mp hd
    refine ⟨_, rfl, hc n hn, fun _ => hf n hn, ?_⟩
    unfold wipeG
    show (wipeG _ []).set i none = Γ
    unfold wipeG
    rw [List.set_set, h0])
  rw [this, List.filter_eq_self.mpr fun _ _ => rfl, List.map_map]
  rfl
theorem lay_ints : ∀ ns : List Int, PyData.canLayAll0 (ns.map .int) = true
  | [] => by simp only [List.map_nil, PyData.canLayAll0]
  | n :: ns => by simp only [List.map_cons, PyData.canLayAll0, PyData.canLay0, lay_ints ns, Bool.and_self]
theorem depth_ints : ∀ ns : List Int, PyData.depthAll (ns.map .int) = 0
  | [] => by simp only [List.map_nil, PyData.depthAll]
  | n :: ns => by simp only [List.map_cons, PyData.depthAll, PyData.depth, depth_ints ns, Nat.max_self]
theorem eqv_ints : ∀ a b : List Int, PyData.eqvAll (a.map .int) (b.map .int) = decide (a = b)
  | [], [] => by simp [PyData.eqvAll]
  | [], b :: bs => by simp [PyData.eqvAll]
  | a :: as, [] => by simp [PyData.eqvAll]
  | a :: as, b :: bs => by
    simp only [List.map_cons, PyData.eqvAll, PyData.eqv, eqv_ints as bs, List.cons.injEq, Bool.decide_and]
    congr 1
theorem shaped_L (a : List Int) : SeqAt.shaped (L a) = true := by
  unfold SeqAt.shaped L
  simp only [PyData.canLay0, PyData.depth, lay_ints, depth_ints, Bool.true_and]
  decide
theorem eq_L {a b : List Int} : dEq (.list (a.map .int)) (.list (b.map .int)) = some (.z, .bool (decide (a = b))) := by
  show b2 (dEqv _ _) = _
  unfold dEqv
  rw [shaped_L, shaped_L]
  simp only [Bool.and_self, if_true, PyData.eqv, eqv_ints]
  rfl
theorem ne_LL {a b : List Int} : dNe (.list [.list (a.map .int), .list (b.map .int)]) (.list [.list (a.map .int), .list (b.map .int)]) = some (.z, .bool false) := by
  show b2 ((dEqv _ _).map not) = _
  unfold dEqv
  have : SeqAt.shaped (.list [.list (a.map .int), .list (b.map .int)]) = true := by
    unfold SeqAt.shaped
    simp only [PyData.canLay0, PyData.canLayAll0, PyData.depth, PyData.depthAll, lay_ints, depth_ints, Bool.true_and, Bool.and_true]
    decide
  rw [this]
  simp only [Bool.and_self, if_true, PyData.eqv, PyData.eqvAll, eqv_ints, decide_true]
  rfl
theorem isi_int {i : Int} : dIsi "int" (.int i) = some (.bool true) := by
  show some (PyData.bool (isB "int" "int")) = _
  rw [show isB "int" "int" = true by decide]
theorem isi_intb {i : Int} : dIsi "bool" (.int i) = some (.bool false) := by
  show some (PyData.bool (isB "int" "bool")) = _
  rw [show isB "int" "bool" = false by decide]
theorem isi_list {ds : List D} : dIsi "list" (.list ds) = some (.bool true) := by
  show some (PyData.bool (isB "list" "list")) = _
  rw [show isB "list" "list" = true by decide]
def tryC (o : Option Bool) (e : Exc) (Γ : Ev) (r : SO) : SO := match o with
  | some true => (match r with | .ex _ _ => .st | r => r)
  | some false => .ex e Γ
  | none => .st
def tryE (m : Str → Option Bool) (fs : Ev → SO) (r : SO) : SO := match r with
  | .ex e Γ1 => tryC (m e.c) e Γ1 (fs Γ1)
  | r => r
theorem sTry_ap {m : Str → Option Bool} {fb fs : Ev → SO} {Γ : Ev} : sTry m fb fs Γ = tryE m fs (fb Γ) := id rfl
theorem tryE_ex {m : Str → Option Bool} {fs : Ev → SO} {e : Exc} {Γ : Ev} : tryE m fs (.ex e Γ) = tryC (m e.c) e Γ (fs Γ) := id rfl
theorem tryE_nx {m : Str → Option Bool} {fs : Ev → SO} {Γ : Ev} : tryE m fs (.nx Γ) = .nx Γ := id rfl
theorem tryE_rt {m : Str → Option Bool} {fs : Ev → SO} {x : Va} {Γ : Ev} : tryE m fs (.rt x Γ) = .rt x Γ := id rfl
theorem tryC_nx {e : Exc} {Γ Γ1 : Ev} : tryC (some true) e Γ (.nx Γ1) = .nx Γ1 := id rfl
theorem tryC_rt {e : Exc} {Γ Γ1 : Ev} {x : Va} : tryC (some true) e Γ (.rt x Γ1) = .rt x Γ1 := id rfl
theorem tryC_f {e : Exc} {Γ : Ev} {r : SO} : tryC (some false) e Γ r = .ex e Γ := id rfl
theorem eq_str {i j : Str} : dEq (.str i) (.str j) = some (.z, .bool (decide (i = j))) := id rfl
theorem cut_to {α : Type} (ds : List α) (k : Nat) : cut ds none (some (k : Int)) = ds.take k := by
  unfold cut
  rw [HT.sIx_nat, HT.sIx_none, List.drop_zero, Nat.sub_zero]
  by_cases c : k ≤ ds.length
  · rw [Nat.min_eq_left c]
  · rw [Nat.min_eq_right (by omega), List.take_of_length_le (Nat.le_refl _), List.take_of_length_le (by omega)]
theorem cut_from {α : Type} (ds : List α) (k : Nat) : cut ds (some (k : Int)) none = ds.drop k := by
  unfold cut
  rw [HT.sIx_nat, HT.sIx_none, List.take_of_length_le (by rw [List.length_drop]; omega)]
  by_cases c : k ≤ ds.length
  · rw [Nat.min_eq_left c]
  · rw [Nat.min_eq_right (by omega), List.drop_of_length_le (Nat.le_refl _), List.drop_of_length_le (by omega)]
theorem cut_from1 {α : Type} (ds : List α) (k : Nat) : cut ds (some ((k : Int) + 1)) none = ds.drop (k + 1) := cut_from ds (k + 1)
theorem cut_mid {α : Type} (ds : List α) (a b : Nat) (h1 : a ≤ ds.length) (h2 : a + b ≤ ds.length) : cut ds (some (a : Int)) (some ((a : Int) + (b : Int))) = (ds.drop a).take b := by
  unfold cut
  rw [show (a : Int) + (b : Int) = ((a + b : Nat) : Int) by omega, HT.sIx_nat, HT.sIx_nat, Nat.min_eq_left h1, Nat.min_eq_left h2, Nat.add_sub_cancel_left]
theorem cut_l {ds : List D} {lo hi : Option Int} : dCut (.list ds) lo hi = some (.l .z, .list (cut ds lo hi)) := id rfl
theorem cut_t {ds : List D} {lo hi : Option Int} : dCut (.tuple ds) lo hi = some (.z, .tuple (cut ds lo hi)) := id rfl
theorem cat_l {a b : List D} (h : a.length + b.length ≤ 16777216) : dAdd (.list a) (.list b) = some (.l .z, .list (a ++ b)) := if_pos h
theorem fGet2_rs {fd fk fx : Ev → Out D} {Γ Γ1 : Ev} {rs : List (D × D)} (h : fd Γ = .ok (.dict rs) Γ1) (hk : (rs.all fun p => (dKey p.1).isSome) = true) : fGet2 fd fk fx Γ = (fk Γ1).bind fun k Γ2 => (fx Γ2).bind fun x Γ3 => .of ((dKey k).map fun y => (dLook rs y).getD x) Γ3 := by
  unfold fGet2
  rw [h]
  show (if _ then _ else _) = _
  rw [if_pos hk]
theorem set_ap {i : Nat} {fv fk : Ev → Out D} {Γ : Ev} : sSet i fv fk Γ = sB (fv Γ) fun d Γ1 => setS (Γ1[i]?) (sB (fk Γ1) fun k Γ2 => setE i d (Γ2[i]?) k Γ2) := id rfl
theorem setS_l {ds : List D} {r : SO} : setS (some (some (.l .z, .list ds))) r = r := id rfl
theorem setE_l {i : Nat} {d : D} {ds : List D} {n : Int} {j : Nat} {Γ : Ev} (h : L2.ixN ds.length n = some j) : setE i d (some (some (.l .z, .list ds))) (.int n) Γ = .nx (Γ.set i (some (.l .z, .list (ds.set j d)))) := by
  unfold setE
  dsimp only
  rw [h]
theorem vDct1_ap {fk fv : Ev → Out D} {Γ : Ev} : vDct1 fk fv Γ = (fk Γ).bind fun k Γ1 => (fv Γ1).bind fun d Γ2 => .of ((dKey k).map fun _ => ((.d .z, PyData.dict [(k, d)]) : Va)) Γ2 := id rfl
def chE (op' : D → D → Option Va) (b c : Opn) (y : D) (o : Option Va) (Γ2 : Ev) : Out D := match o with
  | some (.z, .bool true) => (c.f Γ2).bind fun w Γ3 => .of (((b.l Γ3 y).bind fun y => (c.l Γ3 w).bind fun w => op' y w).bind fun z => match z with | (.z, .bool k) => some (.bool k) | _ => none) Γ3
  | some (.z, .bool false) => .ok (.bool false) Γ2
  | _ => .st
theorem vch_ap {op op' : D → D → Option Va} {a b c : Opn} {Γ : Ev} : vCh op op' a b c Γ = (a.f Γ).bind fun x Γ1 => (b.f Γ1).bind fun y Γ2 => chE op' b c y ((a.l Γ2 x).bind fun x => (b.l Γ2 y).bind fun y => op x y) Γ2 := by
  unfold vCh
  congr 1
def chB (z : Va) : Option D := match z with | (.z, .bool k) => some (.bool k) | _ => none
theorem chB_b {k : Bool} : chB (.z, .bool k) = some (.bool k) := id rfl
theorem chE_t {op' : D → D → Option Va} {b c : Opn} {y : D} {Γ2 : Ev} : chE op' b c y (some (.z, .bool true)) Γ2 = (c.f Γ2).bind fun w Γ3 => .of (((b.l Γ3 y).bind fun y => (c.l Γ3 w).bind fun w => op' y w).bind chB) Γ3 := by
  unfold chE
  congr 1
theorem chE_f {op' : D → D → Option Va} {b c : Opn} {y : D} {Γ2 : Ev} : chE op' b c y (some (.z, .bool false)) Γ2 = .ok (.bool false) Γ2 := id rfl
end PV
namespace TM
open PySem PV
/-! ### the typed mirror -/
inductive E (α : Type) where
  | ok (a : α) | ex (e : Exc) | st
section
variable {α β γ δ σ ρ τ : Type}
def E.bind (m : E α) (k : α → E β) : E β := match m with | .ok a => k a | .ex e => .ex e | .st => .st
def E.nex (m : E α) : E α := match m with | .ex _ => .st | m => m
def E.ofO (o : Option α) : E α := match o with | some a => .ok a | none => .st
def E.map (f : α → β) (m : E α) : E β := m.bind fun a => .ok (f a)
def lim : Nat := 16777216
@[irreducible] def chk (c : Prop) [Decidable c] (a : α) : E α := if c then .ok a else .st
theorem ok_bind (a : α) (k : α → E β) : (E.ok a).bind k = k a := id rfl
theorem ex_bind (e : Exc) (k : α → E β) : (E.ex e : E α).bind k = .ex e := id rfl
theorem st_bind (k : α → E β) : (E.st : E α).bind k = .st := id rfl
theorem bind_ok_r (m : E α) : m.bind E.ok = m := by cases m <;> rfl
theorem bind_assoc (m : E α) (f : α → E β) (g : β → E γ) : (m.bind f).bind g = m.bind fun a => (f a).bind g := by cases m <;> rfl
theorem nex_ok (a : α) : (E.ok a).nex = .ok a := id rfl
theorem ofO_some (a : α) : E.ofO (some a) = .ok a := id rfl
theorem chk_ok {c : Prop} [Decidable c] {a : α} (h : c) : chk c a = .ok a := by unfold chk; exact if_pos h

/-! encodings -/
def eI : Int → D := .int
def eB : Bool → D := .bool
def eS : Str → D := .str
def eN : Unit → D := fun _ => .none
def eA : D → D := fun d => d
def eL (e : α → D) : List α → D := fun xs => .list (xs.map e)
def eT (e : α → D) : List α → D := fun xs => .tuple (xs.map e)
def eO (e : α → D) : Option α → D := fun o => match o with | none => .none | some a => e a
def eP (e : α → List D) : α → D := fun a => .tuple (e a)
def n0 : Unit → List D := fun _ => []
def n1 (e : α → D) : α → List D := fun a => [e a]
def nc (e : α → D) (es : β → List D) : α × β → List D := fun p => e p.1 :: es p.2
def eD (ek : α → D) (ev : β → D) : List (α × β) → D := fun kvs => .dict (kvs.map fun p => (ek p.1, ev p.2))
def eScr : List Int → D := scr
def vs (s : Sh) (e : α → D) : α → Va := fun a => (s, e a)

/-! what stands for what -/
def Si (r : Out β) (m : E α) (e : α → β) (Γ' : Ev) : Prop := match m with | .ok a => r = .ok (e a) Γ' | .ex x => ∃ Γ, r = .ex x Γ | .st => True
def So (o : Opn) (Γ : Ev) (m : E α) (e : α → D) (Γ1 Γ2 : Ev) : Prop := match m with | .ok a => ∃ d, o.f Γ = .ok d Γ1 ∧ o.l Γ2 d = some (e a) | .ex x => ∃ Γ', o.f Γ = .ex x Γ' | .st => True
def R0 (r : Option β) (m : E α) (e : α → β) : Prop := match m with | .ok a => r = some (e a) | .ex _ => False | .st => True
def Sr (r : Res) (m : E α) (e : α → Va) : Prop := match m with | .ok a => r = .ok (e a) | .ex x => r = .ex x | .st => True
/-- .. of a def (a structure: nothing looks through it) -/
structure Sd (r : Res) (m : E α) (e : α → Va) : Prop where
  run : Sr r m e
theorem sd_mk {r : Res} {m m' : E α} {e : α → Va} (h : Sr r m e) (q : m = m') : Sd r m' e := ⟨q ▸ h⟩
def Ti (r : SO) (m : E τ) (R : τ → SO → Prop) : Prop := match m with | .ok a => R a r | .ex x => ∃ Γ, r = .ex x Γ | .st => True
def run : List (Ev → SO) → Ev → SO
  | [], Γ => .nx Γ
  | s :: ss, Γ => (s Γ).then (run ss)

theorem Si.bind {r : Out β} {m : E α} {e : α → β} {Γ1 Γ2 : Ev} {k : β → Ev → Out δ} {mk : α → E γ} {e' : γ → δ} (h : Si r m e Γ1) (hk : ∀ a, m = .ok a → Si (k (e a) Γ1) (mk a) e' Γ2) : Si (r.bind k) (m.bind mk) e' Γ2 := by
  cases m with
  | ok a => rw [show r = .ok (e a) Γ1 from h]; exact hk a rfl
  | ex x => obtain ⟨Γ, h⟩ := h; exact ⟨Γ, by rw [h]; rfl⟩
  | st => trivial
theorem Si.of {o : Option β} {m : E α} {e : α → β} {Γ : Ev} (h : R0 o m e) : Si (.of o Γ) m e Γ := by
  cases m with
  | ok a => show Out.of o Γ = _; rw [show o = some (e a) from h]; rfl
  | ex x => exact h.elim
  | st => trivial
theorem Si.cast {r r' : Out β} {m : E α} {e : α → β} {Γ1 : Ev} (h : Si r m e Γ1) (q : r' = r) : Si r' m e Γ1 := q ▸ h
theorem Si.eq {r : Out β} {m m' : E α} {e : α → β} {Γ1 : Ev} (h : Si r m e Γ1) (q : m = m') : Si r m' e Γ1 := q ▸ h
theorem Si.map {r : Out β} {m : E α} {e : α → β} {Γ1 : Ev} {f : α → γ} {e' : γ → β} (h : Si r m e Γ1) (q : ∀ a, e a = e' (f a)) : Si r (m.bind fun a => .ok (f a)) e' Γ1 := by
  cases m with
  | ok a => show r = _; rw [show r = .ok (e a) Γ1 from h, q]
  | ex x => exact h
  | st => trivial

section
variable {Γ Γ1 Γ2 Γ3 : Ev} {e : α → D} {e1 : β → D} {e2 : γ → D} {f f1 f2 : Ev → Out D} {u v : Ev → Out Va} {m : E α} {m1 : E β} {m2 : E γ} {s : Sh}
theorem j_c (d : D) (e : α → D) (a : α) (h : d = e a) : Si (fC d Γ) (.ok a) e Γ := by show fC d Γ = _; rw [h]; rfl
theorem j_n (i : Nat) (e : α → D) (a : α) (h : Γ[i]? = some (some (.z, e a))) : Si (fN i Γ) (.ok a) e Γ := by show fN i Γ = _; unfold fN; rw [h]
theorem j_z (i : Nat) (s : Sh) (e : α → D) (a : α) (h : Γ[i]? = some (some (s, e a))) : Si (fZ i Γ) (.ok a) e (Γ.set i (some (.z, e a))) := by show fZ i Γ = _; unfold fZ; rw [h]
theorem j_mv (i : Nat) (s : Sh) (e : α → D) (a : α) (h : Γ[i]? = some (some (s, e a))) : Si (vMv i Γ) (.ok a) (vs s e) (Γ.set i none) := by show vMv i Γ = _; unfold vMv; rw [h]; rfl
theorem j_v (h : Si (u Γ) m (vs s e) Γ1) : Si (fV u Γ) m e Γ1 := by
  cases m with
  | ok a => show (u Γ).bind _ = _; rw [show u Γ = .ok (vs s e a) Γ1 from h]; rfl
  | ex x => obtain ⟨Γ', h⟩ := h; exact ⟨Γ', by show (u Γ).bind _ = _; rw [h]; rfl⟩
  | st => trivial
theorem j_vf (h : Si (f Γ) m e Γ1) : Si (vF f Γ) m (vs .z e) Γ1 := by
  cases m with
  | ok a => show (f Γ).bind _ = _; rw [show f Γ = .ok (e a) Γ1 from h]; rfl
  | ex x => obtain ⟨Γ', h⟩ := h; exact ⟨Γ', by show (f Γ).bind _ = _; rw [h]; rfl⟩
  | st => trivial
/-- coercions -/
theorem j_some {r : Out D} (h : Si r m e Γ1) : Si r (m.bind fun a => .ok (some a)) (eO e) Γ1 := h.map fun _ => rfl
theorem j_un {r : Out D} {m : E (Option α)} (h : Si r m (eO e) Γ1) : Si r (m.bind E.ofO) e Γ1 := by
  cases m with
  | ok a => cases a with
    | none => trivial
    | some a => exact h
  | ex x => exact h
  | st => trivial
theorem o_f (h : Si (f Γ) m e Γ1) : So (oF f) Γ m e Γ1 Γ2 := by
  cases m with
  | ok a => exact ⟨e a, h, rfl⟩
  | ex x => exact h
  | st => trivial
theorem o_b (i : Nat) (x : Va) (e : α → D) (a : α) (h : Γ[i]? = some (some x)) (h2 : gBl (Γ2[i]?) = some (e a)) : So (oB i) Γ (.ok a) e Γ Γ2 := by
  refine ⟨.none, ?_, h2⟩
  show (oB i).f Γ = _
  rw [oB_f, h]
  rfl
theorem j_o2 {op : D → D → Option Va} {oa ob : Opn} {ma : E α} {mb : E β} {mo : α → β → E γ} {ez : γ → Va} (h1 : So oa Γ ma e Γ1 Γ2) (h2 : So ob Γ1 mb e1 Γ2 Γ2) (ho : ∀ a b, ma = .ok a → mb = .ok b → R0 (op (e a) (e1 b)) (mo a b) ez) : Si (o2 op oa ob Γ) (ma.bind fun a => mb.bind fun b => mo a b) ez Γ2 := by
  rw [o2_ap]
  cases ma with
  | ok a =>
    obtain ⟨d, q1, q2⟩ := h1
    rw [q1]
    cases mb with
    | ok b =>
      obtain ⟨d', q3, q4⟩ := h2
      rw [bind_ok, q3, bind_ok, q2, q4]
      exact Si.of (ho a b rfl rfl)
    | ex x => obtain ⟨Γ', h⟩ := h2; rw [bind_ok, h]; exact ⟨Γ', rfl⟩
    | st => trivial
  | ex x => obtain ⟨Γ', h⟩ := h1; rw [h]; exact ⟨Γ', rfl⟩
  | st => trivial
theorem j_b1 {op : List D → Option Va} {oa : Opn} {ma : E α} {mo : α → E γ} {ez : γ → Va} (h1 : So oa Γ ma e Γ1 Γ1) (ho : ∀ a, ma = .ok a → R0 (op [e a]) (mo a) ez) : Si (fB op (osC oa osN) Γ) (ma.bind mo) ez Γ1 := by
  rw [fB_ap, osC_f]
  cases ma with
  | ok a =>
    obtain ⟨d, q1, q2⟩ := h1
    rw [q1, bind_ok, osN_f, bind_ok, bind_ok, osC_l, q2]
    exact Si.of (ho a rfl)
  | ex x => obtain ⟨Γ', h⟩ := h1; rw [h]; exact ⟨Γ', rfl⟩
  | st => trivial
theorem j_b2 {op : List D → Option Va} {oa ob : Opn} {ma : E α} {mb : E β} {mo : α → β → E γ} {ez : γ → Va} (h1 : So oa Γ ma e Γ1 Γ2) (h2 : So ob Γ1 mb e1 Γ2 Γ2) (ho : ∀ a b, R0 (op [e a, e1 b]) (mo a b) ez) : Si (fB op (osC oa (osC ob osN)) Γ) (ma.bind fun a => mb.bind fun b => mo a b) ez Γ2 := by
  rw [fB_ap, osC_f]
  cases ma with
  | ok a =>
    obtain ⟨d, q1, q2⟩ := h1
    rw [q1, bind_ok, osC_f]
    cases mb with
    | ok b =>
      obtain ⟨d', q3, q4⟩ := h2
      rw [q3, bind_ok, osN_f, bind_ok, bind_ok, bind_ok, osC_l, q2, Option.bind_some, osC_l, q4]
      exact Si.of (ho a b)
    | ex x => obtain ⟨Γ', h⟩ := h2; rw [h]; exact ⟨Γ', rfl⟩
    | st => trivial
  | ex x => obtain ⟨Γ', h⟩ := h1; rw [h]; exact ⟨Γ', rfl⟩
  | st => trivial
/-! rows of values -/
theorem f_0 : Si (fsN Γ) (.ok ()) n0 Γ := rfl
theorem f_1 (h : Si (f Γ) m e Γ1) : Si (fsC f fsN Γ) m (n1 e) Γ1 := by
  cases m with
  | ok a => rw [fsC_ap, show f Γ = .ok (e a) Γ1 from h]; rfl
  | ex x => obtain ⟨Γ', h⟩ := h; exact ⟨Γ', by rw [fsC_ap, h]; rfl⟩
  | st => trivial
theorem f_c {fs : Ev → Out (List D)} {es : β → List D} {ms : E β} (h : Si (f Γ) m e Γ1) (hs : Si (fs Γ1) ms es Γ2) : Si (fsC f fs Γ) (m.bind fun a => ms.bind fun b => .ok (a, b)) (nc e es) Γ2 := by
  rw [fsC_ap]
  refine h.bind fun a _ => ?_
  refine hs.bind fun b _ => ?_
  rfl
theorem f_l0 (e : α → D) : Si (fsN Γ) (.ok []) (List.map e) Γ := rfl
theorem f_lc {fs : Ev → Out (List D)} {ms : E (List α)} (h : Si (f Γ) m e Γ1) (hs : Si (fs Γ1) ms (List.map e) Γ2) : Si (fsC f fs Γ) (m.bind fun a => ms.bind fun b => .ok (a :: b)) (List.map e) Γ2 := by
  rw [fsC_ap]
  refine h.bind fun a _ => ?_
  refine hs.bind fun b _ => ?_
  rfl
theorem j_lst {fs : Ev → Out (List D)} {ms : E (List α)} (n : Nat) (hs : Si (fs Γ) ms (List.map e) Γ1) (hn : n ≤ 16777216) (hl : ∀ a, ms = .ok a → a.length = n) : Si (fLst fs Γ) ms (vs (.l .z) (eL e)) Γ1 := by
  rw [fLst_ap]
  cases ms with
  | ok a =>
    rw [show fs Γ = _ from hs, bind_ok, if_pos (by rw [List.length_map, hl a rfl]; exact hn)]
    rfl
  | ex x => obtain ⟨Γ', h⟩ := hs; rw [h]; exact ⟨Γ', rfl⟩
  | st => trivial
theorem j_ttup {fs : Ev → Out (List D)} {ms : E (List α)} (n : Nat) (hs : Si (fs Γ) ms (List.map e) Γ1) (hn : n ≤ 16777216) (hl : ∀ a, ms = .ok a → a.length = n) : Si (fTup fs Γ) ms (eT e) Γ1 := by
  rw [fTup_ap]
  cases ms with
  | ok a =>
    rw [show fs Γ = _ from hs, bind_ok, if_pos (by rw [List.length_map, hl a rfl]; exact hn)]
    rfl
  | ex x => obtain ⟨Γ', h⟩ := hs; rw [h]; exact ⟨Γ', rfl⟩
  | st => trivial
theorem j_tup {fs : Ev → Out (List D)} {ms : E β} {es : β → List D} (n : Nat) (hs : Si (fs Γ) ms es Γ1) (hn : n ≤ 16777216) (hl : ∀ a, (es a).length = n) : Si (fTup fs Γ) ms (eP es) Γ1 := by
  rw [fTup_ap]
  cases ms with
  | ok a =>
    rw [show fs Γ = _ from hs, bind_ok, if_pos (by rw [hl a]; exact hn)]
    rfl
  | ex x => obtain ⟨Γ', h⟩ := hs; rw [h]; exact ⟨Γ', rfl⟩
  | st => trivial
theorem j_call {n : Nat} {F : List D → Res} {fs : Ev → Out (List D)} {ms : E β} {es : β → List D} {M : β → E γ} {ez : γ → Va} (hs : Si (fs Γ) ms es Γ1) (hF : ∀ a, Sd (F (es a)) (M a) ez) (hl : ∀ a, (es a).length = n) : Si (fCall n F fs Γ) (ms.bind M) ez Γ1 := by
  rw [fCall_ap]
  refine hs.bind fun a _ => ?_
  rw [if_pos (hl a)]
  have h := (hF a).run
  cases hM : M a with
  | ok z => rw [hM] at h; rw [show F (es a) = .ok (ez z) from h]; rfl
  | ex x => rw [hM] at h; rw [show F (es a) = .ex x from h]; exact ⟨_, rfl⟩
  | st => trivial
/-! tests -/
theorem j_bv {mb : E Bool} (h : Si (u Γ) mb (vs s eB) Γ1) : Si (bV u Γ) mb id Γ1 := by
  rw [bV_ap]
  cases mb with
  | ok a => rw [show u Γ = _ from h]; rfl
  | ex x => obtain ⟨Γ', h⟩ := h; rw [h]; exact ⟨Γ', rfl⟩
  | st => trivial
theorem j_bf {mb : E Bool} (h : Si (f Γ) mb eB Γ1) : Si (bF f Γ) mb id Γ1 := by
  rw [bF_ap]
  cases mb with
  | ok a => rw [show f Γ = _ from h]; rfl
  | ex x => obtain ⟨Γ', h⟩ := h; rw [h]; exact ⟨Γ', rfl⟩
  | st => trivial
theorem j_bo {o : Opn} {mt : α → E Bool} (h : So o Γ m e Γ1 Γ1) (ht : ∀ a, R0 (dTru (e a)) (mt a) id) : Si (bO o Γ) (m.bind mt) id Γ1 := by
  rw [bO_ap]
  cases m with
  | ok a =>
    obtain ⟨d, q1, q2⟩ := h
    rw [q1, bind_ok, q2]
    exact Si.of (ht a)
  | ex x => obtain ⟨Γ', h⟩ := h; rw [h]; exact ⟨Γ', rfl⟩
  | st => trivial
theorem j_not {c : Ev → Out Bool} {mb : E Bool} (h : Si (c Γ) mb id Γ1) : Si (bNot c Γ) (mb.bind fun b => .ok (!b)) id Γ1 := by
  rw [bNot_ap]
  refine h.bind fun b _ => ?_
  rfl
theorem j_and {c c' : Ev → Out Bool} {mb mc : E Bool} (h : Si (c Γ) mb id Γ) (h' : Si (c' Γ) mc id Γ) : Si (bAnd c c' Γ) (mb.bind fun b => if b = true then mc else .ok false) id Γ := by
  rw [bAnd_ap]
  refine h.bind fun b _ => ?_
  cases b with
  | true => simpa using h'
  | false => rfl
theorem j_or {c c' : Ev → Out Bool} {mb mc : E Bool} (h : Si (c Γ) mb id Γ) (h' : Si (c' Γ) mc id Γ) : Si (bOr c c' Γ) (mb.bind fun b => if b = true then .ok true else mc) id Γ := by
  rw [bOr_ap]
  refine h.bind fun b _ => ?_
  cases b with
  | true => rfl
  | false => simpa using h'
theorem j_andP {c c' : Ev → Out Bool} {mb : E Bool} {b' : Bool} (h : Si (c Γ) mb id Γ) (h' : Si (c' Γ) (.ok b') id Γ) : Si (bAnd c c' Γ) (mb.bind fun b => .ok (b && b')) id Γ := by
  rw [bAnd_ap]
  refine h.bind fun b _ => ?_
  cases b with
  | true => simpa using h'
  | false => rfl
theorem j_orP {c c' : Ev → Out Bool} {mb : E Bool} {b' : Bool} (h : Si (c Γ) mb id Γ) (h' : Si (c' Γ) (.ok b') id Γ) : Si (bOr c c' Γ) (mb.bind fun b => .ok (b || b')) id Γ := by
  rw [bOr_ap]
  refine h.bind fun b _ => ?_
  cases b with
  | true => rfl
  | false => simpa using h'
theorem j_if {c : Ev → Out Bool} {mb : E Bool} {ez : γ → Va} {ma mc : E γ} (h : Si (c Γ) mb id Γ1) (h1 : Si (u Γ1) ma ez Γ1) (h2 : Si (v Γ1) mc ez Γ1) : Si (vIf c u v Γ) (mb.bind fun b => if b = true then ma else mc) ez Γ1 := by
  rw [vIf_ap]
  refine h.bind fun b _ => ?_
  cases b with
  | true => simpa using h1
  | false => simpa using h2
/-- and, or as values -/
theorem j_vand {mb mc : E Bool} (h : Si (f Γ) mb eB Γ) (h' : Si (v Γ) mc (vs .z eB) Γ) : Si (vAnd f v Γ) (mb.bind fun b => if b = true then mc else .ok false) (vs .z eB) Γ := by
  rw [vAnd_ap]
  refine h.bind fun b _ => ?_
  cases b with
  | true => exact (show Si (v Γ) (if true = true then mc else .ok false) _ _ by rw [if_pos rfl]; exact h')
  | false => rfl
theorem j_vor {mb mc : E Bool} (h : Si (f Γ) mb eB Γ) (h' : Si (v Γ) mc (vs .z eB) Γ) : Si (vOr f v Γ) (mb.bind fun b => if b = true then .ok true else mc) (vs .z eB) Γ := by
  rw [vOr_ap]
  refine h.bind fun b _ => ?_
  cases b with
  | true => rfl
  | false => exact (show Si (v Γ) (if false = true then .ok true else mc) _ _ by rw [if_neg Bool.false_ne_true]; exact h')
theorem j_vandP {mb : E Bool} {b' : Bool} (h : Si (f Γ) mb eB Γ) (h' : Si (v Γ) (.ok b') (vs .z eB) Γ) : Si (vAnd f v Γ) (mb.bind fun b => .ok (b && b')) (vs .z eB) Γ := by
  rw [vAnd_ap]
  refine h.bind fun b _ => ?_
  cases b with
  | true => exact (show Si (v Γ) (.ok (true && b')) _ _ by rw [Bool.true_and]; exact h')
  | false => rfl
theorem j_vorP {mb : E Bool} {b' : Bool} (h : Si (f Γ) mb eB Γ) (h' : Si (v Γ) (.ok b') (vs .z eB) Γ) : Si (vOr f v Γ) (mb.bind fun b => .ok (b || b')) (vs .z eB) Γ := by
  rw [vOr_ap]
  refine h.bind fun b _ => ?_
  cases b with
  | true => rfl
  | false => exact (show Si (v Γ) (.ok (false || b')) _ _ by rw [Bool.false_or]; exact h')
theorem j_fnot {mb : E Bool} (h : Si (f Γ) mb eB Γ1) : Si (fNot f Γ) (mb.bind fun b => .ok (!b)) eB Γ1 := by
  rw [fNot_ap]
  refine h.bind fun b _ => ?_
  rfl
theorem j_neg {mb : E Int} (h : Si (f Γ) mb eI Γ1) : Si (fNeg f Γ) (mb.bind fun b => .ok (-b)) eI Γ1 := by
  rw [fNeg_ap]
  refine h.bind fun b _ => ?_
  rfl
/-! slices -/
theorem p_n : Si (fPN Γ) (.ok none) id Γ := rfl
theorem p_s {mb : E Int} (h : Si (f Γ) mb eI Γ1) : Si (fPS f Γ) (mb.bind fun b => .ok (some b)) id Γ1 := by
  rw [fPS_ap]
  refine h.bind fun b _ => ?_
  rfl
theorem j_cut {o : Opn} {p q : Ev → Out (Option Int)} {mp mq : E (Option Int)} {mo : α → Option Int → Option Int → E γ} {ez : γ → Va} (h : So o Γ m e Γ1 Γ3) (h1 : Si (p Γ1) mp id Γ2) (h2 : Si (q Γ2) mq id Γ3) (ho : ∀ a lo hi, R0 (dCut (e a) lo hi) (mo a lo hi) ez) : Si (vCut o p q Γ) (m.bind fun a => mp.bind fun lo => mq.bind fun hi => mo a lo hi) ez Γ3 := by
  rw [vCut_ap]
  cases m with
  | ok a =>
    obtain ⟨d, q1, q2⟩ := h
    rw [q1, bind_ok, ok_bind]
    refine h1.bind fun lo _ => ?_
    refine h2.bind fun hi _ => ?_
    rw [q2]
    exact Si.of (ho a lo hi)
  | ex x => obtain ⟨Γ', h⟩ := h; rw [h]; exact ⟨Γ', rfl⟩
  | st => trivial
/-! what is walked -/
def rg (lo : Int) (n : Nat) : List Int := (List.range n).map fun k => lo + (k : Nat)
theorem rg_map (lo : Int) (n : Nat) : rangeL lo n = (rg lo n).map eI := by unfold rangeL rg; rw [List.map_map]; rfl
def rg1 (n : Int) : E (List Int) := chk (n < 2 ^ 62 ∧ -(2 ^ 62) ≤ n) (rg 0 n.toNat)
def rg2 (lo hi : Int) : E (List Int) := chk ((hi < 2 ^ 62 ∧ -(2 ^ 62) ≤ hi) ∧ lo < 2 ^ 62 ∧ -(2 ^ 62) ≤ lo) (rg lo (hi - lo).toNat)
theorem i_l (h : Si (f Γ) m' (eL e) Γ1) : Si (iLT f Γ) m' (List.map e) Γ1 := by
  rw [iLT_ap]
  cases m' with
  | ok a => rw [show f Γ = _ from h]; rfl
  | ex x => obtain ⟨Γ', h⟩ := h; rw [h]; exact ⟨Γ', rfl⟩
  | st => trivial
theorem i_t (h : Si (f Γ) m' (eT e) Γ1) : Si (iLT f Γ) m' (List.map e) Γ1 := by
  rw [iLT_ap]
  cases m' with
  | ok a => rw [show f Γ = _ from h]; rfl
  | ex x => obtain ⟨Γ', h⟩ := h; rw [h]; exact ⟨Γ', rfl⟩
  | st => trivial
theorem i_r1 {fs : Ev → Out (List D)} {ms : E Int} (h : Si (fs Γ) ms (n1 eI) Γ1) : Si (iR1 fs Γ) (ms.bind rg1) (List.map eI) Γ1 := by
  rw [iR1_ap]
  refine h.bind fun n _ => ?_
  unfold rg1 chk
  show Si (if _ then _ else _) _ _ _
  split
  · show Out.ok _ _ = _; rw [rg_map]
  · trivial
theorem i_r2 {fs : Ev → Out (List D)} {ms : E (Int × Int)} (h : Si (fs Γ) ms (nc eI (n1 eI)) Γ1) : Si (iR2 fs Γ) (ms.bind fun p => rg2 p.1 p.2) (List.map eI) Γ1 := by
  rw [iR2_ap]
  refine h.bind fun n _ => ?_
  unfold rg2 chk
  show Si (if _ then _ else _) _ _ _
  split
  · show Out.ok _ _ = _; rw [rg_map]
  · trivial
def enum (xs : List α) : List (Int × α) := xs.zipIdx.map fun p => ((p.2 : Nat), p.1)
theorem enum_map (xs : List α) : enumL (xs.map e) = (enum xs).map (eP (nc eI (n1 e))) := by
  unfold enumL enum
  rw [List.zipIdx_map, List.map_map, List.map_map]
  rfl
theorem i_en {fs : Ev → Out (List D)} {ms : E (List α)} (h : Si (fs Γ) ms (n1 (eL e)) Γ1) : Si (iEn fs Γ) (ms.bind fun xs => .ok (enum xs)) (List.map (eP (nc eI (n1 e)))) Γ1 := by
  rw [iEn_ap]
  refine h.bind fun n _ => ?_
  show Out.ok (enumL _) _ = _
  rw [enum_map]
theorem zip_map (xs : List α) (ys : List β) : zipL (xs.map e) (ys.map e1) = (xs.zip ys).map (eP (nc e (n1 e1))) := by
  unfold zipL
  rw [List.zip_map, List.map_map]
  rfl
theorem i_zp {fs : Ev → Out (List D)} {ms : E (List α × List β)} (h : Si (fs Γ) ms (nc (eL e) (n1 (eL e1))) Γ1) : Si (iZp fs Γ) (ms.bind fun p => .ok (p.1.zip p.2)) (List.map (eP (nc e (n1 e1)))) Γ1 := by
  rw [iZp_ap]
  refine h.bind fun n _ => ?_
  show Out.ok (zipL _ _) _ = _
  rw [zip_map]
def lrE (n : Int) : E (List Int) := chk (0 ≤ n ∧ n ≤ 16777216) (rg 0 n.toNat)
theorem j_lr1 {mn : E Int} (h : Si (f Γ) mn eI Γ1) : Si (vLR1 f Γ) (mn.bind lrE) (vs (.l .z) (eL eI)) Γ1 := by
  rw [vLR1_ap]
  refine h.bind fun n _ => ?_
  unfold lrE chk
  show Si (if _ then _ else _) _ _ _
  split
  · show Out.ok _ _ = _; rw [rg_map]; rfl
  · trivial
theorem j_tr1 {mn : E Int} (h : Si (f Γ) mn eI Γ1) : Si (fTR1 f Γ) (mn.bind lrE) (eT eI) Γ1 := by
  show Si ((f Γ).bind _) _ _ _
  refine h.bind fun n _ => ?_
  unfold lrE chk
  show Si (if _ then _ else _) _ _ _
  split
  · show Out.ok _ _ = _; rw [rg_map]; rfl
  · trivial
/-! comprehensions -/
def compG (c : α → E Bool) (g : α → E β) : List α → E (List β)
  | [] => .ok []
  | x :: xs => match c x with
    | .ok true => (match g x with | .ok y => (compG c g xs).bind fun ys => .ok (y :: ys) | _ => .st)
    | .ok false => compG c g xs
    | _ => .st
@[irreducible] def compE (c : α → E Bool) (g : α → E β) (xs : List α) : E (List β) := if xs.length ≤ 16777216 then compG c g xs else .st
def mapE (g : α → β) (xs : List α) : E (List β) := chk (xs.length ≤ 16777216) (xs.map g)
def filE (c : α → Bool) (g : α → β) (xs : List α) : E (List β) := chk (xs.length ≤ 16777216) ((xs.filter c).map g)
theorem compG_nex (c : α → E Bool) (g : α → E β) : ∀ xs x, compG c g xs ≠ .ex x
  | [], x => fun h => by cases h
  | y :: ys, x => by
    unfold compG
    split
    · split
      · cases h : compG c g ys with
        | ok a => exact fun z => by cases z
        | ex e => exact absurd h (compG_nex c g ys e)
        | st => exact fun z => by cases z
      · exact fun z => by cases z
    · exact compG_nex c g ys x
    · exact fun z => by cases z
theorem compL_ok {is : List Nat} {t : D → Ev → Option Ev} {c : Ev → Out Bool} {fe : Ev → Out D} {Γ0 : Ev} {ex : α → D} {ey : β → D} {mc : α → E Bool} {mg : α → E β}
    (hb : ∀ x, ∃ Γx Γy Γz, t (ex x) Γ0 = some Γx ∧ Si (c Γx) (mc x) id Γy ∧ Si (fe Γy) (mg x) ey Γz ∧ wipeG Γy is = Γ0 ∧ wipeG Γz is = Γ0) : ∀ xs ys, compG mc mg xs = .ok ys → compL is t c fe (xs.map ex) Γ0 = some (ys.map ey, Γ0)
  | [], ys, h => by cases h; rfl
  | x :: xs, ys, h => by
    obtain ⟨Γx, Γy, Γz, h1, h2, h3, h4, h5⟩ := hb x
    rw [List.map_cons]
    unfold compL
    rw [h1]
    dsimp only
    unfold compG at h
    cases hc : mc x with
    | ok b =>
      rw [hc] at h h2
      rw [show c Γx = .ok b Γy from h2]
      cases b with
      | true =>
        dsimp only at h ⊢
        cases hg : mg x with
        | ok y =>
          rw [hg] at h h3
          rw [show fe Γy = .ok (ey y) Γz from h3]
          dsimp only at h ⊢
          cases hr : compG mc mg xs with
          | ok zs =>
            rw [hr] at h
            cases h
            rw [h5, compL_ok hb xs zs hr]
            rfl
          | ex e => rw [hr] at h; cases h
          | st => rw [hr] at h; cases h
        | ex e => rw [hg] at h; cases h
        | st => rw [hg] at h; cases h
      | false =>
        dsimp only at h ⊢
        rw [h4]
        exact compL_ok hb xs ys h
    | ex e => rw [hc] at h; cases h
    | st => rw [hc] at h; cases h
theorem j_comp {is : List Nat} {ff : Ev → Out (List D)} {t : D → Ev → Option Ev} {c : Ev → Out Bool} {fe : Ev → Out D} {mi : E (List α)} {ex : α → D} {ey : β → D} {mc : α → E Bool} {mg : α → E β} (hi : Si (ff Γ) mi (List.map ex) Γ1)
    (hb : ∀ x, ∃ Γx Γy Γz, t (ex x) (wipeG Γ1 is) = some Γx ∧ Si (c Γx) (mc x) id Γy ∧ Si (fe Γy) (mg x) ey Γz ∧ wipeG Γy is = wipeG Γ1 is ∧ wipeG Γz is = wipeG Γ1 is) (hr : restG Γ1 (wipeG Γ1 is) is = Γ1) :
    Si (vComp is ff t c fe Γ) (mi.bind fun xs => compE mc mg xs) (vs (.l .z) (eL ey)) Γ1 := by
  rw [vComp_ap]
  refine hi.bind fun xs _ => ?_
  unfold compE
  rw [List.length_map]
  split
  · cases h : compG mc mg xs with
    | ok ys =>
      rw [compL_ok hb xs ys h]
      dsimp only
      rw [hr]
      rfl
    | ex e => exact absurd h (compG_nex _ _ _ _)
    | st => trivial
  · trivial
theorem compG_pure (c : α → Bool) (g : α → β) : ∀ xs, compG (fun x => .ok (c x)) (fun x => .ok (g x)) xs = .ok ((xs.filter c).map g)
  | [] => rfl
  | x :: xs => by
    unfold compG
    cases h : c x with
    | true => simp only [compG_pure c g xs, ok_bind, List.filter_cons, h, if_true, List.map_cons]
    | false => simp only [compG_pure c g xs, List.filter_cons, h, Bool.false_eq_true, if_false]
theorem j_compF {is : List Nat} {ff : Ev → Out (List D)} {t : D → Ev → Option Ev} {c : Ev → Out Bool} {fe : Ev → Out D} {mi : E (List α)} {ex : α → D} {ey : β → D} {mc : α → Bool} {mg : α → β} (hi : Si (ff Γ) mi (List.map ex) Γ1)
    (hb : ∀ x, ∃ Γx Γy Γz, t (ex x) (wipeG Γ1 is) = some Γx ∧ Si (c Γx) (.ok (mc x)) id Γy ∧ Si (fe Γy) (.ok (mg x)) ey Γz ∧ wipeG Γy is = wipeG Γ1 is ∧ wipeG Γz is = wipeG Γ1 is) (hr : restG Γ1 (wipeG Γ1 is) is = Γ1) :
    Si (vComp is ff t c fe Γ) (mi.bind fun xs => filE mc mg xs) (vs (.l .z) (eL ey)) Γ1 := by
  have h := j_comp (mc := fun x => .ok (mc x)) (mg := fun x => .ok (mg x)) hi hb hr
  refine h.eq ?_
  congr 1
  funext xs
  unfold compE filE chk
  rw [compG_pure]
theorem j_compM {is : List Nat} {ff : Ev → Out (List D)} {t : D → Ev → Option Ev} {fe : Ev → Out D} {mi : E (List α)} {ex : α → D} {ey : β → D} {mg : α → β} (hi : Si (ff Γ) mi (List.map ex) Γ1)
    (hb : ∀ x, ∃ Γx Γz, t (ex x) (wipeG Γ1 is) = some Γx ∧ Si (fe Γx) (.ok (mg x)) ey Γz ∧ wipeG Γx is = wipeG Γ1 is ∧ wipeG Γz is = wipeG Γ1 is) (hr : restG Γ1 (wipeG Γ1 is) is = Γ1) :
    Si (vComp is ff t bYes fe Γ) (mi.bind fun xs => mapE mg xs) (vs (.l .z) (eL ey)) Γ1 := by
  have h := j_compF (c := bYes) (mc := fun _ => true) (mg := mg) hi (fun x => by
    obtain ⟨Γx, Γz, h1, h2, h3, h4⟩ := hb x
    exact ⟨Γx, Γx, Γz, h1, rfl, h2, h3, h4⟩) hr
  refine h.eq ?_
  congr 1
  funext xs
  unfold filE mapE chk
  rw [List.filter_eq_self.mpr fun _ _ => rfl]
def comE (g : α → E β) (xs : List α) : E (List β) := compE (fun _ => .ok true) g xs
theorem j_compE {is : List Nat} {ff : Ev → Out (List D)} {t : D → Ev → Option Ev} {fe : Ev → Out D} {mi : E (List α)} {ex : α → D} {ey : β → D} {mg : α → E β} (hi : Si (ff Γ) mi (List.map ex) Γ1)
    (hb : ∀ x, ∃ Γx Γz, t (ex x) (wipeG Γ1 is) = some Γx ∧ Si (fe Γx) (mg x) ey Γz ∧ wipeG Γx is = wipeG Γ1 is ∧ wipeG Γz is = wipeG Γ1 is) (hr : restG Γ1 (wipeG Γ1 is) is = Γ1) :
    Si (vComp is ff t bYes fe Γ) (mi.bind fun xs => comE mg xs) (vs (.l .z) (eL ey)) Γ1 :=
  j_comp (c := bYes) hi (fun x => by
    obtain ⟨Γx, Γz, h1, h2, h3, h4⟩ := hb x
    exact ⟨Γx, Γx, Γz, h1, rfl, h2, h3, h4⟩) hr
end
end
end TM
namespace TM
open PySem PV
/-! ### statements -/
inductive Fl (σ ρ : Type) where
  | nx (s : σ) | bk (s : σ) | rt (r : ρ)
section
variable {α β γ δ σ ρ τ : Type}
def forE (f : σ → α → E σ) : List α → σ → E σ
  | [], s => .ok s
  | x :: xs, s => (f s x).bind fun s1 => forE f xs s1
def flow (k : σ → E (σ ⊕ ρ)) (q : Fl σ ρ) : E (σ ⊕ ρ) := match q with
  | .nx s => k s
  | .bk s => .ok (.inl s)
  | .rt r => .ok (.inr r)
def forR (f : σ → α → E (Fl σ ρ)) : List α → σ → E (σ ⊕ ρ)
  | [], s => .ok (.inl s)
  | x :: xs, s => (f s x).bind (flow fun s1 => forR f xs s1)
def whileE (c : σ → E Bool) (f : σ → E σ) : Nat → σ → E σ
  | 0, _ => .st
  | n + 1, s => (c s).bind fun b => if b = true then (f s).bind fun s1 => whileE c f n s1 else .ok s
def whileR (c : σ → E Bool) (f : σ → E (Fl σ ρ)) : Nat → σ → E (σ ⊕ ρ)
  | 0, _ => .st
  | n + 1, s => (c s).bind fun b => if b = true then (f s).bind (flow fun s1 => whileR c f n s1) else .ok (.inl s)
def Rf (e : ρ → Va) : ρ → SO → Prop := fun v r => (∃ Γ, r = .rt (e v) Γ) ∨ ((∃ Γ, r = .nx Γ) ∧ e v = (.z, .none))
def Rlp (G : σ → Ev) : σ → SO → Prop := fun s r => r = .nx (G s) ∨ r = .ct (G s)
def RlpR (G : σ → Ev) (e : ρ → Va) : Fl σ ρ → SO → Prop := fun q r => match q with
  | .nx s => r = .nx (G s) ∨ r = .ct (G s)
  | .bk s => r = .bk (G s)
  | .rt v => ∃ Γ, r = .rt (e v) Γ
def Rj (is : List Nat) (G : σ → Ev) : σ → SO → Prop := fun s r => ∃ Γ, r = .nx Γ ∧ wipeG Γ is = G s
def Rw (is : List Nat) (G : σ → Ev) : σ → SO → Prop := fun s r => ∃ Γ, (r = .nx Γ ∨ r = .ct Γ) ∧ wipeG Γ is = G s
def RwR (is : List Nat) (G : σ → Ev) (e : ρ → Va) : Fl σ ρ → SO → Prop := fun q r => match q with
  | .nx s => ∃ Γ, (r = .nx Γ ∨ r = .ct Γ) ∧ wipeG Γ is = G s
  | .bk s => ∃ Γ, r = .bk Γ ∧ wipeG Γ is = G s
  | .rt v => ∃ Γ, r = .rt (e v) Γ

variable {Γ Γ1 Γ2 Γ3 : Ev} {e : α → D} {f : Ev → Out D} {u v : Ev → Out Va} {a b : Ev → SO} {ss : List (Ev → SO)} {R : τ → SO → Prop} {m : E α} {mt : E τ} {mk : α → E τ}
theorem Ti.ex {r : SO} {x : Exc} (h : ∃ Γ, r = .ex x Γ) : Ti r (.ex x : E τ) R := h
theorem then_assoc (r : SO) (b c : Ev → SO) : (r.then b).then c = r.then fun Γ => (b Γ).then c := by cases r <;> rfl
theorem t_seq (h : Ti (run (a :: b :: ss) Γ) mt R) : Ti (run (sSeq a b :: ss) Γ) mt R := by
  have : run (sSeq a b :: ss) Γ = run (a :: b :: ss) Γ := by
    show (sSeq a b Γ).then (run ss) = (a Γ).then fun Γ => (b Γ).then (run ss)
    rw [seq_eq, then_assoc]
  rw [this]; exact h
theorem t_nx (h : Ti (run ss Γ) mt R) : Ti (run (sNx :: ss) Γ) mt R := h
theorem t_end {s : τ} (h : R s (.nx Γ)) : Ti (run [] Γ) (.ok s) R := h
theorem t_ct {s : τ} (h : R s (.ct Γ)) : Ti (run (sCt :: ss) Γ) (.ok s) R := h
theorem t_bk {s : τ} (h : R s (.bk Γ)) : Ti (run (sBk :: ss) Γ) (.ok s) R := h
theorem t_raise (x : Exc) : Ti (run (sRaise x :: ss) Γ) (.ex x) R := ⟨Γ, rfl⟩
theorem t_sB {β : Type} {r : Out β} {eb : α → β} {k : β → Ev → SO} (h : Si r m eb Γ1) (hk : ∀ a, Ti ((k (eb a) Γ1).then (run ss)) (mk a) R) : Ti ((sB r k).then (run ss)) (m.bind mk) R := by
  cases m with
  | ok a => rw [show r = .ok (eb a) Γ1 from h]; exact hk a
  | ex x => obtain ⟨Γ', h⟩ := h; exact ⟨Γ', by rw [h]; rfl⟩
  | st => trivial
theorem t_asg (i : Nat) {ez : α → Va} (h : Si (u Γ) m ez Γ1) (hk : ∀ a, Ti (run ss (Γ1.set i (some (ez a)))) (mk a) R) : Ti (run (sAsg i u :: ss) Γ) (m.bind mk) R := t_sB h hk
theorem t_fz (i : Nat) {s : Sh} (h : Si (u Γ) m (vs s e) Γ1) (hi : ∀ x : Option Va, (Γ1.set i x)[i]? = some x) (hk : ∀ a, Ti (run ss (Γ1.set i (some (.z, e a)))) (mk a) R) : Ti (run (sFz i (sAsg i u) :: ss) Γ) (m.bind mk) R := by
  show Ti ((sFz i (sAsg i u) Γ).then (run ss)) _ _
  rw [sFz_ap, sAsg_ap]
  cases m with
  | ok a =>
    rw [show u Γ = .ok (vs s e a) Γ1 from h, sB_ok, then_nx, hi, fzE_s, then_nx, List.set_set]
    exact hk a
  | ex x => obtain ⟨Γ', h⟩ := h; exact ⟨Γ', by rw [h]; rfl⟩
  | st => trivial
theorem t_exp (h : Si (f Γ) m e Γ1) (hk : ∀ a, Ti (run ss Γ1) (mk a) R) : Ti (run (sExp f :: ss) Γ) (m.bind mk) R := t_sB h hk
/-- a return, the def's -/
theorem t_ret {ρ : Type} {mv : E ρ} {ez : ρ → Va} (h : Si (u Γ) mv ez Γ1) : Ti (run (sRet u :: ss) Γ) mv (Rf ez) := by
  cases mv with
  | ok a => exact .inl ⟨Γ1, by show (sB (u Γ) _).then _ = _; rw [show u Γ = _ from h]; rfl⟩
  | ex x => obtain ⟨Γ', h⟩ := h; exact ⟨Γ', by show (sB (u Γ) _).then _ = _; rw [h]; rfl⟩
  | st => trivial
theorem t_retN {ez : ρ → Va} {v : ρ} (h : ez v = (.z, .none)) : Ti (run (sRetN :: ss) Γ) (.ok v) (Rf ez) := .inl ⟨Γ, by rw [h]; rfl⟩
/-- a return within a loop -/
theorem t_retL {ρ : Type} {mv : E ρ} {ez : ρ → Va} {w : ρ → τ} (h : Si (u Γ) mv ez Γ1) (hR : ∀ v, R (w v) (.rt (ez v) Γ1)) : Ti (run (sRet u :: ss) Γ) (mv.bind fun v => .ok (w v)) R := by
  cases mv with
  | ok a => show R (w a) ((sB (u Γ) _).then _); rw [show u Γ = _ from h]; exact hR a
  | ex x => obtain ⟨Γ', h⟩ := h; exact ⟨Γ', by show (sB (u Γ) _).then _ = _; rw [h]; rfl⟩
  | st => trivial
theorem t_retNL {v : τ} (h : R v (.rt (.z, .none) Γ)) : Ti (run (sRetN :: ss) Γ) (.ok v) R := h
/-- if, what follows in both ways -/
theorem t_if {c : Ev → Out Bool} {mc : E Bool} {ma mb : E τ} (h : Si (c Γ) mc id Γ1) (h1 : Ti (run (a :: ss) Γ1) ma R) (h2 : Ti (run (b :: ss) Γ1) mb R) : Ti (run (sIf c a b :: ss) Γ) (mc.bind fun k => if k = true then ma else mb) R := by
  refine t_sB (k := fun k Γ1 => if k = true then a Γ1 else b Γ1) h fun k => ?_
  cases k with
  | true => exact h1
  | false => exact h2
/-- if, joined -/
theorem t_ifj {c : Ev → Out Bool} {mc : E Bool} {ma mb : E σ} {mk : σ → E τ} (is : List Nat) (G : σ → Ev) (h : Si (c Γ) mc id Γ1) (h1 : Ti (run [a] Γ1) ma (Rj is G)) (h2 : Ti (run [b] Γ1) mb (Rj is G)) (hk : ∀ s, Ti (run ss (G s)) (mk s) R) : Ti (run (sWp is (sIf c a b) :: ss) Γ) ((mc.bind fun k => if k = true then ma else mb).bind mk) R := by
  have one : ∀ {s : Ev → SO} {ms : E σ} {Γ0 : Ev}, s Γ = s Γ0 ∨ True → True := fun _ => trivial
  have fin : ∀ {r : SO} {ms : E σ}, Ti (r.then (run [])) ms (Rj is G) → sIf c a b Γ = r → Ti ((sWp is (sIf c a b) Γ).then (run ss)) (ms.bind mk) R := by
    intro r ms hr e
    have hn : r.then (run []) = r := by cases r <;> rfl
    rw [hn] at hr
    cases ms with
    | ok s =>
      obtain ⟨Γ', e1, e2⟩ := hr
      rw [wp_nx (e.trans e1), e2]
      exact hk s
    | ex x =>
      obtain ⟨Γ', e1⟩ := hr
      refine ⟨Γ', ?_⟩
      have e2 : sIf c a b Γ = .ex x Γ' := e.trans e1
      show (sWp is (sIf c a b) Γ).then _ = _
      unfold sWp
      rw [e2]
      rfl
    | st => trivial
  cases mc with
  | ok k =>
    have e : sIf c a b Γ = if k = true then a Γ1 else b Γ1 := by show sB (c Γ) _ = _; rw [show c Γ = .ok k Γ1 from h]; rfl
    cases k with
    | true => exact fin (r := a Γ1) h1 e
    | false => exact fin (r := b Γ1) h2 e
  | ex x =>
    obtain ⟨Γ', h⟩ := h
    refine ⟨Γ', ?_⟩
    have e2 : sIf c a b Γ = .ex x Γ' := by show sB (c Γ) _ = _; rw [h]; rfl
    show (sWp is (sIf c a b) Γ).then _ = _
    unfold sWp
    rw [e2]
    rfl
  | st => trivial
/-! loops -/
theorem t_wp {is : List Nat} {G : σ → Ev} {ms : E σ} (h : Ti (run [a] Γ) ms (Rw is G)) : Ti (sWp is a Γ) ms (Rlp G) := by
  have hn : ∀ r : SO, r.then (run []) = r := fun r => by cases r <;> rfl
  change Ti ((a Γ).then (run [])) _ _ at h
  rw [hn] at h
  cases ms with
  | ok s =>
    obtain ⟨Γ', e1 | e1, e2⟩ := h
    · exact .inl (by unfold sWp; rw [e1]; show SO.nx _ = _; rw [e2])
    · exact .inr (by unfold sWp; rw [e1]; show SO.ct _ = _; rw [e2])
  | ex x => obtain ⟨Γ', e1⟩ := h; exact ⟨Γ', by unfold sWp; rw [e1]⟩
  | st => trivial
theorem t_wpR {is : List Nat} {G : σ → Ev} {ez : ρ → Va} {ms : E (Fl σ ρ)} (h : Ti (run [a] Γ) ms (RwR is G ez)) : Ti (sWp is a Γ) ms (RlpR G ez) := by
  have hn : ∀ r : SO, r.then (run []) = r := fun r => by cases r <;> rfl
  change Ti ((a Γ).then (run [])) _ _ at h
  rw [hn] at h
  cases ms with
  | ok q =>
    cases q with
    | nx s =>
      obtain ⟨Γ', e1 | e1, e2⟩ := h
      · exact .inl (by unfold sWp; rw [e1]; show SO.nx _ = _; rw [e2])
      · exact .inr (by unfold sWp; rw [e1]; show SO.ct _ = _; rw [e2])
    | bk s =>
      obtain ⟨Γ', e1, e2⟩ := h
      show sWp is a Γ = _
      unfold sWp; rw [e1]; show SO.bk _ = _; rw [e2]
    | rt v =>
      obtain ⟨Γ', e1⟩ := h
      exact ⟨Γ', by unfold sWp; rw [e1]⟩
  | ex x => obtain ⟨Γ', e1⟩ := h; exact ⟨Γ', by unfold sWp; rw [e1]⟩
  | st => trivial
theorem forL_ok {t : D → Ev → Option Ev} {body : Ev → SO} {ex : α → D} {mb : σ → α → E σ} {G : σ → Ev} (hb : ∀ s x, ∃ Γ2, t (ex x) (G s) = some Γ2 ∧ Ti (body Γ2) (mb s x) (Rlp G)) : ∀ (xs : List α) (s : σ), Ti (sForL t body (xs.map ex) (G s)) (forE mb xs s) (fun s r => r = .nx (G s))
  | [], s => rfl
  | x :: xs, s => by
    obtain ⟨Γ2, e, h⟩ := hb s x
    have ih := forL_ok hb xs
    rw [List.map_cons]
    unfold sForL forE
    rw [e]
    dsimp only
    cases hm : mb s x with
    | ok s1 =>
      rw [hm] at h
      rcases h with h | h <;> (rw [h]; exact ih s1)
    | ex x =>
      rw [hm] at h
      obtain ⟨Γ', h⟩ := h
      rw [h]
      exact ⟨Γ', rfl⟩
    | st => trivial
theorem forLR_ok {t : D → Ev → Option Ev} {body : Ev → SO} {ex : α → D} {mb : σ → α → E (Fl σ ρ)} {G : σ → Ev} {ez : ρ → Va} (hb : ∀ s x, ∃ Γ2, t (ex x) (G s) = some Γ2 ∧ Ti (body Γ2) (mb s x) (RlpR G ez)) : ∀ (xs : List α) (s : σ), Ti (sForL t body (xs.map ex) (G s)) (forR mb xs s) (fun q r => match q with | .inl s => r = .nx (G s) | .inr v => ∃ Γ, r = .rt (ez v) Γ)
  | [], s => rfl
  | x :: xs, s => by
    obtain ⟨Γ2, e, h⟩ := hb s x
    have ih := forLR_ok hb xs
    rw [List.map_cons]
    unfold sForL forR
    rw [e]
    dsimp only
    cases hm : mb s x with
    | ok q =>
      rw [hm] at h
      cases q with
      | nx s1 => rcases h with h | h <;> (rw [h]; exact ih s1)
      | bk s1 => rw [show body Γ2 = _ from h]; rfl
      | rt v => obtain ⟨Γ', h⟩ := h; rw [h]; exact ⟨Γ', rfl⟩
    | ex x =>
      rw [hm] at h
      obtain ⟨Γ', h⟩ := h
      rw [h]
      exact ⟨Γ', rfl⟩
    | st => trivial
theorem Ti.then {r : SO} {ms : E σ} {Rs : σ → SO → Prop} {mk : σ → E τ} (h : Ti r ms Rs) (hk : ∀ s, Rs s r → Ti (r.then (run ss)) (mk s) R) : Ti (r.then (run ss)) (ms.bind mk) R := by
  cases ms with
  | ok s => exact hk s h
  | ex x => obtain ⟨Γ', h⟩ := h; exact ⟨Γ', by rw [h]; rfl⟩
  | st => trivial
theorem t_for {it : Ev → Out (List D)} {t : D → Ev → Option Ev} {body : Ev → SO} {mi : E (List α)} {ex : α → D} {mb : σ → α → E σ} {mk : σ → E τ} (G : σ → Ev) (s0 : σ) (hi : Si (it Γ) mi (List.map ex) (G s0)) (hb : ∀ s x, ∃ Γ2, t (ex x) (G s) = some Γ2 ∧ Ti (body Γ2) (mb s x) (Rlp G)) (hk : ∀ s, Ti (run ss (G s)) (mk s) R) : Ti (run (sFor it t body :: ss) Γ) ((mi.bind fun xs => forE mb xs s0).bind mk) R := by
  show Ti ((sFor it t body Γ).then (run ss)) _ _
  rw [bind_assoc, sFor_ap]
  refine t_sB hi fun xs => ?_
  exact (forL_ok hb xs s0).then fun s e => by rw [e]; exact hk s
theorem t_forR {it : Ev → Out (List D)} {t : D → Ev → Option Ev} {body : Ev → SO} {mi : E (List α)} {ex : α → D} {mb : σ → α → E (Fl σ ρ)} {mk : σ → E τ} {mr : ρ → E τ} {ez : ρ → Va} (G : σ → Ev) (s0 : σ) (hi : Si (it Γ) mi (List.map ex) (G s0)) (hb : ∀ s x, ∃ Γ2, t (ex x) (G s) = some Γ2 ∧ Ti (body Γ2) (mb s x) (RlpR G ez)) (hk : ∀ s, Ti (run ss (G s)) (mk s) R) (hr : ∀ v Γ, Ti (.rt (ez v) Γ) (mr v) R) : Ti (run (sFor it t body :: ss) Γ) ((mi.bind fun xs => forR mb xs s0).bind (Sum.elim mk mr)) R := by
  show Ti ((sFor it t body Γ).then (run ss)) _ _
  rw [bind_assoc, sFor_ap]
  refine t_sB hi fun xs => ?_
  refine (forLR_ok hb xs s0).then fun q e => ?_
  cases q with
  | inl s => rw [show _ = SO.nx (G s) from e]; exact hk s
  | inr v => obtain ⟨Γ', e⟩ := e; rw [e]; exact hr v Γ'
theorem while_ok {c : Ev → Out Bool} {body : Ev → SO} {mc : σ → E Bool} {mb : σ → E σ} {G : σ → Ev} (hc : ∀ s, Si (c (G s)) (mc s) id (G s)) (hb : ∀ s, Ti (body (G s)) (mb s) (Rlp G)) : ∀ (n : Nat) (s : σ), Ti (sWhile c body n (G s)) (whileE mc mb n s) (fun s r => r = .nx (G s))
  | 0, s => trivial
  | n + 1, s => by
    have ih := while_ok hc hb n
    unfold sWhile whileE
    have h := hc s
    cases hm : mc s with
    | ok k =>
      rw [hm] at h
      rw [show c (G s) = .ok k (G s) from h, sB_ok, ok_bind]
      cases k with
      | true =>
        rw [if_pos rfl, if_pos rfl]
        have h2 := hb s
        cases hm2 : mb s with
        | ok s1 => rw [hm2] at h2; rcases h2 with h2 | h2 <;> (rw [h2]; exact ih s1)
        | ex x => rw [hm2] at h2; obtain ⟨Γ', h2⟩ := h2; rw [h2]; exact ⟨Γ', rfl⟩
        | st => trivial
      | false => rw [if_neg Bool.false_ne_true, if_neg Bool.false_ne_true]; rfl
    | ex x => rw [hm] at h; obtain ⟨Γ', h⟩ := h; rw [h]; exact ⟨Γ', rfl⟩
    | st => trivial
theorem whileR_ok {c : Ev → Out Bool} {body : Ev → SO} {mc : σ → E Bool} {mb : σ → E (Fl σ ρ)} {G : σ → Ev} {ez : ρ → Va} (hc : ∀ s, Si (c (G s)) (mc s) id (G s)) (hb : ∀ s, Ti (body (G s)) (mb s) (RlpR G ez)) : ∀ (n : Nat) (s : σ), Ti (sWhile c body n (G s)) (whileR mc mb n s) (fun q r => match q with | .inl s => r = .nx (G s) | .inr v => ∃ Γ, r = .rt (ez v) Γ)
  | 0, s => trivial
  | n + 1, s => by
    have ih := whileR_ok hc hb n
    unfold sWhile whileR
    have h := hc s
    cases hm : mc s with
    | ok k =>
      rw [hm] at h
      rw [show c (G s) = .ok k (G s) from h, sB_ok, ok_bind]
      cases k with
      | true =>
        rw [if_pos rfl, if_pos rfl]
        have h2 := hb s
        cases hm2 : mb s with
        | ok q =>
          rw [hm2] at h2
          cases q with
          | nx s1 => rcases h2 with h2 | h2 <;> (rw [h2]; exact ih s1)
          | bk s1 => rw [show body (G s) = _ from h2]; rfl
          | rt v => obtain ⟨Γ', h2⟩ := h2; rw [h2]; exact ⟨Γ', rfl⟩
        | ex x => rw [hm2] at h2; obtain ⟨Γ', h2⟩ := h2; rw [h2]; exact ⟨Γ', rfl⟩
        | st => trivial
      | false => rw [if_neg Bool.false_ne_true, if_neg Bool.false_ne_true]; rfl
    | ex x => rw [hm] at h; obtain ⟨Γ', h⟩ := h; rw [h]; exact ⟨Γ', rfl⟩
    | st => trivial
theorem t_while {c : Ev → Out Bool} {body : Ev → SO} {mc : σ → E Bool} {mb : σ → E σ} {mk : σ → E τ} {n : Nat} (G : σ → Ev) (s0 : σ) (h0 : Γ = G s0) (hc : ∀ s, Si (c (G s)) (mc s) id (G s)) (hb : ∀ s, Ti (body (G s)) (mb s) (Rlp G)) (hk : ∀ s, Ti (run ss (G s)) (mk s) R) : Ti (run (sWhile c body n :: ss) Γ) ((whileE mc mb n s0).bind mk) R := by
  subst h0
  exact (while_ok hc hb n s0).then fun s e => by rw [e]; exact hk s
theorem t_whileR {c : Ev → Out Bool} {body : Ev → SO} {mc : σ → E Bool} {mb : σ → E (Fl σ ρ)} {mk : σ → E τ} {mr : ρ → E τ} {ez : ρ → Va} {n : Nat} (G : σ → Ev) (s0 : σ) (h0 : Γ = G s0) (hc : ∀ s, Si (c (G s)) (mc s) id (G s)) (hb : ∀ s, Ti (body (G s)) (mb s) (RlpR G ez)) (hk : ∀ s, Ti (run ss (G s)) (mk s) R) (hr : ∀ v Γ, Ti (.rt (ez v) Γ) (mr v) R) : Ti (run (sWhile c body n :: ss) Γ) ((whileR mc mb n s0).bind (Sum.elim mk mr)) R := by
  subst h0
  refine (whileR_ok hc hb n s0).then fun q e => ?_
  cases q with
  | inl s => rw [show _ = SO.nx (G s) from e]; exact hk s
  | inr v => obtain ⟨Γ', e⟩ := e; rw [e]; exact hr v Γ'
theorem t_pre {is : List Nat} (h : Ti (run (a :: ss) (wipeG Γ is)) mt R) : Ti (run (sPre is a :: ss) Γ) mt R := h
theorem hr_f {ez : ρ → Va} (v : ρ) (Γ : Ev) : Ti (.rt (ez v) Γ) (.ok v) (Rf ez) := .inl ⟨Γ, rfl⟩
theorem hr_l {is : List Nat} {G : σ → Ev} {ez : ρ → Va} (v : ρ) (Γ : Ev) : Ti (.rt (ez v) Γ) (.ok (.rt v)) (RwR is G ez) := ⟨Γ, rfl⟩
/-! other statements -/
theorem t_tgt {t : D → Ev → Option Ev} (G : α → Ev) (h : Si (f Γ) m e Γ1) (ht : ∀ a, t (e a) Γ1 = some (G a)) (hk : ∀ a, Ti (run ss (G a)) (mk a) R) : Ti (run (sTgt t f :: ss) Γ) (m.bind mk) R := by
  show Ti ((sTgt t f Γ).then (run ss)) _ _
  rw [sTgt_ap]
  refine t_sB h fun a => ?_
  rw [ht]
  exact hk a
theorem t_aug {op : D → D → Option Va} {e0 : β → D} {e2 : γ → D} {mo : β → α → E γ} {mk : γ → E τ} (i : Nat) (x : β) (hx : Γ[i]? = some (some (.z, e0 x))) (h : Si (f Γ) m e Γ1) (ho : ∀ b, R0 (op (e0 x) (e b)) (mo x b) (vs .z e2)) (hk : ∀ a, Ti (run ss (Γ1.set i (some (.z, e2 a)))) (mk a) R) : Ti (run (sAug i op f :: ss) Γ) ((m.bind fun b => mo x b).bind mk) R := by
  show Ti ((sAug i op f Γ).then (run ss)) _ _
  unfold sAug
  rw [hx]
  dsimp only
  rw [bind_assoc]
  refine t_sB h fun b => ?_
  have h2 := ho b
  cases hm : mo x b with
  | ok z => rw [hm] at h2; rw [show op (e0 x) (e b) = some (vs .z e2 z) from h2]; exact hk z
  | ex y => rw [hm] at h2; exact h2.elim
  | st => trivial
def appE (xs : List α) (x : α) : E (List α) := chk (xs.length < 16777216) (xs ++ [x])
def isl (o : Option (Option Va)) : Prop := ∃ ds, o = some (some (.l .z, .list ds))
theorem t_app {mk : List α → E τ} (i : Nat) (e : α → D) (xs : List α) (h0 : isl (Γ[i]?)) (h : Si (f Γ) m e Γ1) (h1 : Γ1[i]? = some (some (.l .z, eL e xs))) (hk : ∀ ys, Ti (run ss (Γ1.set i (some (.l .z, eL e ys)))) (mk ys) R) : Ti (run (sExp (fMt i mAppend (fsC f fsN)) :: ss) Γ) (m.bind fun x => (appE xs x).bind mk) R := by
  show Ti ((sExp _ Γ).then (run ss)) _ _
  obtain ⟨ds, h0⟩ := h0
  rw [sExp_ap, fMt_ap, h0, mtS_l]
  cases m with
  | ok x =>
    rw [show fsC f fsN Γ = .ok [e x] Γ1 from f_1 (m := .ok x) h, bind_ok, h1, ok_bind]
    unfold appE chk
    split
    · rename_i c
      show Ti ((sB (mtE (some (some (.l .z, .list (xs.map e)))) i mAppend [e x] Γ1) _).then _) _ _
      rw [mtE_l]
      have : mAppend (xs.map e) [e x] = some (.none, (xs ++ [x]).map e) := by
        show (if (xs.map e).length < 16777216 then some (PyData.none, xs.map e ++ [e x]) else none) = _
        rw [List.length_map, if_pos c, List.map_append]
        rfl
      rw [this]
      exact hk _
    · trivial
  | ex x => obtain ⟨Γ', h⟩ := h; exact ⟨Γ', by rw [fsC_ap, h]; rfl⟩
  | st => trivial
/-- pop -/
@[irreducible] def popE (xs : List α) (k : Int) : E (α × List α) := if -(2 ^ 63) ≤ k ∧ k < 2 ^ 63 then (match seqIndex? k xs.length with | some j => (match xs[j]? with | some a => .ok (a, xs.eraseIdx j) | none => .st) | none => .st) else .st
def pop0E (xs : List α) : E (α × List α) := match xs[xs.length - 1]? with | some a => .ok (a, xs.dropLast) | none => .st
theorem mpop_ok {xs : List α} {k : Int} {p : α × List α} (h : popE xs k = .ok p) : mPop (xs.map e) [.int k] = some (e p.1, p.2.map e) := by
  unfold popE at h
  unfold mPop
  dsimp only
  split at h
  · rename_i c
    rw [if_pos c, List.length_map]
    split at h
    · rename_i j hj
      rw [hj]
      split at h
      · rename_i a ha
        cases h
        simp only [Option.bind_some, List.getElem?_map, ha, Option.map_some, erase_map]
      · cases h
    · cases h
  · cases h
theorem popE_nex (xs : List α) (k : Int) (x : Exc) : popE xs k ≠ .ex x := by
  unfold popE
  split
  · split
    · split <;> exact fun h => by cases h
    · exact fun h => by cases h
  · exact fun h => by cases h
/-- f: a pop's value; the list left stands in the slot -/
def Sg (r : Out β) (m : E α) (e : α → β) (G : α → Ev) : Prop := match m with | .ok a => r = .ok (e a) (G a) | .ex x => ∃ Γ, r = .ex x Γ | .st => True
theorem g_pop {mk : E Int} (j : Nat) (e : α → D) (xs : List α) (h0 : isl (Γ[j]?)) (h : Si (f Γ) mk eI Γ1) (h1 : Γ1[j]? = some (some (.l .z, eL e xs))) : Sg (fMt j mPop (fsC f fsN) Γ) (mk.bind fun k => popE xs k) (fun p => e p.1) (fun p => Γ1.set j (some (.l .z, eL e p.2))) := by
  obtain ⟨ds, h0⟩ := h0
  rw [fMt_ap, h0, mtS_l]
  cases mk with
  | ok k =>
    rw [show fsC f fsN Γ = .ok [.int k] Γ1 from f_1 (m := .ok k) h, bind_ok, h1, ok_bind]
    cases hp : popE xs k with
    | ok p =>
      show mtE (some (some (.l .z, .list (xs.map e)))) j mPop [.int k] Γ1 = _
      rw [mtE_l, mpop_ok hp]
      rfl
    | ex x => exact absurd hp (popE_nex _ _ _)
    | st => trivial
  | ex x => obtain ⟨Γ', h⟩ := h; exact ⟨Γ', by rw [fsC_ap, h]; rfl⟩
  | st => trivial
theorem g_pop0 (j : Nat) (e : α → D) (xs : List α) (h1 : Γ[j]? = some (some (.l .z, eL e xs))) : Sg (fMt j mPop0 fsN Γ) (pop0E xs) (fun p => e p.1) (fun p => Γ.set j (some (.l .z, eL e p.2))) := by
  rw [fMt_ap, h1]
  show Sg (mtS (some (some (.l .z, .list (xs.map e)))) _) _ _ _
  rw [mtS_l, fsN_ap, bind_ok, h1]
  unfold pop0E
  split
  · rename_i a ha
    show mtE (some (some (.l .z, .list (xs.map e)))) j mPop0 [] Γ = _
    rw [mtE_l]
    have : mPop0 (xs.map e) [] = some (e a, xs.dropLast.map e) := by
      unfold mPop0
      simp only [List.length_map, List.getElem?_map, ha, Option.map_some, List.map_dropLast]
    rw [this]
    rfl
  · trivial
theorem t_asgG {r : Ev → Out D} {G : α → Ev} (i : Nat) (h : Sg (r Γ) m e G) (hk : ∀ a, Ti (run ss ((G a).set i (some (.z, e a)))) (mk a) R) : Ti (run (sAsg i (vF r) :: ss) Γ) (m.bind mk) R := by
  show Ti ((sAsg i (vF r) Γ).then (run ss)) _ _
  rw [sAsg_ap, vF_ap]
  cases m with
  | ok a => rw [show r Γ = .ok (e a) (G a) from h]; exact hk a
  | ex x => obtain ⟨Γ', h⟩ := h; exact ⟨Γ', by rw [h]; rfl⟩
  | st => trivial
theorem t_expG {r : Ev → Out D} {G : α → Ev} (h : Sg (r Γ) m e G) (hk : ∀ a, Ti (run ss (G a)) (mk a) R) : Ti (run (sExp r :: ss) Γ) (m.bind mk) R := by
  show Ti ((sExp r Γ).then (run ss)) _ _
  rw [sExp_ap]
  cases m with
  | ok a => rw [show r Γ = .ok (e a) (G a) from h]; exact hk a
  | ex x => obtain ⟨Γ', h⟩ := h; exact ⟨Γ', by rw [h]; rfl⟩
  | st => trivial
/-- xs.append(ys.pop(..)) -/
theorem t_appG {r : Ev → Out D} {G : β → Ev} {mp : E β} {v : β → α} {mk : β → List α → E τ} (i : Nat) (e : α → D) (xs : List α) (h0 : isl (Γ[i]?)) (h : Sg (r Γ) mp (fun p => e (v p)) G) (h1 : ∀ p, (G p)[i]? = some (some (.l .z, eL e xs))) (hk : ∀ p ys, Ti (run ss ((G p).set i (some (.l .z, eL e ys)))) (mk p ys) R) : Ti (run (sExp (fMt i mAppend (fsC r fsN)) :: ss) Γ) (mp.bind fun p => (appE xs (v p)).bind (mk p)) R := by
  cases mp with
  | ok p => exact t_app (m := .ok (v p)) i e xs h0 h (h1 p) (hk p)
  | ex x =>
    obtain ⟨ds, h0⟩ := h0
    obtain ⟨Γ', h⟩ := h
    refine ⟨Γ', ?_⟩
    show (sExp _ Γ).then _ = _
    rw [sExp_ap, fMt_ap, h0, mtS_l, fsC_ap, h]
    rfl
  | st => trivial
/-- methods that give nothing back -/
theorem t_mt {op : List D → List D → Option (D × List D)} {fs : Ev → Out (List D)} {es : β → List D} {ms : E β} {mo : List α → β → E (List α)} {mk : List α → E τ} (i : Nat) (e : α → D) (xs : List α) (h0 : isl (Γ[i]?)) (h : Si (fs Γ) ms es Γ1) (h1 : Γ1[i]? = some (some (.l .z, eL e xs))) (ho : ∀ b, R0 (op (xs.map e) (es b)) (mo xs b) (fun ys => (PyData.none, ys.map e))) (hk : ∀ ys, Ti (run ss (Γ1.set i (some (.l .z, eL e ys)))) (mk ys) R) : Ti (run (sExp (fMt i op fs) :: ss) Γ) (ms.bind fun b => (mo xs b).bind mk) R := by
  show Ti ((sExp _ Γ).then (run ss)) _ _
  obtain ⟨ds, h0⟩ := h0
  rw [sExp_ap, fMt_ap, h0, mtS_l]
  cases ms with
  | ok b =>
    rw [show fs Γ = .ok (es b) Γ1 from h, bind_ok, h1, ok_bind]
    have h2 := ho b
    cases hm : mo xs b with
    | ok ys =>
      rw [hm] at h2
      show Ti ((sB (mtE (some (some (.l .z, .list (xs.map e)))) i op (es b) Γ1) _).then _) _ _
      rw [mtE_l, show op (xs.map e) (es b) = some (.none, ys.map e) from h2]
      exact hk ys
    | ex x => rw [hm] at h2; exact h2.elim
    | st => trivial
  | ex x => obtain ⟨Γ', h⟩ := h; exact ⟨Γ', by rw [h]; rfl⟩
  | st => trivial
/-- xs[k] = v -/
def setE (xs : List α) (k : Int) (x : α) : E (List α) := match L2.ixN xs.length k with | some j => .ok (xs.set j x) | none => .st
theorem t_set {fv fk : Ev → Out D} {mx : E α} {mi : E Int} {mk : List α → E τ} (i : Nat) (e : α → D) (xs : List α) (hv : Si (fv Γ) mx e Γ1) (h0 : isl (Γ1[i]?)) (hi : Si (fk Γ1) mi eI Γ2) (h1 : Γ2[i]? = some (some (.l .z, eL e xs))) (hk : ∀ ys, Ti (run ss (Γ2.set i (some (.l .z, eL e ys)))) (mk ys) R) : Ti (run (sSet i fv fk :: ss) Γ) (mx.bind fun x => mi.bind fun k => (setE xs k x).bind mk) R := by
  show Ti ((sSet i fv fk Γ).then (run ss)) _ _
  obtain ⟨ds, h0⟩ := h0
  rw [set_ap]
  refine t_sB hv fun x => ?_
  rw [h0, setS_l]
  refine t_sB hi fun k => ?_
  rw [h1]
  unfold TM.setE
  split
  · rename_i j hj
    rw [ok_bind]
    show Ti ((PV.setE i (e x) (some (some (.l .z, .list (xs.map e)))) (.int k) Γ2).then _) _ _
    rw [setE_l (j := j) (by rw [List.length_map]; exact hj)]
    have : (xs.map e).set j (e x) = (xs.set j x).map e := by rw [List.map_set]
    rw [this]
    exact hk _
  · trivial
/-! try -/
def tryE (t : Str → Option Bool) (r : E α) (k : α → E τ) (h : Exc → E τ) : E τ := match r with
  | .ok a => k a
  | .ex x => (match t x.c with | some true => if x.fs.isEmpty = true then (h x).nex else .st | some false => .ex x | none => .st)
  | .st => .st
theorem sClr_rt {i : Nat} {x : Va} {Γ : Ev} : sClr i (.rt x Γ) = .rt x (Γ.set i none) := id rfl
theorem sClr_nx {i : Nat} {Γ : Ev} : sClr i (.nx Γ) = .nx (Γ.set i none) := id rfl
/-- a call in a try, the handler returns -/
theorem t_tryC {t : Str → Option Bool} {i n : Nat} {F : List D → Res} {fs : Ev → Out (List D)} {hs : Addr → Exc → Ev → SO} {ms : E β} {es : β → List D} {M : β → E γ} {ez : γ → Va} {mk : γ → E τ} {mh : Exc → E τ} (hfs : Si (fs Γ) ms es Γ) (hF : ∀ a, Sd (F (es a)) (M a) ez) (hl : ∀ a, (es a).length = n)
    (hk : ∀ a, Ti (run ss Γ) (mk a) R) (hh : ∀ x, Ti ((sClr i (hs 0 x (Γ.set i (some (.z, rawD 0))))).then (run ss)) (mh x).nex R) : Ti (run (sTryA t i (sExp (fV (fCall n F fs))) hs :: ss) Γ) (ms.nex.bind fun a => tryE t (M a) mk mh) R := by
  show Ti ((sTryA _ _ _ _ Γ).then (run ss)) _ _
  unfold sTryA
  cases ms with
  | ok a =>
    rw [nex_ok, ok_bind, sExp_ap, fV_ap, fCall_ap, show fs Γ = .ok (es a) Γ from hfs, bind_ok, if_pos (hl a)]
    have h := (hF a).run
    unfold tryE
    cases hM : M a with
    | ok z => rw [hM] at h; rw [show F (es a) = .ok (ez z) from h]; exact hk z
    | ex x =>
      rw [hM] at h
      rw [show F (es a) = .ex x from h]
      show Ti ((tryA t i hs (.ex x Γ)).then _) _ _
      unfold tryA
      dsimp only
      cases ht : t x.c with
      | none => trivial
      | some b => cases b with
        | false => exact ⟨Γ, rfl⟩
        | true =>
          dsimp only
          cases hx : x.fs.isEmpty with
          | true => exact hh x
          | false => trivial
    | st => trivial
  | ex x => trivial
  | st => trivial
theorem h_ret {ρ : Type} {mv : E ρ} {ez : ρ → Va} {hs : Ev → SO} {i : Nat} (h : Ti (hs Γ) mv (fun v r => ∃ Γ', r = .rt (ez v) Γ')) : Ti ((sClr i (hs Γ)).then (run ss)) mv.nex (Rf ez) := by
  cases mv with
  | ok v => obtain ⟨Γ', h⟩ := h; rw [h, sClr_rt]; exact .inl ⟨_, rfl⟩
  | ex x => trivial
  | st => trivial
theorem h_retL {ρ : Type} {mv : E ρ} {ez : ρ → Va} {hs : Ev → SO} {i : Nat} {is : List Nat} {G : σ → Ev} (h : Ti (hs Γ) mv (fun v r => ∃ Γ', r = .rt (ez v) Γ')) : Ti ((sClr i (hs Γ)).then (run ss)) (mv.bind fun v => .ok (Fl.rt v)).nex (RwR is G ez) := by
  cases mv with
  | ok v => obtain ⟨Γ', h⟩ := h; rw [h, sClr_rt]; exact ⟨_, rfl⟩
  | ex x => trivial
  | st => trivial
theorem h_r {ρ : Type} {mv : E ρ} {ez : ρ → Va} (h : Si (u Γ) mv ez Γ1) : Ti (sRet u Γ) mv (fun v r => ∃ Γ', r = .rt (ez v) Γ') := by
  cases mv with
  | ok a => exact ⟨Γ1, by show sB (u Γ) _ = _; rw [show u Γ = _ from h]; rfl⟩
  | ex x => obtain ⟨Γ', h⟩ := h; exact ⟨Γ', by show sB (u Γ) _ = _; rw [h]; rfl⟩
  | st => trivial
theorem j_isx {isx : Str → Option Bool} {i : Nat} {x : Exc} (h : Γ[i]? = some (some (.z, rawD 0))) : Si (fIsX i isx 0 x Γ) (E.ofO (isx x.c)) eB Γ := by
  unfold fIsX
  rw [h]
  show Si (rawS 0 (some (some (.z, .dict [(.none, .int ((0 : Nat) : Int))]))) _) _ _ _
  unfold rawS
  dsimp only
  rw [if_pos rfl]
  cases isx x.c with
  | none => trivial
  | some b => rfl
/-- the def as a whole -/
theorem d_ok {n k : Nat} {fb : Ev → SO} {ds : List D} {Γ0 : Ev} {ms : E ρ} {ez : ρ → Va} (hl : ds.length = k) (h0 : st0 n ds = Γ0) (h : Ti (run [fb] Γ0) ms (Rf ez)) : Sr (runD n k fb ds) ms ez := by
  have hn : (fb Γ0).then (run []) = fb Γ0 := by cases fb Γ0 <;> rfl
  change Ti ((fb Γ0).then (run [])) _ _ at h
  rw [hn] at h
  unfold runD
  rw [if_pos hl, h0]
  cases ms with
  | ok v =>
    rcases h with ⟨Γ', h⟩ | ⟨⟨Γ', h⟩, e⟩
    · rw [h]; rfl
    · rw [h]; show Res.ok (.z, .none) = .ok (ez v); rw [e]
  | ex x => obtain ⟨Γ', h⟩ := h; rw [h]; rfl
  | st => trivial
theorem Sr.eq {r : Res} {ms ms' : E ρ} {ez : ρ → Va} (h : Sr r ms ez) (q : ms = ms') : Sr r ms' ez := q ▸ h
end
end TM
namespace TM
open PySem PV
section
variable {α β γ : Type}
/-! ### operators -/
def mulE (a b : Int) : E Int := chk (mulOk a b = true) (a * b)
def divE (a b : Int) : E Int := chk (0 < b ∧ b < 2 ^ 64) (a / b)
def modE (a b : Int) : E Int := chk (0 < b) (a % b)
def powE (a b : Int) : E Int := chk (0 ≤ b ∧ b ≤ 1000000 ∧ a.natAbs < 2 ^ 64) (a ^ b.toNat)
def shlE (a b : Int) : E Int := chk (0 ≤ b ∧ b ≤ 1000000 ∧ a.natAbs < 2 ^ 64) (a * 2 ^ b.toNat)
def shrE (a b : Int) : E Int := chk (0 ≤ b) (a / 2 ^ b.toNat)
def catE (xs ys : List α) : E (List α) := chk (xs.length + ys.length ≤ 16777216) (xs ++ ys)
def addSE (a b : Str) : E Str := chk (a.length + b.length ≤ 16777216) (a ++ b)
def repE (xs : List α) (n : Int) : E (List α) := chk (0 ≤ n ∧ n < 2 ^ 63 ∧ xs.length * n.toNat ≤ 16777216) (List.replicate n.toNat xs).flatten
def ixE (xs : List α) (i : Int) : E α := match L2.atI xs i with | some a => .ok a | none => .st
def ixSE (z : Str) (i : Int) : E Str := if z.length ≤ 16777216 then (match L2.atI z.cps.toList i with | some c => .ok ⟨#[c]⟩ | none => .st) else .st
def lenSE (z : Str) : E Int := chk (z.length ≤ 16777216) (z.length : Int)
def b2i (b : Bool) : Int := if b = true then 1 else 0
def intSE (a : Str) : E Int := if a.length ≤ 640 then E.ofO (PySem.intText? a) else .st
def maxE (xs : List Int) : E Int := match xs with | n :: ns => .ok (maxI n ns) | [] => .st
def minE (xs : List Int) : E Int := match xs with | n :: ns => .ok (minI n ns) | [] => .st
def imax (a b : Int) : Int := if a < b then b else a
def imin (a b : Int) : Int := if b < a then b else a
def cutSE (z : Str) (lo hi : Option Int) : E Str := chk (z.length ≤ 16777216) (L2.cutS z lo hi)

variable {e : α → D} {e1 : β → D}
theorem R0.chk {c : Prop} [Decidable c] {x y : β} {a : α} {f : α → β} (h : y = f a) : R0 (if c then some y else none) (chk c a) f := by
  unfold TM.chk
  split
  · exact congrArg some h
  · trivial
theorem q_add (a b : Int) : R0 (dAdd (eI a) (eI b)) (.ok (a + b)) (vs .z eI) := rfl
theorem q_addi (a b : Int) : R0 (dAddI (eI a) (eI b)) (.ok (a + b)) (vs .z eI) := rfl
theorem q_sub (a b : Int) : R0 (dSub (eI a) (eI b)) (.ok (a - b)) (vs .z eI) := rfl
theorem q_addS (a b : Str) : R0 (dAdd (eS a) (eS b)) (addSE a b) (vs .z eS) := by
  show R0 (if _ then _ else _) (TM.chk _ _) _
  unfold TM.chk
  split <;> first | rfl | trivial
theorem q_addL (a b : List α) : R0 (dAdd (eL e a) (eL e b)) (catE a b) (vs (.l .z) (eL e)) := by
  show R0 (if (a.map e).length + (b.map e).length ≤ 16777216 then _ else _) (TM.chk _ _) _
  unfold TM.chk
  rw [List.length_map, List.length_map]
  split
  · show some _ = some _; rw [← List.map_append]; rfl
  · trivial
theorem q_addT (a b : List α) : R0 (dAdd (eT e a) (eT e b)) (catE a b) (vs .z (eT e)) := by
  show R0 (if (a.map e).length + (b.map e).length ≤ 16777216 then _ else _) (TM.chk _ _) _
  unfold TM.chk
  rw [List.length_map, List.length_map]
  split
  · show some _ = some _; rw [← List.map_append]; rfl
  · trivial
theorem q_rep (a : List α) (n : Int) : R0 (dMul (eL e a) (eI n)) (repE a n) (vs (.l .z) (eL e)) := by
  show R0 (if 0 ≤ n ∧ n < 2 ^ 63 ∧ (a.map e).length * n.toNat ≤ 16777216 then _ else _) (TM.chk _ _) _
  unfold TM.chk
  rw [List.length_map]
  split
  · show some _ = some _
    have : (List.replicate n.toNat (a.map e)).flatten = ((List.replicate n.toNat a).flatten).map e := by
      rw [List.map_flatten, List.map_replicate]
    rw [this]; rfl
  · trivial
theorem q_mul (a b : Int) : R0 (dMul (eI a) (eI b)) (mulE a b) (vs .z eI) := by
  show R0 (if _ then _ else _) (TM.chk _ _) _
  unfold TM.chk
  split <;> first | rfl | trivial
theorem q_mulr {a b : Int} (h : b.natAbs < 2 ^ 64) : R0 (dMul (eI a) (eI b)) (.ok (a * b)) (vs .z eI) := if_pos (by unfold mulOk; rw [decide_eq_true h, Bool.or_true])
theorem q_mull {a b : Int} (h : a.natAbs < 2 ^ 64) : R0 (dMul (eI a) (eI b)) (.ok (a * b)) (vs .z eI) := if_pos (by unfold mulOk; rw [decide_eq_true h, Bool.true_or])
theorem q_div (a b : Int) : R0 (dDiv (eI a) (eI b)) (divE a b) (vs .z eI) := by
  show R0 (if _ then _ else _) (TM.chk _ _) _
  unfold TM.chk
  split <;> first | rfl | trivial
theorem q_divr {a b : Int} (h : 0 < b ∧ b < 2 ^ 64) : R0 (dDiv (eI a) (eI b)) (.ok (a / b)) (vs .z eI) := if_pos h
theorem q_mod (a b : Int) : R0 (dMod (eI a) (eI b)) (modE a b) (vs .z eI) := by
  show R0 (if _ then _ else _) (TM.chk _ _) _
  unfold TM.chk
  split <;> first | rfl | trivial
theorem q_modr {a b : Int} (h : 0 < b) : R0 (dMod (eI a) (eI b)) (.ok (a % b)) (vs .z eI) := if_pos h
theorem q_pow (a b : Int) : R0 (dPow (eI a) (eI b)) (powE a b) (vs .z eI) := by
  show R0 (if _ then _ else _) (TM.chk _ _) _
  unfold TM.chk
  split <;> first | rfl | trivial
theorem q_powl {a b : Int} (h : 0 ≤ b ∧ b ≤ 1000000 ∧ a.natAbs < 2 ^ 64) : R0 (dPow (eI a) (eI b)) (.ok (a ^ b.toNat)) (vs .z eI) := if_pos h
theorem q_shl (a b : Int) : R0 (dShl (eI a) (eI b)) (shlE a b) (vs .z eI) := by
  show R0 (if _ then _ else _) (TM.chk _ _) _
  unfold TM.chk
  split <;> first | rfl | trivial
theorem q_shr (a b : Int) : R0 (dShr (eI a) (eI b)) (shrE a b) (vs .z eI) := by
  show R0 (if _ then _ else _) (TM.chk _ _) _
  unfold TM.chk
  split <;> first | rfl | trivial
theorem q_and (a b : Int) : R0 (dAnd (eI a) (eI b)) (.ok (Builtin.bitAnd a b)) (vs .z eI) := rfl
/-! comparisons -/
theorem q_eqI (a b : Int) : R0 (dEq (eI a) (eI b)) (.ok (decide (a = b))) (vs .z eB) := rfl
theorem q_neI (a b : Int) : R0 (dNe (eI a) (eI b)) (.ok (!decide (a = b))) (vs .z eB) := rfl
theorem q_eqB (a b : Bool) : R0 (dEq (eB a) (eB b)) (.ok (decide (a = b))) (vs .z eB) := rfl
theorem q_neB (a b : Bool) : R0 (dNe (eB a) (eB b)) (.ok (!decide (a = b))) (vs .z eB) := rfl
theorem q_eqS (a b : Str) : R0 (dEq (eS a) (eS b)) (.ok (decide (a = b))) (vs .z eB) := rfl
theorem q_neS (a b : Str) : R0 (dNe (eS a) (eS b)) (.ok (!decide (a = b))) (vs .z eB) := rfl
theorem q_lt (a b : Int) : R0 (dLt (eI a) (eI b)) (.ok (decide (a < b))) (vs .z eB) := rfl
theorem q_gt (a b : Int) : R0 (dGt (eI a) (eI b)) (.ok (decide (b < a))) (vs .z eB) := rfl
theorem q_le (a b : Int) : R0 (dLe (eI a) (eI b)) (.ok (decide (a ≤ b))) (vs .z eB) := rfl
theorem q_ge (a b : Int) : R0 (dGe (eI a) (eI b)) (.ok (decide (b ≤ a))) (vs .z eB) := rfl
theorem q_isN (a : Option α) (u : Unit) (h : ∀ a, e a ≠ .none) : R0 (dIs (eO e a) (eN u)) (.ok a.isNone) (vs .z eB) := by
  cases a with
  | none => rfl
  | some a =>
    show dIs (e a) .none = _
    have := h a
    unfold dIs
    split
    · rename_i h1 h2
      cases hz : e a with
      | none => exact absurd hz this
      | _ => rfl
    · rename_i h1; exact (h1 rfl).elim
theorem q_isntN (a : Option α) (u : Unit) (h : ∀ a, e a ≠ .none) : R0 (dIsnt (eO e a) (eN u)) (.ok a.isSome) (vs .z eB) := by
  cases a with
  | none => rfl
  | some a =>
    show dIsnt (e a) .none = _
    have := h a
    unfold dIsnt
    split
    · rename_i h1 h2
      cases hz : e a with
      | none => exact absurd hz this
      | _ => rfl
    · rename_i h1; exact (h1 rfl).elim
/-! items -/
theorem atI_map (f : α → β) (xs : List α) (i : Int) : L2.atI (xs.map f) i = (L2.atI xs i).map f := by
  unfold L2.atI
  rw [List.length_map]
  cases L2.ixN xs.length i with
  | none => rfl
  | some j => show (xs.map f)[j]? = (xs[j]?).map f; rw [List.getElem?_map]
theorem q_ixL (xs : List α) (i : Int) : R0 (dAt (eL e xs) (eI i)) (ixE xs i) (vs .z e) := by
  show R0 ((L2.atI (xs.map e) i).map _) _ _
  rw [atI_map]
  unfold ixE
  cases L2.atI xs i <;> first | rfl | trivial
theorem q_ixT (xs : List α) (i : Int) : R0 (dAt (eT e xs) (eI i)) (ixE xs i) (vs .z e) := by
  show R0 ((L2.atI (xs.map e) i).map _) _ _
  rw [atI_map]
  unfold ixE
  cases L2.atI xs i <;> first | rfl | trivial
theorem q_ixScr (xs : List Int) (i : Int) : R0 (dAt (eScr xs) (eI i)) (ixE xs i) (vs .z eI) := by
  show R0 ((L2.atI (xs.map eI) i).map _) _ _
  rw [atI_map]
  unfold ixE
  cases L2.atI xs i <;> first | rfl | trivial
theorem q_ixS (z : Str) (i : Int) : R0 (dAt (eS z) (eI i)) (ixSE z i) (vs .z eS) := by
  show R0 (if z.length ≤ 16777216 then _ else _) _ _
  unfold ixSE
  split
  · cases L2.atI z.cps.toList i <;> first | rfl | trivial
  · trivial
theorem q_proj {α : Type} {es : α → List D} {e1 : β → D} {f : α → β} (j : Nat) (k : Int) (hk : ∀ n, j < n → L2.ixN n k = some j) (h : ∀ p, (es p)[j]? = some (e1 (f p))) (p : α) : R0 (dAt (eP es p) (eI k)) (.ok (f p)) (vs .z e1) := by
  show (L2.atI (es p) k).map _ = _
  have hj : j < (es p).length := by
    have := h p
    by_cases c : j < (es p).length
    · exact c
    · rw [List.getElem?_eq_none (by omega)] at this; cases this
  unfold L2.atI
  rw [hk _ hj, Option.bind_some, h]
  rfl
theorem ixn_nat (j : Nat) (n : Nat) (h : j < n) : L2.ixN n (j : Int) = some j := by
  unfold L2.ixN
  rw [if_pos (by omega), if_pos (by omega)]
  rfl
/-! built-ins -/
theorem q_lenL (xs : List α) : R0 (dLen [eL e xs]) (.ok (xs.length : Int)) (vs .z eI) := by show some _ = _; rw [List.length_map]; rfl
theorem q_lenT (xs : List α) : R0 (dLen [eT e xs]) (.ok (xs.length : Int)) (vs .z eI) := by show some _ = _; rw [List.length_map]; rfl
theorem q_lenP {es : α → List D} (n : Nat) (h : ∀ p, (es p).length = n) (p : α) : R0 (dLen [eP es p]) (.ok (n : Int)) (vs .z eI) := by show some _ = _; rw [h]; rfl
theorem q_lenS (z : Str) : R0 (dLen [eS z]) (lenSE z) (vs .z eI) := by
  show R0 (if _ then _ else _) (TM.chk _ _) _
  unfold TM.chk
  split <;> first | rfl | trivial
theorem q_lenScr (xs : List Int) : R0 (dLen [eScr xs]) (.ok (xs.length : Int)) (vs .z eI) := by show some _ = _; rw [List.length_map]; rfl
theorem q_intI (a : Int) : R0 (dIntV [eI a]) (.ok a) (vs .z eI) := rfl
theorem q_intB (a : Bool) : R0 (dIntV [eB a]) (.ok (b2i a)) (vs .z eI) := rfl
theorem q_intS (a : Str) : R0 (dIntV [eS a]) (intSE a) (vs .z eI) := by
  show R0 (if _ then _ else _) _ _
  unfold intSE
  split
  · cases PySem.intText? a <;> first | rfl | trivial
  · trivial
theorem q_sum (xs : List Int) : R0 (dSum [eL eI xs]) (.ok xs.sum) (vs .z eI) := sum_int
theorem q_max2 (a b : Int) : R0 (dMax [eI a, eI b]) (.ok (imax a b)) (vs .z eI) := rfl
theorem q_min2 (a b : Int) : R0 (dMin [eI a, eI b]) (.ok (imin a b)) (vs .z eI) := rfl
theorem q_max (xs : List Int) : R0 (dMax [eL eI xs]) (maxE xs) (vs .z eI) := by
  show R0 (match dInts (xs.map .int) with | some (n :: ns) => _ | _ => _) _ _
  rw [ints_map]
  cases xs <;> first | rfl | trivial
theorem q_min (xs : List Int) : R0 (dMin [eL eI xs]) (minE xs) (vs .z eI) := by
  show R0 (match dInts (xs.map .int) with | some (n :: ns) => _ | _ => _) _ _
  rw [ints_map]
  cases xs <;> first | rfl | trivial
theorem q_all (xs : List Bool) : R0 (dAll [eL eB xs]) (.ok (xs.all id)) (vs .z eB) := by
  show (dBools (xs.map .bool)).map _ = _
  have := bools_mapP id xs
  rw [List.map_id] at this
  show (dBools (xs.map fun b => .bool (id b))).map _ = _
  rw [this]
  rfl
theorem q_any (xs : List Bool) : R0 (dAny [eL eB xs]) (.ok (xs.any id)) (vs .z eB) := by
  show (dBools (xs.map .bool)).map _ = _
  have := bools_mapP id xs
  rw [List.map_id] at this
  show (dBools (xs.map fun b => .bool (id b))).map _ = _
  rw [this]
  rfl
theorem q_abs (a : Int) : R0 (dAbs [eI a]) (.ok (if a < 0 then -a else a)) (vs .z eI) := rfl
theorem q_listL (xs : List α) : R0 (dListOf [eL e xs]) (.ok xs) (vs (.l .z) (eL e)) := rfl
theorem q_listT (xs : List α) : R0 (dListOf [eT e xs]) (.ok xs) (vs (.l .z) (eL e)) := rfl
theorem q_tupL (xs : List α) : R0 (dTupOf [eL e xs]) (.ok xs) (vs .z (eT e)) := rfl
theorem q_tupT (xs : List α) : R0 (dTupOf [eT e xs]) (.ok xs) (vs .z (eT e)) := rfl
/-! slices -/
theorem cut_map (f : α → β) (xs : List α) (lo hi : Option Int) : cut (xs.map f) lo hi = (cut xs lo hi).map f := by
  unfold PV.cut
  rw [List.length_map, ← List.map_drop, ← List.map_take]
theorem q_cutL (xs : List α) (lo hi : Option Int) : R0 (dCut (eL e xs) lo hi) (.ok (cut xs lo hi)) (vs (.l .z) (eL e)) := by
  show some (Sh.l .z, PyData.list (cut (xs.map e) lo hi)) = _
  rw [cut_map]; rfl
theorem q_cutT (xs : List α) (lo hi : Option Int) : R0 (dCut (eT e xs) lo hi) (.ok (cut xs lo hi)) (vs .z (eT e)) := by
  show some (Sh.z, PyData.tuple (cut (xs.map e) lo hi)) = _
  rw [cut_map]; rfl
theorem q_cutS (z : Str) (lo hi : Option Int) : R0 (dCut (eS z) lo hi) (cutSE z lo hi) (vs .z eS) := by
  show R0 (if _ then _ else _) (TM.chk _ _) _
  unfold TM.chk
  split <;> first | rfl | trivial
/-! truth -/
theorem q_truB (b : Bool) : R0 (dTru (eB b)) (.ok b) id := rfl
theorem q_truI (b : Int) : R0 (dTru (eI b)) (.ok (!decide (b = 0))) id := by
  show some (b != 0) = _
  rfl
theorem q_truL (xs : List α) : R0 (dTru (eL e xs)) (.ok (!xs.isEmpty)) id := by
  show some (!(xs.map e).isEmpty) = _
  rw [List.isEmpty_map]; rfl
theorem q_truT (xs : List α) : R0 (dTru (eT e xs)) (.ok (!xs.isEmpty)) id := by
  show some (!(xs.map e).isEmpty) = _
  rw [List.isEmpty_map]; rfl
/-! isinstance -/
theorem j_isi {Γ Γ1 : Ev} {o : Opn} {m : E α} {T : String} {c : Bool} (h : So o Γ m e Γ1 Γ1) (hd : ∀ a x, e a ≠ .dict [(.none, x)]) (ht : ∀ a, isB (tyD (e a)) T = c) (hd2 : ∀ a x, e a ≠ .dict ((.bool true, .none) :: x) := by intro _ _ h; cases h) (hd3 : ∀ a x, e a ≠ .dict ((.bool false, .none) :: x) := by intro _ _ h; cases h) : Si (fIsi T o Γ) (m.bind fun _ => .ok c) eB Γ1 := by
  rw [fIsi_ap]
  cases m with
  | ok a =>
    obtain ⟨d, q1, q2⟩ := h
    rw [q1, bind_ok, q2, Option.bind_some]
    have : dIsi T (e a) = some (.bool c) := by
      unfold dIsi
      split
      · rename_i x hx; exact absurd hx (hd a x)
      · rename_i x hx; exact absurd hx (hd2 a x)
      · rename_i x hx; exact absurd hx (hd3 a x)
      · rw [ht]
    rw [this]
    rfl
  | ex x => obtain ⟨Γ', h⟩ := h; rw [h]; exact ⟨Γ', rfl⟩
  | st => trivial
theorem j_isiO {Γ Γ1 : Ev} {o : Opn} {m : E (Option α)} {T : String} {c : Bool} (h : So o Γ m (eO e) Γ1 Γ1) (hd : ∀ a x, e a ≠ .dict [(.none, x)]) (hn : isB "NoneType" T = false) (ht : ∀ a, isB (tyD (e a)) T = c) (hd2 : ∀ a x, e a ≠ .dict ((.bool true, .none) :: x) := by intro _ _ h; cases h) (hd3 : ∀ a x, e a ≠ .dict ((.bool false, .none) :: x) := by intro _ _ h; cases h) : Si (fIsi T o Γ) (m.bind fun a => .ok (a.isSome && c)) eB Γ1 := by
  rw [fIsi_ap]
  cases m with
  | ok a =>
    obtain ⟨d, q1, q2⟩ := h
    rw [q1, bind_ok, q2, Option.bind_some]
    have : dIsi T (eO e a) = some (.bool (a.isSome && c)) := by
      cases a with
      | none => show some (PyData.bool (isB "NoneType" T)) = _; rw [hn]; rfl
      | some a =>
        show dIsi T (e a) = _
        unfold dIsi
        split
        · rename_i x hx; exact absurd hx (hd a x)
        · rename_i x hx; exact absurd hx (hd2 a x)
        · rename_i x hx; exact absurd hx (hd3 a x)
        · rw [ht]; rfl
    rw [this]
    rfl
  | ex x => obtain ⟨Γ', h⟩ := h; rw [h]; exact ⟨Γ', rfl⟩
  | st => trivial
/-! equality of data -/
structure EqE (n : Nat) (e : α → D) [DecidableEq α] : Prop where
  eqv : ∀ a b, PyData.eqv (e a) (e b) = decide (a = b)
  lay : ∀ a, (e a).canLay0 = true
  dep : ∀ a, (e a).depth ≤ n
structure RwE (n : Nat) (es : α → List D) [DecidableEq α] : Prop where
  eqv : ∀ a b, PyData.eqvAll (es a) (es b) = decide (a = b)
  lay : ∀ a, PyData.canLayAll0 (es a) = true
  dep : ∀ a, PyData.depthAll (es a) ≤ n
theorem eq_I : EqE 0 eI := ⟨fun a b => rfl, fun a => by simp only [eI, PyData.canLay0], fun a => by simp only [eI, PyData.depth]; omega⟩
theorem eq_B : EqE 0 eB := ⟨fun a b => by cases a <;> cases b <;> rfl, fun a => by simp only [eB, PyData.canLay0], fun a => by simp only [eB, PyData.depth]; omega⟩
theorem rw_0 : RwE 0 n0 := ⟨fun a b => rfl, fun a => by simp only [n0, PyData.canLayAll0], fun a => by simp only [n0, PyData.depthAll]; omega⟩
section
variable [DecidableEq α] [DecidableEq β]
theorem rw_1 {n : Nat} (h : EqE n e) : RwE n (n1 e) := ⟨fun a b => by simp only [n1, PyData.eqvAll, h.eqv, Bool.and_true], fun a => by simp only [n1, PyData.canLayAll0, h.lay, Bool.and_self], fun a => by
  have := h.dep a
  simp only [n1, PyData.depthAll]; omega⟩
theorem rw_c {n m : Nat} {es : β → List D} (h : EqE n e) (hs : RwE m es) : RwE (max n m) (nc e es) := ⟨fun a b => by
    obtain ⟨a, a'⟩ := a; obtain ⟨b, b'⟩ := b
    simp only [nc, PyData.eqvAll, h.eqv, hs.eqv, Prod.mk.injEq, Bool.decide_and], fun a => by simp only [nc, PyData.canLayAll0, h.lay, hs.lay, Bool.and_self], fun a => by
  have := h.dep a.1
  have := hs.dep a.2
  simp only [nc, PyData.depthAll]; omega⟩
theorem rw_m {n : Nat} (h : EqE n e) : RwE n (List.map e) := ⟨fun a => by
    induction a with
    | nil => intro b; cases b <;> simp [PyData.eqvAll]
    | cons x xs ih => intro b; cases b with
      | nil => simp [PyData.eqvAll]
      | cons y ys => simp only [List.map_cons, PyData.eqvAll, h.eqv, ih, List.cons.injEq, Bool.decide_and], fun a => by
    induction a with
    | nil => simp only [List.map_nil, PyData.canLayAll0]
    | cons x xs ih => simp only [List.map_cons, PyData.canLayAll0, h.lay, ih, Bool.and_self], fun a => by
    induction a with
    | nil => simp only [List.map_nil, PyData.depthAll]; omega
    | cons x xs ih => have := h.dep x; simp only [List.map_cons, PyData.depthAll]; omega⟩
theorem eq_L {n : Nat} (h : EqE n e) : EqE (n + 1) (eL e) := ⟨fun a b => by simp only [eL, PyData.eqv]; exact (rw_m h).eqv a b, fun a => by simp only [eL, PyData.canLay0]; exact (rw_m h).lay a, fun a => by
  have := (rw_m h).dep a
  simp only [eL, PyData.depth]; omega⟩
theorem eq_T {n : Nat} (h : EqE n e) : EqE (n + 1) (eT e) := ⟨fun a b => by simp only [eT, PyData.eqv]; exact (rw_m h).eqv a b, fun a => by simp only [eT, PyData.canLay0]; exact (rw_m h).lay a, fun a => by
  have := (rw_m h).dep a
  simp only [eT, PyData.depth]; omega⟩
theorem eq_P {n : Nat} {es : α → List D} (h : RwE n es) : EqE (n + 1) (eP es) := ⟨fun a b => by simp only [eP, PyData.eqv]; exact h.eqv a b, fun a => by simp only [eP, PyData.canLay0]; exact h.lay a, fun a => by
  have := h.dep a
  simp only [eP, PyData.depth]; omega⟩
theorem eqv_none {d : D} (h : d ≠ .none) : PyData.eqv .none d = false ∧ PyData.eqv d .none = false := by
  cases d with
  | none => exact absurd rfl h
  | _ => exact ⟨by simp only [PyData.eqv], by simp only [PyData.eqv]⟩
/-- maybe nothing: where it is compared -/
theorem eqvO {n : Nat} (h : EqE n e) (nn : ∀ a, e a ≠ .none) (a b : Option α) : PyData.eqv (eO e a) (eO e b) = decide (a = b) := by
  cases a with
  | none => cases b with
    | none => simp only [eO, PyData.eqv]; rfl
    | some b => simp only [eO, (eqv_none (nn b)).1]; simp
  | some a => cases b with
    | none => simp only [eO, (eqv_none (nn a)).2]; simp
    | some b => simp only [eO, h.eqv, Option.some.injEq]
theorem dSc_eqv {x y : D} (hx : SeqAt.shaped x = true) (hy : SeqAt.shaped y = true) : dSc x y = some (PyData.eqv x y) := by
  have h0 : dEqv x y = some (PyData.eqv x y) := by unfold dEqv; rw [hx, hy]; rfl
  unfold dSc
  split <;> first
    | exact h0
    | (simp only [PyData.eqv]; done)
    | (simp only [PyData.eqv]; rfl)
theorem shaped_of {n : Nat} {d : D} (h1 : d.canLay0 = true) (h2 : d.depth ≤ n) (h : n ≤ 64) : SeqAt.shaped d = true := by
  unfold SeqAt.shaped
  rw [h1, decide_eq_true (Nat.le_trans h2 h)]
  rfl
theorem q_eq {n : Nat} (h : EqE n e) (hn : n ≤ 64) (a b : α) : R0 (dEq (e a) (e b)) (.ok (decide (a = b))) (vs .z eB) := by
  show b2 _ = _
  rw [dSc_eqv (shaped_of (h.lay a) (h.dep a) hn) (shaped_of (h.lay b) (h.dep b) hn), h.eqv]
  rfl
theorem q_ne {n : Nat} (h : EqE n e) (hn : n ≤ 64) (a b : α) : R0 (dNe (e a) (e b)) (.ok (!decide (a = b))) (vs .z eB) := by
  show b2 (Option.map not _) = _
  rw [dSc_eqv (shaped_of (h.lay a) (h.dep a) hn) (shaped_of (h.lay b) (h.dep b) hn), h.eqv]
  rfl
theorem shapedO {n : Nat} (h : EqE n e) (hn : n ≤ 64) (a : Option α) : SeqAt.shaped (eO e a) = true := by
  cases a with
  | none => show SeqAt.shaped PyData.none = true; decide +kernel
  | some a => exact shaped_of (h.lay a) (h.dep a) hn
theorem eq_O {n : Nat} (h : EqE n e) (nn : ∀ a, e a ≠ .none) : EqE n (eO e) := ⟨eqvO h nn, fun a => by
  cases a with
  | none => simp only [eO, PyData.canLay0]
  | some a => exact h.lay a, fun a => by
  cases a with
  | none => simp only [eO, PyData.depth]; omega
  | some a => exact h.dep a⟩
/-- items of a flat kind -/
theorem q_inG (hf : ∀ a, dFlat (e a) = true) (he : ∀ a b, PyData.eqv (e a) (e b) = decide (a = b)) (x : α) (xs : List α) : dInB (e x) (.list (xs.map e)) = some (decide (x ∈ xs)) ∧ dInB (e x) (.tuple (xs.map e)) = some (decide (x ∈ xs)) := by
  have h1 : (xs.map e).all dFlat = true := by rw [List.all_map]; exact List.all_eq_true.mpr fun a _ => hf a
  have h2 : (xs.map e).any (fun z => PyData.eqv z (e x)) = decide (x ∈ xs) := by
    rw [List.any_map]
    induction xs with
    | nil => simp
    | cons y ys ih =>
      have ih := ih (by rw [List.all_map]; exact List.all_eq_true.mpr fun a _ => hf a)
      rw [List.any_cons, ih]
      show (PyData.eqv (e y) (e x) || _) = _
      rw [he]
      simp only [List.mem_cons, Bool.decide_or]
      congr 1
      exact decide_eq_decide.mpr eq_comm
  constructor
  · show (if _ then _ else _) = _
    rw [if_pos (by rw [hf, h1]; rfl), h2]
  · show (if _ then _ else _) = _
    rw [if_pos (by rw [hf, h1]; rfl), h2]
end
theorem q_inL [DecidableEq α] (hf : ∀ a, dFlat (e a) = true) (he : ∀ a b, PyData.eqv (e a) (e b) = decide (a = b)) (x : α) (xs : List α) : R0 (dIn (e x) (eL e xs)) (.ok (decide (x ∈ xs))) (vs .z eB) := by
  show b2 _ = _
  rw [show eL e xs = .list (xs.map e) from rfl, (q_inG hf he x xs).1]; rfl
theorem q_ninL [DecidableEq α] (hf : ∀ a, dFlat (e a) = true) (he : ∀ a b, PyData.eqv (e a) (e b) = decide (a = b)) (x : α) (xs : List α) : R0 (dNin (e x) (eL e xs)) (.ok (!decide (x ∈ xs))) (vs .z eB) := by
  show b2 (Option.map not _) = _
  rw [show eL e xs = .list (xs.map e) from rfl, (q_inG hf he x xs).1]; rfl
theorem q_inT [DecidableEq α] (hf : ∀ a, dFlat (e a) = true) (he : ∀ a b, PyData.eqv (e a) (e b) = decide (a = b)) (x : α) (xs : List α) : R0 (dIn (e x) (eT e xs)) (.ok (decide (x ∈ xs))) (vs .z eB) := by
  show b2 _ = _
  rw [show eT e xs = .tuple (xs.map e) from rfl, (q_inG hf he x xs).2]; rfl
theorem q_ninT [DecidableEq α] (hf : ∀ a, dFlat (e a) = true) (he : ∀ a b, PyData.eqv (e a) (e b) = decide (a = b)) (x : α) (xs : List α) : R0 (dNin (e x) (eT e xs)) (.ok (!decide (x ∈ xs))) (vs .z eB) := by
  show b2 (Option.map not _) = _
  rw [show eT e xs = .tuple (xs.map e) from rfl, (q_inG hf he x xs).2]; rfl
theorem fl_I (a : Int) : dFlat (eI a) = true := rfl
theorem fl_S (a : Str) : dFlat (eS a) = true := rfl
theorem fl_B (a : Bool) : dFlat (eB a) = true := rfl
theorem ev_I (a b : Int) : PyData.eqv (eI a) (eI b) = decide (a = b) := rfl
theorem ev_B (a b : Bool) : PyData.eqv (eB a) (eB b) = decide (a = b) := by cases a <;> cases b <;> rfl
theorem ev_S (a b : Str) : PyData.eqv (eS a) (eS b) = decide (a = b) := by
  show (a == b) = _
  rfl
end
end TM
namespace TM
open PySem PV
section
variable {α β γ : Type} {e : α → D} {e1 : β → D}
/-! written numbers as operands -/
theorem q_mulrL {a b k : Int} (h : k.natAbs < 2 ^ 64) (hb : (E.ok k : E Int) = .ok b) : R0 (dMul (eI a) (eI b)) (.ok (a * b)) (vs .z eI) := by cases hb; exact q_mulr h
theorem q_mullL {a b k : Int} (h : k.natAbs < 2 ^ 64) (hb : (E.ok k : E Int) = .ok a) : R0 (dMul (eI a) (eI b)) (.ok (a * b)) (vs .z eI) := by cases hb; exact q_mull h
theorem q_divrL {a b k : Int} (h : 0 < k ∧ k < 2 ^ 64) (hb : (E.ok k : E Int) = .ok b) : R0 (dDiv (eI a) (eI b)) (.ok (a / b)) (vs .z eI) := by cases hb; exact q_divr h
theorem q_modrL {a b k : Int} (h : 0 < k) (hb : (E.ok k : E Int) = .ok b) : R0 (dMod (eI a) (eI b)) (.ok (a % b)) (vs .z eI) := by cases hb; exact q_modr h
theorem q_powL {a b j k : Int} (h : 0 ≤ k ∧ k ≤ 1000000 ∧ j.natAbs < 2 ^ 64) (ha : (E.ok j : E Int) = .ok a) (hb : (E.ok k : E Int) = .ok b) : R0 (dPow (eI a) (eI b)) (.ok (a ^ b.toNat)) (vs .z eI) := by cases ha; cases hb; exact q_powl h
theorem q_pj {es : α → List D} {e1 : β → D} (f : α → β) (j : Nat) {k b : Int} (hk : ∀ n, j < n → L2.ixN n k = some j) (h : ∀ p, (es p)[j]? = some (e1 (f p))) (p : α) (hb : (E.ok k : E Int) = .ok b) : R0 (dAt (eP es p) (eI b)) (.ok (f p)) (vs .z e1) := by cases hb; exact q_proj j k hk h p
theorem q_pjn {es : α → List D} {e1 : β → D} (f : α → β) (j m : Nat) {k b : Int} (hm : ∀ p, (es p).length = m) (hk : L2.ixN m k = some j) (h : ∀ p, (es p)[j]? = some (e1 (f p))) (p : α) (hb : (E.ok k : E Int) = .ok b) : R0 (dAt (eP es p) (eI b)) (.ok (f p)) (vs .z e1) := by
  cases hb
  show (L2.atI (es p) k).map _ = _
  unfold L2.atI
  rw [hm, hk, Option.bind_some, h]
  rfl
theorem q_lenPn {es : α → List D} (n : Nat) (k : Int) (hk : (n : Int) = k) (h : ∀ p, (es p).length = n) (p : α) : R0 (dLen [eP es p]) (.ok k) (vs .z eI) := by subst hk; exact q_lenP n h p
theorem j_someV {Γ1 : Ev} {s : Sh} {r : Out Va} {m : E α} (h : Si r m (vs s e) Γ1) : Si r (m.bind fun a => .ok (some a)) (vs s (eO e)) Γ1 := h.map fun _ => rfl
theorem j_unV {Γ1 : Ev} {s : Sh} {r : Out Va} {m : E (Option α)} (h : Si r m (vs s (eO e)) Γ1) : Si r (m.bind E.ofO) (vs s e) Γ1 := by
  cases m with
  | ok a => cases a with
    | none => trivial
    | some a => exact h
  | ex x => exact h
  | st => trivial
theorem o_un {o : Opn} {Γ Γ1 Γ2 : Ev} {m : E (Option α)} (h : So o Γ m (eO e) Γ1 Γ2) : So o Γ (m.bind E.ofO) e Γ1 Γ2 := by
  cases m with
  | ok a => cases a with
    | none => trivial
    | some a => exact h
  | ex x => exact h
  | st => trivial
theorem o_some {o : Opn} {Γ Γ1 Γ2 : Ev} {m : E α} (h : So o Γ m e Γ1 Γ2) : So o Γ (m.bind fun a => .ok (some a)) (eO e) Γ1 Γ2 := by
  cases m with
  | ok a => exact h
  | ex x => exact h
  | st => trivial
theorem o_eq {o : Opn} {Γ Γ1 Γ2 : Ev} {m m' : E α} (h : So o Γ m e Γ1 Γ2) (q : m = m') : So o Γ m' e Γ1 Γ2 := q ▸ h
/-! tables of the module -/
def tbD (t : List (Str × Option α)) (e : α → D) : List (Str × Option D) := t.map fun p => (p.1, p.2.map e)
theorem lookup_tb (t : List (Str × Option α)) (x : Str) : (tbD t e).lookup x = (t.lookup x).map fun r => r.map e := by
  unfold tbD
  induction t with
  | nil => rfl
  | cons p t ih =>
    obtain ⟨k, r⟩ := p
    rw [List.map_cons, List.lookup_cons, List.lookup_cons, ih]
    cases x == k <;> rfl
def tabIn (t : List (Str × Option α)) (x : Str) : E Bool := match t.lookup x with | some r => .ok r.isSome | none => .st
def tabGet (t : List (Str × Option α)) (x : Str) : E α := match t.lookup x with | some (some a) => .ok a | _ => .st
theorem j_kin {Γ Γ1 : Ev} {o : Opn} {m : E Str} (t : List (Str × Option α)) (e : α → D) (h : So o Γ m eS Γ1 Γ1) {tab : List (Str × Option D)} (ht : tab = tbD t e) : Si (fIn false tab o Γ) (m.bind (tabIn t)) eB Γ1 := by
  subst ht
  rw [fIn_ap]
  cases m with
  | ok a =>
    obtain ⟨d, q1, q2⟩ := h
    rw [q1, bind_ok, q2, Option.bind_some]
    show Si (.of (((tbD t e).lookup a).map fun r => PyData.bool r.isSome) Γ1) (tabIn t a) eB Γ1
    rw [lookup_tb]
    unfold tabIn
    cases t.lookup a with
    | none => trivial
    | some r => cases r <;> rfl
  | ex x => obtain ⟨Γ', h⟩ := h; rw [h]; exact ⟨Γ', rfl⟩
  | st => trivial
theorem j_knin {Γ Γ1 : Ev} {o : Opn} {m : E Str} (t : List (Str × Option α)) (e : α → D) (h : So o Γ m eS Γ1 Γ1) {tab : List (Str × Option D)} (ht : tab = tbD t e) : Si (fIn true tab o Γ) (m.bind fun x => (tabIn t x).bind fun b => .ok (!b)) eB Γ1 := by
  subst ht
  rw [fIn_ap]
  cases m with
  | ok a =>
    obtain ⟨d, q1, q2⟩ := h
    rw [q1, bind_ok, q2, Option.bind_some]
    show Si (.of (((tbD t e).lookup a).map fun r => PyData.bool !r.isSome) Γ1) ((tabIn t a).bind fun b => .ok (!b)) eB Γ1
    rw [lookup_tb]
    unfold tabIn
    cases t.lookup a with
    | none => trivial
    | some r => cases r <;> rfl
  | ex x => obtain ⟨Γ', h⟩ := h; rw [h]; exact ⟨Γ', rfl⟩
  | st => trivial
theorem j_kget {Γ Γ1 : Ev} {o : Opn} {m : E Str} (t : List (Str × Option α)) (e : α → D) (h : So o Γ m eS Γ1 Γ1) {tab : List (Str × Option D)} (ht : tab = tbD t e) : Si (fGet tab o Γ) (m.bind (tabGet t)) e Γ1 := by
  subst ht
  rw [fGet_ap]
  cases m with
  | ok a =>
    obtain ⟨d, q1, q2⟩ := h
    rw [q1, bind_ok, q2, Option.bind_some]
    show Si (.of (((tbD t e).lookup a).bind fun r => r) Γ1) (tabGet t a) e Γ1
    rw [lookup_tb]
    unfold tabGet
    cases t.lookup a with
    | none => trivial
    | some r => cases r <;> first | rfl | trivial
  | ex x => obtain ⟨Γ', h⟩ := h; rw [h]; exact ⟨Γ', rfl⟩
  | st => trivial
/-! dicts -/
def lookD [DecidableEq α] : List (α × β) → α → Option β
  | [], _ => none
  | (k, v) :: r, x => if k = x then some v else lookD r x
def putD [DecidableEq α] (kvs : List (α × β)) (k : α) (v : β) : List (α × β) := if (kvs.any fun p => decide (p.1 = k)) = true then kvs.map fun p => if p.1 = k then (p.1, v) else p else kvs ++ [(k, v)]
/-- keys -/
structure KyE (e : α → D) (ky : α → L2.Key) : Prop where
  key : ∀ a, dKey (e a) = some (ky a)
  inj : ∀ a b, ky a = ky b → a = b
  kd : ∀ a, kD (ky a) = e a
theorem ky_I : KyE eI Sum.inl := ⟨fun _ => rfl, fun a b h => by cases h; rfl, fun _ => rfl⟩
theorem ky_S : KyE eS Sum.inr := ⟨fun _ => rfl, fun a b h => by cases h; rfl, fun _ => rfl⟩
section
variable [DecidableEq α] {ky : α → L2.Key} {ev : β → D}
theorem dl_ok (hk : KyE e ky) (x : α) : ∀ kvs : List (α × β), dLook (kvs.map fun p => (e p.1, ev p.2)) (ky x) = (lookD kvs x).map ev
  | [] => rfl
  | (k, v) :: r => by
    rw [List.map_cons]
    unfold dLook lookD
    rw [hk.key, dl_ok hk x r]
    by_cases c : k = x
    · subst c; rw [if_pos rfl, if_pos rfl]; rfl
    · rw [if_neg (fun z => c (hk.inj _ _ (Option.some.inj z))), if_neg c]
theorem dp_ok (hk : KyE e ky) (kvs : List (α × β)) (x : α) (v : β) : dPutL (kvs.map fun p => (e p.1, ev p.2)) (ky x) (ev v) = (putD kvs x v).map fun p => (e p.1, ev p.2) := by
  unfold dPutL putD dHas
  have h : (kvs.map fun p => (e p.1, ev p.2)).any (fun p => decide (dKey p.1 = some (ky x))) = kvs.any fun p => decide (p.1 = x) := by
    rw [List.any_map]
    congr 1
    funext p
    show decide (dKey (e p.1) = some (ky x)) = _
    rw [hk.key]
    exact decide_eq_decide.mpr ⟨fun z => hk.inj _ _ (Option.some.inj z), fun z => by rw [z]⟩
  rw [h]
  split
  · rw [List.map_map, List.map_map]
    refine List.map_congr_left fun p _ => ?_
    show (if dKey (e p.1) = some (ky x) then _ else _) = (e (if p.1 = x then (p.1, v) else p).1, ev (if p.1 = x then (p.1, v) else p).2)
    rw [hk.key]
    by_cases c : p.1 = x
    · rw [if_pos (by rw [c]), if_pos c]
    · rw [if_neg (fun z => c (hk.inj _ _ (Option.some.inj z))), if_neg c]
  · rw [List.map_append, hk.kd]; rfl
theorem keys_ok (hk : KyE e ky) (kvs : List (α × β)) : ((kvs.map fun p => (e p.1, ev p.2)).all fun p => (dKey p.1).isSome) = true := by
  rw [List.all_map]
  exact List.all_eq_true.mpr fun p _ => by show (dKey (e p.1)).isSome = true; rw [hk.key]; rfl
theorem dic_d (kvs : List (α × β)) : dic (some (some (.d .z, eD e ev kvs))) = some (kvs.map fun p => (e p.1, ev p.2)) := rfl
theorem dic_z (hk : KyE e ky) (kvs : List (α × β)) : dic (some (some (.z, eD e ev kvs))) = some (kvs.map fun p => (e p.1, ev p.2)) := by
  show (if _ then _ else _) = _
  rw [if_pos (keys_ok hk kvs)]
/-- what stands at a dict's slot -/
def isd (o : Option (Option Va)) (rs : List (D × D)) : Prop := dic o = some rs
theorem j_din {Γ Γ1 : Ev} {f : Ev → Out D} {m : E α} (hk : KyE e ky) (ev : β → D) (i : Nat) (kvs : List (α × β)) (h : Si (f Γ) m e Γ1) (h1 : dic (Γ1[i]?) = some (kvs.map fun p => (e p.1, ev p.2))) : Si (fDIn false i f Γ) (m.bind fun k => .ok (lookD kvs k).isSome) eB Γ1 := by
  show Si ((f Γ).bind _) _ _ _
  refine h.bind fun k _ => ?_
  rw [h1, Option.bind_some, hk.key]
  show Si (.of (some (PyData.bool (if false = true then _ else _))) Γ1) _ _ _
  rw [if_neg Bool.false_ne_true, dl_ok hk]
  show Out.ok _ _ = _
  rw [Option.isSome_map]; rfl
theorem j_dnin {Γ Γ1 : Ev} {f : Ev → Out D} {m : E α} (hk : KyE e ky) (ev : β → D) (i : Nat) (kvs : List (α × β)) (h : Si (f Γ) m e Γ1) (h1 : dic (Γ1[i]?) = some (kvs.map fun p => (e p.1, ev p.2))) : Si (fDIn true i f Γ) (m.bind fun k => .ok (!(lookD kvs k).isSome)) eB Γ1 := by
  show Si ((f Γ).bind _) _ _ _
  refine h.bind fun k _ => ?_
  rw [h1, Option.bind_some, hk.key]
  show Si (.of (some (PyData.bool (if true = true then _ else _))) Γ1) _ _ _
  rw [if_pos rfl, dl_ok hk]
  show Out.ok _ _ = _
  rw [Option.isSome_map]; rfl
theorem j_dat {Γ Γ1 : Ev} {f : Ev → Out D} {m : E α} (hk : KyE e ky) (ev : β → D) (i : Nat) (kvs : List (α × β)) (h0 : ∃ rs, dic (Γ[i]?) = some rs) (h : Si (f Γ) m e Γ1) (h1 : dic (Γ1[i]?) = some (kvs.map fun p => (e p.1, ev p.2))) : Si (fDAt i f Γ) (m.bind fun k => E.ofO (lookD kvs k)) ev Γ1 := by
  obtain ⟨rs, h0⟩ := h0
  show Si (dicS (Γ[i]?) ((f Γ).bind _)) _ _ _
  unfold dicS
  rw [h0]
  refine h.bind fun k _ => ?_
  rw [h1, Option.bind_some, hk.key, Option.bind_some, dl_ok hk]
  cases lookD kvs k <;> first | rfl | trivial
theorem j_dg1 {Γ Γ1 : Ev} {f : Ev → Out D} {m : E α} (hk : KyE e ky) (ev : β → D) (i : Nat) (kvs : List (α × β)) (h0 : ∃ rs, dic (Γ[i]?) = some rs) (h : Si (f Γ) m e Γ1) (h1 : dic (Γ1[i]?) = some (kvs.map fun p => (e p.1, ev p.2))) : Si (fDG1 i f Γ) (m.bind fun k => .ok (lookD kvs k)) (eO ev) Γ1 := by
  obtain ⟨rs, h0⟩ := h0
  show Si (dicS (Γ[i]?) ((f Γ).bind _)) _ _ _
  unfold dicS
  rw [h0]
  refine h.bind fun k _ => ?_
  rw [h1, Option.bind_some, hk.key]
  show Out.ok ((dLook _ _).getD .none) Γ1 = _
  rw [dl_ok hk]
  cases lookD kvs k <;> rfl
theorem j_dg2 {Γ Γ1 Γ2 : Ev} {f g : Ev → Out D} {m : E α} {mx : E β} (hk : KyE e ky) (ev : β → D) (i : Nat) (kvs : List (α × β)) (h0 : ∃ rs, dic (Γ[i]?) = some rs) (h : Si (f Γ) m e Γ1) (hx : Si (g Γ1) mx ev Γ2) (h1 : dic (Γ2[i]?) = some (kvs.map fun p => (e p.1, ev p.2))) : Si (fDG2 i f g Γ) (m.bind fun k => mx.bind fun x => .ok ((lookD kvs k).getD x)) ev Γ2 := by
  obtain ⟨rs, h0⟩ := h0
  show Si (dicS (Γ[i]?) ((f Γ).bind _)) _ _ _
  unfold dicS
  rw [h0]
  refine h.bind fun k _ => ?_
  refine hx.bind fun x _ => ?_
  rw [h1, Option.bind_some, hk.key]
  show Out.ok ((dLook _ _).getD _) Γ2 = _
  rw [dl_ok hk]
  cases lookD kvs k <;> rfl
/-- d.get(k, x), d any expression -/
theorem j_get2 {Γ Γ0 Γ1 Γ2 : Ev} {fd f g : Ev → Out D} {md : E (List (α × β))} {m : E α} {mx : E β} (hk : KyE e ky) (ev : β → D) (hd : Si (fd Γ) md (eD e ev) Γ0) (h : Si (f Γ0) m e Γ1) (hx : Si (g Γ1) mx ev Γ2) : Si (fGet2 fd f g Γ) (md.bind fun kvs => m.bind fun k => mx.bind fun x => .ok ((lookD kvs k).getD x)) ev Γ2 := by
  cases md with
  | ok kvs =>
    rw [fGet2_rs (show fd Γ = .ok (.dict (kvs.map fun p => (e p.1, ev p.2))) Γ0 from hd) (keys_ok hk kvs), ok_bind]
    refine h.bind fun k _ => ?_
    refine hx.bind fun x _ => ?_
    rw [hk.key]
    show Out.ok ((dLook _ _).getD _) Γ2 = _
    rw [dl_ok hk]
    cases lookD kvs k <;> rfl
  | ex x => obtain ⟨Γ', h⟩ := hd; exact ⟨Γ', by show (fd Γ).bind _ = _; rw [h]; rfl⟩
  | st => trivial
theorem j_dct0 (ek : α → D) (ev : β → D) {Γ : Ev} : Si (fDct0 Γ) (.ok []) (eD ek ev) Γ := rfl
theorem j_vdct0 (ek : α → D) (ev : β → D) {Γ : Ev} : Si (vDct0 Γ) (.ok []) (vs (.d .z) (eD ek ev)) Γ := rfl
theorem j_dct1 {Γ Γ1 Γ2 : Ev} {fk fv : Ev → Out D} {m : E α} {mx : E β} (hk : KyE e ky) (h : Si (fk Γ) m e Γ1) (hx : Si (fv Γ1) mx ev Γ2) : Si (vDct1 fk fv Γ) (m.bind fun k => mx.bind fun x => .ok [(k, x)]) (vs (.d .z) (eD e ev)) Γ2 := by
  rw [vDct1_ap]
  refine h.bind fun k _ => ?_
  refine hx.bind fun x _ => ?_
  rw [hk.key]
  rfl
def putDE (kvs : List (α × β)) (k : α) (v : β) : E (List (α × β)) := chk (kvs.length < 16777216) (putD kvs k v)
theorem t_dput {Γ Γ1 Γ2 : Ev} {fv fk : Ev → Out D} {mx : E β} {m : E α} {τ : Type} {mk : List (α × β) → E τ} {R : τ → SO → Prop} {ss : List (Ev → SO)} (hk : KyE e ky) (ev : β → D) (i : Nat) (kvs : List (α × β)) (hv : Si (fv Γ) mx ev Γ1) (h0 : ∃ rs, Γ1[i]? = some (some (.d .z, .dict rs))) (hi : Si (fk Γ1) m e Γ2) (h1 : Γ2[i]? = some (some (.d .z, eD e ev kvs))) (hn : ∀ ys, Ti (run ss (Γ2.set i (some (.d .z, eD e ev ys)))) (mk ys) R) : Ti (run (sDPutI i fv fk :: ss) Γ) (mx.bind fun x => m.bind fun k => (putDE kvs k x).bind mk) R := by
  show Ti ((sDPutI i fv fk Γ).then (run ss)) _ _
  obtain ⟨rs, h0⟩ := h0
  unfold sDPutI
  refine t_sB hv fun x => ?_
  rw [h0]
  show Ti ((dputS (some (some (.d .z, .dict rs))) _).then _) _ _
  unfold dputS
  refine t_sB hi fun k => ?_
  rw [h1]
  show Ti ((dputE i (ev x) (some (some (.d .z, .dict (kvs.map fun p => (e p.1, ev p.2))))) (e k) Γ2).then _) _ _
  unfold dputE putDE chk
  dsimp only
  rw [hk.key, List.length_map]
  dsimp only
  split
  · rw [dp_ok hk]; exact hn _
  · trivial
end
/-- a < b < c -/
theorem j_ch {op op' : D → D → Option Va} {a b c : Opn} {Γ : Ev} {e2 : γ → D} {ma : E α} {mb : E β} {mc : E γ} {g : α → β → Bool} {g' : β → γ → Bool} (h1 : So a Γ ma e Γ Γ) (h2 : So b Γ mb e1 Γ Γ) (h3 : So c Γ mc e2 Γ Γ) (ho : ∀ x y, R0 (op (e x) (e1 y)) (.ok (g x y)) (vs .z eB)) (ho' : ∀ x y, R0 (op' (e1 x) (e2 y)) (.ok (g' x y)) (vs .z eB)) : Si (vCh op op' a b c Γ) (ma.bind fun x => mb.bind fun y => if g x y = true then mc.bind fun z => .ok (g' y z) else .ok false) eB Γ := by
  rw [vch_ap]
  cases ma with
  | ok x =>
    obtain ⟨d, q1, q2⟩ := h1
    rw [q1, bind_ok, ok_bind]
    cases mb with
    | ok y =>
      obtain ⟨d', q3, q4⟩ := h2
      rw [q3, bind_ok, q2, q4, ok_bind]
      show Si (chE op' b c d' (op (e x) (e1 y)) Γ) _ _ _
      rw [show op (e x) (e1 y) = some (.z, .bool (g x y)) from ho x y]
      cases g x y with
      | true =>
        rw [chE_t, if_pos rfl]
        cases mc with
        | ok z =>
          obtain ⟨d'', q5, q6⟩ := h3
          rw [q5, bind_ok, q4, q6]
          show Si (.of ((op' (e1 y) (e2 z)).bind chB) Γ) _ _ _
          rw [show op' (e1 y) (e2 z) = some (.z, .bool (g' y z)) from ho' y z]
          rfl
        | ex x => obtain ⟨Γ', h⟩ := h3; rw [h]; exact ⟨Γ', rfl⟩
        | st => trivial
      | false => rw [chE_f, if_neg Bool.false_ne_true]; rfl
    | ex x => obtain ⟨Γ', h⟩ := h2; rw [h]; exact ⟨Γ', rfl⟩
    | st => trivial
  | ex x => obtain ⟨Γ', h⟩ := h1; rw [h]; exact ⟨Γ', rfl⟩
  | st => trivial
theorem r_lt (a b : Int) : R0 (dLt (eI a) (eI b)) (.ok (decide (a < b))) (vs .z eB) := rfl
theorem r_le (a b : Int) : R0 (dLe (eI a) (eI b)) (.ok (decide (a ≤ b))) (vs .z eB) := rfl
theorem hl_0 : ∀ a, (E.ok [] : E (List α)) = .ok a → a.length = 0 := fun a h => by cases h; rfl
theorem hl_c {m : E α} {ms : E (List α)} {n : Nat} (h : ∀ a, ms = .ok a → a.length = n) : ∀ a, (m.bind fun x => ms.bind fun y => .ok (x :: y)) = .ok a → a.length = n + 1 := fun a q => by
  cases m with
  | ok x => cases ms with
    | ok y => cases q; rw [List.length_cons, h y rfl]
    | ex x => cases q
    | st => cases q
  | ex x => cases q
  | st => cases q
theorem isb_int_int : isB "int" "int" = true := by decide +kernel
theorem isb_int_bool : isB "int" "bool" = false := by decide +kernel
theorem isb_int_str : isB "int" "str" = false := by decide +kernel
theorem isb_int_list : isB "int" "list" = false := by decide +kernel
theorem isb_int_tuple : isB "int" "tuple" = false := by decide +kernel
theorem isb_int_dict : isB "int" "dict" = false := by decide +kernel
theorem isb_bool_int : isB "bool" "int" = true := by decide +kernel
theorem isb_bool_bool : isB "bool" "bool" = true := by decide +kernel
theorem isb_bool_str : isB "bool" "str" = false := by decide +kernel
theorem isb_bool_list : isB "bool" "list" = false := by decide +kernel
theorem isb_bool_tuple : isB "bool" "tuple" = false := by decide +kernel
theorem isb_bool_dict : isB "bool" "dict" = false := by decide +kernel
theorem isb_str_int : isB "str" "int" = false := by decide +kernel
theorem isb_str_bool : isB "str" "bool" = false := by decide +kernel
theorem isb_str_str : isB "str" "str" = true := by decide +kernel
theorem isb_str_list : isB "str" "list" = false := by decide +kernel
theorem isb_str_tuple : isB "str" "tuple" = false := by decide +kernel
theorem isb_str_dict : isB "str" "dict" = false := by decide +kernel
theorem isb_list_int : isB "list" "int" = false := by decide +kernel
theorem isb_list_bool : isB "list" "bool" = false := by decide +kernel
theorem isb_list_str : isB "list" "str" = false := by decide +kernel
theorem isb_list_list : isB "list" "list" = true := by decide +kernel
theorem isb_list_tuple : isB "list" "tuple" = false := by decide +kernel
theorem isb_list_dict : isB "list" "dict" = false := by decide +kernel
theorem isb_tuple_int : isB "tuple" "int" = false := by decide +kernel
theorem isb_tuple_bool : isB "tuple" "bool" = false := by decide +kernel
theorem isb_tuple_str : isB "tuple" "str" = false := by decide +kernel
theorem isb_tuple_list : isB "tuple" "list" = false := by decide +kernel
theorem isb_tuple_tuple : isB "tuple" "tuple" = true := by decide +kernel
theorem isb_tuple_dict : isB "tuple" "dict" = false := by decide +kernel
theorem isb_NoneType_int : isB "NoneType" "int" = false := by decide +kernel
theorem isb_NoneType_bool : isB "NoneType" "bool" = false := by decide +kernel
theorem isb_NoneType_str : isB "NoneType" "str" = false := by decide +kernel
theorem isb_NoneType_list : isB "NoneType" "list" = false := by decide +kernel
theorem isb_NoneType_tuple : isB "NoneType" "tuple" = false := by decide +kernel
theorem isb_NoneType_dict : isB "NoneType" "dict" = false := by decide +kernel
theorem isb_dict_int : isB "dict" "int" = false := by decide +kernel
theorem isb_dict_bool : isB "dict" "bool" = false := by decide +kernel
theorem isb_dict_str : isB "dict" "str" = false := by decide +kernel
theorem isb_dict_list : isB "dict" "list" = false := by decide +kernel
theorem isb_dict_tuple : isB "dict" "tuple" = false := by decide +kernel
theorem isb_dict_dict : isB "dict" "dict" = true := by decide +kernel
end
end TM
namespace TM
open PySem PV
section
variable {α β γ : Type} {e : α → D} {e1 : β → D}
theorem q_inDp [DecidableEq α] {n : Nat} (h : EqE n e) (hn : n + 1 ≤ 64) (x : α) (xs : List α) : dInX (e x) (eL e xs) = some (decide (x ∈ xs)) := by
  have h1 : SeqAt.shaped (e x) = true := shaped_of (h.lay x) (h.dep x) (by omega)
  have h2 : SeqAt.shaped (eL e xs) = true := shaped_of ((eq_L h).lay xs) ((eq_L h).dep xs) hn
  show (if _ then _ else _) = _
  rw [if_pos (by rw [h1]; exact h2)]
  refine congrArg some ?_
  rw [List.any_map]
  induction xs with
  | nil => simp
  | cons y ys ih =>
    rw [List.any_cons, ih (shaped_of ((eq_L h).lay ys) ((eq_L h).dep ys) hn)]
    show (PyData.eqv (e y) (e x) || _) = _
    rw [h.eqv]
    simp only [List.mem_cons, Bool.decide_or]
    congr 1
    exact decide_eq_decide.mpr eq_comm
theorem q_inD [DecidableEq α] {n : Nat} (h : EqE n e) (hn : n + 1 ≤ 64) (x : α) (xs : List α) : R0 (dInD (e x) (eL e xs)) (.ok (decide (x ∈ xs))) (vs .z eB) := by
  show b2 _ = _
  rw [q_inDp h hn]; rfl
theorem q_ninD [DecidableEq α] {n : Nat} (h : EqE n e) (hn : n + 1 ≤ 64) (x : α) (xs : List α) : R0 (dNinD (e x) (eL e xs)) (.ok (!decide (x ∈ xs))) (vs .z eB) := by
  show b2 (Option.map not _) = _
  rw [q_inDp h hn]; rfl
/-! methods of a receiver that stays -/
theorem j_bm0 {Γ Γ1 : Ev} {T : String} {op : D → List D → Option Va} {fr : Ev → Out D} {m : E α} {mo : α → E γ} {ez : γ → Va} (h : Si (fr Γ) m e Γ1) (hT : ∀ a, rcvT T (e a) = true) (ho : ∀ a, R0 (op (e a) []) (mo a) ez) : Si (fBM T op fr fsN Γ) (m.bind mo) ez Γ1 := by
  show Si ((fr Γ).bind _) _ _ _
  refine h.bind fun a _ => ?_
  rw [if_pos (hT a)]
  exact Si.of (ho a)
theorem j_bm1 {Γ Γ1 Γ2 : Ev} {T : String} {op : D → List D → Option Va} {fr f : Ev → Out D} {m : E α} {m1 : E β} {mo : α → β → E γ} {ez : γ → Va} (h : Si (fr Γ) m e Γ1) (h1 : Si (f Γ1) m1 e1 Γ2) (hT : ∀ a, rcvT T (e a) = true) (ho : ∀ a b, R0 (op (e a) [e1 b]) (mo a b) ez) : Si (fBM T op fr (fsC f fsN) Γ) (m.bind fun a => m1.bind fun b => mo a b) ez Γ2 := by
  show Si ((fr Γ).bind _) _ _ _
  refine h.bind fun a _ => ?_
  rw [if_pos (hT a)]
  refine Si.bind (f_1 h1) fun b _ => ?_
  exact Si.of (ho a b)
def idxE [DecidableEq α] (xs : List α) (x : α) : E Int := match xs.findIdx? (fun z => decide (z = x)) with | some j => .ok (j : Nat) | none => .st
theorem q_index [DecidableEq α] {n : Nat} (h : EqE n e) (hn : n + 1 ≤ 64) (xs : List α) (x : α) : R0 (dIndex (eL e xs) [e x]) (idxE xs x) (vs .z eI) := by
  have h1 : SeqAt.shaped (e x) = true := shaped_of (h.lay x) (h.dep x) (by omega)
  have h2 : SeqAt.shaped (eL e xs) = true := shaped_of ((eq_L h).lay xs) ((eq_L h).dep xs) hn
  show R0 (if _ then _ else _) _ _
  rw [if_pos (by rw [h1]; exact h2), List.findIdx?_map]
  have : ((fun z => PyData.eqv z (e x)) ∘ e) = fun z => decide (z = x) := by
    funext z
    exact h.eqv z x
  rw [this]
  unfold idxE
  cases xs.findIdx? (fun z => decide (z = x)) <;> first | rfl | trivial
end
end TM
namespace TM
open PySem PV
section
variable {α β γ δ : Type} {e : α → D} {e1 : β → D}
/-! dicts whose keys are tuples -/
def eDT (ek : α → D) (ev : β → D) : List (α × β) → D := fun kvs => .dict ((.bool true, .none) :: kvs.map fun p => (ek p.1, ev p.2))
structure KtE (e : α → D) (ky : α → List L2.Key) : Prop where
  key : ∀ a, tKey (e a) = some (ky a)
  inj : ∀ a b, ky a = ky b → a = b
  kd : ∀ a, kT (ky a) = e a
section
variable [DecidableEq α] {ky : α → List L2.Key} {ev : β → D}
theorem tl_ok (hk : KtE e ky) (x : α) : ∀ kvs : List (α × β), tLook (kvs.map fun p => (e p.1, ev p.2)) (ky x) = (lookD kvs x).map ev
  | [] => rfl
  | (k, v) :: r => by
    rw [List.map_cons]
    unfold tLook lookD
    rw [hk.key, tl_ok hk x r]
    by_cases c : k = x
    · subst c; rw [if_pos rfl, if_pos rfl]; rfl
    · rw [if_neg (fun z => c (hk.inj _ _ (Option.some.inj z))), if_neg c]
theorem tp_ok (hk : KtE e ky) (kvs : List (α × β)) (x : α) (v : β) : tPutL (kvs.map fun p => (e p.1, ev p.2)) (ky x) (ev v) = (putD kvs x v).map fun p => (e p.1, ev p.2) := by
  unfold tPutL putD tHas
  have h : (kvs.map fun p => (e p.1, ev p.2)).any (fun p => decide (tKey p.1 = some (ky x))) = kvs.any fun p => decide (p.1 = x) := by
    rw [List.any_map]
    congr 1
    funext p
    show decide (tKey (e p.1) = some (ky x)) = _
    rw [hk.key]
    exact decide_eq_decide.mpr ⟨fun z => hk.inj _ _ (Option.some.inj z), fun z => by rw [z]⟩
  rw [h]
  split
  · rw [List.map_map, List.map_map]
    refine List.map_congr_left fun p _ => ?_
    show (if tKey (e p.1) = some (ky x) then _ else _) = (e (if p.1 = x then (p.1, v) else p).1, ev (if p.1 = x then (p.1, v) else p).2)
    rw [hk.key]
    by_cases c : p.1 = x
    · rw [if_pos (by rw [c]), if_pos c]
    · rw [if_neg (fun z => c (hk.inj _ _ (Option.some.inj z))), if_neg c]
  · rw [List.map_append, hk.kd]; rfl
theorem tdic_d (kvs : List (α × β)) : tdic (some (some (.e .z, eDT e ev kvs))) = some (kvs.map fun p => (e p.1, ev p.2)) := rfl
theorem tdic_z (kvs : List (α × β)) : tdic (some (some (.z, eDT e ev kvs))) = some (kvs.map fun p => (e p.1, ev p.2)) := rfl
theorem j_tin {Γ Γ1 : Ev} {f : Ev → Out D} {m : E α} (hk : KtE e ky) (ev : β → D) (i : Nat) (kvs : List (α × β)) (h : Si (f Γ) m e Γ1) (h1 : tdic (Γ1[i]?) = some (kvs.map fun p => (e p.1, ev p.2))) : Si (fTIn false i f Γ) (m.bind fun k => .ok (lookD kvs k).isSome) eB Γ1 := by
  show Si ((f Γ).bind _) _ _ _
  refine h.bind fun k _ => ?_
  rw [h1, Option.bind_some, hk.key]
  show Si (.of (some (PyData.bool (if false = true then _ else _))) Γ1) _ _ _
  rw [if_neg Bool.false_ne_true, tl_ok hk]
  show Out.ok _ _ = _
  rw [Option.isSome_map]; rfl
theorem j_tnin {Γ Γ1 : Ev} {f : Ev → Out D} {m : E α} (hk : KtE e ky) (ev : β → D) (i : Nat) (kvs : List (α × β)) (h : Si (f Γ) m e Γ1) (h1 : tdic (Γ1[i]?) = some (kvs.map fun p => (e p.1, ev p.2))) : Si (fTIn true i f Γ) (m.bind fun k => .ok (!(lookD kvs k).isSome)) eB Γ1 := by
  show Si ((f Γ).bind _) _ _ _
  refine h.bind fun k _ => ?_
  rw [h1, Option.bind_some, hk.key]
  show Si (.of (some (PyData.bool (if true = true then _ else _))) Γ1) _ _ _
  rw [if_pos rfl, tl_ok hk]
  show Out.ok _ _ = _
  rw [Option.isSome_map]; rfl
theorem j_tat {Γ Γ1 : Ev} {f : Ev → Out D} {m : E α} (hk : KtE e ky) (ev : β → D) (i : Nat) (kvs : List (α × β)) (h0 : ∃ rs, tdic (Γ[i]?) = some rs) (h : Si (f Γ) m e Γ1) (h1 : tdic (Γ1[i]?) = some (kvs.map fun p => (e p.1, ev p.2))) : Si (fTAt i f Γ) (m.bind fun k => E.ofO (lookD kvs k)) ev Γ1 := by
  obtain ⟨rs, h0⟩ := h0
  show Si (tdicS (Γ[i]?) ((f Γ).bind _)) _ _ _
  unfold tdicS
  rw [h0]
  refine h.bind fun k _ => ?_
  rw [h1, Option.bind_some, hk.key, Option.bind_some, tl_ok hk]
  cases lookD kvs k <;> first | rfl | trivial
theorem j_tg1 {Γ Γ1 : Ev} {f : Ev → Out D} {m : E α} (hk : KtE e ky) (ev : β → D) (i : Nat) (kvs : List (α × β)) (h0 : ∃ rs, tdic (Γ[i]?) = some rs) (h : Si (f Γ) m e Γ1) (h1 : tdic (Γ1[i]?) = some (kvs.map fun p => (e p.1, ev p.2))) : Si (fTG1 i f Γ) (m.bind fun k => .ok (lookD kvs k)) (eO ev) Γ1 := by
  obtain ⟨rs, h0⟩ := h0
  show Si (tdicS (Γ[i]?) ((f Γ).bind _)) _ _ _
  unfold tdicS
  rw [h0]
  refine h.bind fun k _ => ?_
  rw [h1, Option.bind_some, hk.key]
  show Out.ok ((tLook _ _).getD .none) Γ1 = _
  rw [tl_ok hk]
  cases lookD kvs k <;> rfl
theorem j_tg2 {Γ Γ1 Γ2 : Ev} {f g : Ev → Out D} {m : E α} {mx : E β} (hk : KtE e ky) (ev : β → D) (i : Nat) (kvs : List (α × β)) (h0 : ∃ rs, tdic (Γ[i]?) = some rs) (h : Si (f Γ) m e Γ1) (hx : Si (g Γ1) mx ev Γ2) (h1 : tdic (Γ2[i]?) = some (kvs.map fun p => (e p.1, ev p.2))) : Si (fTG2 i f g Γ) (m.bind fun k => mx.bind fun x => .ok ((lookD kvs k).getD x)) ev Γ2 := by
  obtain ⟨rs, h0⟩ := h0
  show Si (tdicS (Γ[i]?) ((f Γ).bind _)) _ _ _
  unfold tdicS
  rw [h0]
  refine h.bind fun k _ => ?_
  refine hx.bind fun x _ => ?_
  rw [h1, Option.bind_some, hk.key]
  show Out.ok ((tLook _ _).getD _) Γ2 = _
  rw [tl_ok hk]
  cases lookD kvs k <;> rfl
theorem t_tput {Γ Γ1 Γ2 : Ev} {fv fk : Ev → Out D} {mx : E β} {m : E α} {τ : Type} {mk : List (α × β) → E τ} {R : τ → SO → Prop} {ss : List (Ev → SO)} (hk : KtE e ky) (ev : β → D) (i : Nat) (kvs : List (α × β)) (hv : Si (fv Γ) mx ev Γ1) (h0 : ∃ rs, Γ1[i]? = some (some (.e .z, .dict ((.bool true, .none) :: rs)))) (hi : Si (fk Γ1) m e Γ2) (h1 : Γ2[i]? = some (some (.e .z, eDT e ev kvs))) (hn : ∀ ys, Ti (run ss (Γ2.set i (some (.e .z, eDT e ev ys)))) (mk ys) R) : Ti (run (sTPutI i fv fk :: ss) Γ) (mx.bind fun x => m.bind fun k => (putDE kvs k x).bind mk) R := by
  show Ti ((sTPutI i fv fk Γ).then (run ss)) _ _
  obtain ⟨rs, h0⟩ := h0
  unfold sTPutI
  refine t_sB hv fun x => ?_
  rw [h0]
  show Ti ((tputS (some (some (.e .z, .dict ((.bool true, .none) :: rs)))) _).then _) _ _
  unfold tputS
  refine t_sB hi fun k => ?_
  rw [h1]
  show Ti ((tputE i (ev x) (some (some (.e .z, .dict ((.bool true, .none) :: kvs.map fun p => (e p.1, ev p.2))))) (e k) Γ2).then _) _ _
  unfold tputE putDE chk
  dsimp only
  rw [hk.key, List.length_map]
  dsimp only
  split
  · rw [tp_ok hk]; exact hn _
  · trivial
theorem j_vtct0 (ek : α → D) (ev : β → D) {Γ : Ev} : Si (vTct0 Γ) (.ok []) (vs (.e .z) (eDT ek ev)) Γ := rfl
end
end
end TM
namespace TM
open PySem PV
section
variable {α β γ δ κ : Type} {e : α → D} {e1 : β → D} {Γ Γ1 : Ev}
/-! keys that are tuples -/
structure KrE (er : α → List D) (ky : α → List L2.Key) : Prop where
  key : ∀ a, dKeys (er a) = some (ky a)
  inj : ∀ a b, ky a = ky b → a = b
  kd : ∀ a, (ky a).map kD = er a
theorem kr_1 {k : α → L2.Key} (h : KyE e k) : KrE (n1 e) (fun a => [k a]) :=
  ⟨fun a => by show ((dKey (e a)).bind fun k => (some []).map (k :: ·)) = _; rw [h.key]; rfl, fun a b q => h.inj a b (by injection q), fun a => by show [kD (k a)] = [e a]; rw [h.kd]⟩
theorem kr_c {k : α → L2.Key} {er : β → List D} {ks : β → List L2.Key} (h : KyE e k) (r : KrE er ks) : KrE (nc e er) (fun p => k p.1 :: ks p.2) :=
  ⟨fun a => by show ((dKey (e a.1)).bind fun k => (dKeys (er a.2)).map (k :: ·)) = _; rw [h.key, r.key]; rfl,
   fun a b q => by
    injection q with q1 q2
    exact Prod.ext (h.inj _ _ q1) (r.inj _ _ q2),
   fun a => by show kD (k a.1) :: (ks a.2).map kD = e a.1 :: er a.2; rw [h.kd, r.kd]⟩
theorem kt_P {er : α → List D} {ks : α → List L2.Key} (r : KrE er ks) : KtE (eP er) ks :=
  ⟨fun a => r.key a, r.inj, fun a => by show PyData.tuple ((ks a).map kD) = .tuple (er a); rw [r.kd]⟩
/-! tuples that the module has written -/
def eKT (e : α → D) : List α → D := fun xs => .dict [(.none, .tuple (xs.map e))]
theorem i_kt {f : Ev → Out D} {m' : E (List α)} (h : Si (f Γ) m' (eKT e) Γ1) : Si (iLT f Γ) m' (List.map e) Γ1 := by
  rw [iLT_ap]
  cases m' with
  | ok a => rw [show f Γ = _ from h]; rfl
  | ex x => obtain ⟨Γ', h⟩ := h; rw [h]; exact ⟨Γ', rfl⟩
  | st => trivial
theorem q_ixKT (xs : List α) (i : Int) : R0 (dAt (eKT e xs) (eI i)) (ixE xs i) (vs .z e) := q_ixT xs i
theorem dInB_kt (x : D) (ds : List D) : dInB x (.dict [(.none, .tuple ds)]) = dInB x (.tuple ds) := by
  cases x <;> rfl
theorem q_inKT [DecidableEq α] (hf : ∀ a, dFlat (e a) = true) (he : ∀ a b, PyData.eqv (e a) (e b) = decide (a = b)) (x : α) (xs : List α) : R0 (dIn (e x) (eKT e xs)) (.ok (decide (x ∈ xs))) (vs .z eB) := by
  show b2 _ = _
  rw [show eKT e xs = .dict [(.none, .tuple (xs.map e))] from rfl, dInB_kt, (q_inG hf he x xs).2]; rfl
theorem q_ninKT [DecidableEq α] (hf : ∀ a, dFlat (e a) = true) (he : ∀ a b, PyData.eqv (e a) (e b) = decide (a = b)) (x : α) (xs : List α) : R0 (dNin (e x) (eKT e xs)) (.ok (!decide (x ∈ xs))) (vs .z eB) := by
  show b2 (Option.map not _) = _
  rw [show eKT e xs = .dict [(.none, .tuple (xs.map e))] from rfl, dInB_kt, (q_inG hf he x xs).2]; rfl
theorem j_yes {Γ : Ev} : Si (bYes Γ) (.ok true) id Γ := rfl
/-- membership, one instance for all -/
def memB [DecidableEq α] (x : α) (xs : List α) : Bool := decide (x ∈ xs)
theorem q_inM [DecidableEq α] {n : Nat} (h : EqE n e) (hn : n + 1 ≤ 64) (x : α) (xs : List α) : R0 (dInD (e x) (eL e xs)) (.ok (memB x xs)) (vs .z eB) := q_inD h hn x xs
theorem q_ninM [DecidableEq α] {n : Nat} (h : EqE n e) (hn : n + 1 ≤ 64) (x : α) (xs : List α) : R0 (dNinD (e x) (eL e xs)) (.ok (!memB x xs)) (vs .z eB) := q_ninD h hn x xs
/-! comprehensions with two clauses -/
def comp2G (c : α → E Bool) (m1 : α → E (List β)) (c1 : α → β → E Bool) (g : α → β → E γ) : List α → E (List γ)
  | [] => .ok []
  | x :: xs => match c x with
    | .ok true => (match m1 x with
      | .ok ys => (match compG (c1 x) (g x) ys with | .ok zs => (comp2G c m1 c1 g xs).bind fun ws => .ok (zs ++ ws) | _ => .st)
      | _ => .st)
    | .ok false => comp2G c m1 c1 g xs
    | _ => .st
@[irreducible] def comp2E (c : α → E Bool) (m1 : α → E (List β)) (c1 : α → β → E Bool) (g : α → β → E γ) (xs : List α) : E (List γ) := match comp2G c m1 c1 g xs with | .ok zs => if zs.length ≤ 16777216 then .ok zs else .st | _ => .st
theorem comp2E_ok {c : α → E Bool} {m1 : α → E (List β)} {c1 : α → β → E Bool} {g : α → β → E γ} {xs : List α} {zs : List γ} (h : comp2G c m1 c1 g xs = .ok zs) (hz : zs.length ≤ 16777216) : comp2E c m1 c1 g xs = .ok zs := by
  unfold comp2E
  rw [h]
  dsimp only
  rw [if_pos hz]
section
variable {is is1 : List Nat} {ff f1 : Ev → Out (List D)} {t t1 : D → Ev → Option Ev} {c c1 : Ev → Out Bool} {fe : Ev → Out D} {mi : E (List α)} {ex : α → D} {ey : β → D} {ez : γ → D} {mc : α → E Bool} {m1 : α → E (List β)} {mc1 : α → β → E Bool} {mg : α → β → E γ}
theorem compL2_ok {Γ0 : Ev}
    (hb : ∀ x, ∃ Γx Γy Γi, t (ex x) Γ0 = some Γx ∧ Si (c Γx) (mc x) id Γy ∧ Si (f1 Γy) (m1 x) (List.map ey) Γi ∧
      (∀ y, ∃ Γa Γb Γc, t1 (ey y) (wipeG Γi is1) = some Γa ∧ Si (c1 Γa) (mc1 x y) id Γb ∧ Si (fe Γb) (mg x y) ez Γc ∧ wipeG Γb is1 = wipeG Γi is1 ∧ wipeG Γc is1 = wipeG Γi is1) ∧ wipeG Γy is = Γ0 ∧ wipeG (wipeG Γi is1) is = Γ0) :
    ∀ xs zs, comp2G mc m1 mc1 mg xs = .ok zs → compL2 is t c f1 is1 t1 c1 fe (xs.map ex) Γ0 = some (zs.map ez, Γ0)
  | [], zs, h => by cases h; rfl
  | x :: xs, zs, h => by
    obtain ⟨Γx, Γy, Γi, h1, h2, h3, h4, h5, h6⟩ := hb x
    rw [List.map_cons]
    unfold compL2
    rw [h1]
    dsimp only
    unfold comp2G at h
    cases hc : mc x with
    | ok b =>
      rw [hc] at h h2
      rw [show c Γx = .ok b Γy from h2]
      cases b with
      | true =>
        dsimp only at h ⊢
        cases hm : m1 x with
        | ok ys =>
          rw [hm] at h h3
          rw [show f1 Γy = .ok (ys.map ey) Γi from h3]
          dsimp only at h ⊢
          cases hg : compG (mc1 x) (mg x) ys with
          | ok ws =>
            rw [hg] at h
            rw [compL_ok h4 ys ws hg]
            dsimp only at h ⊢
            cases hr : comp2G mc m1 mc1 mg xs with
            | ok vs =>
              rw [hr] at h
              cases h
              rw [h6, compL2_ok hb xs vs hr]
              show some (_, _) = some (_, _)
              rw [List.map_append]
            | ex e => rw [hr] at h; cases h
            | st => rw [hr] at h; cases h
          | ex e => rw [hg] at h; cases h
          | st => rw [hg] at h; cases h
        | ex e => rw [hm] at h; cases h
        | st => rw [hm] at h; cases h
      | false =>
        dsimp only at h ⊢
        rw [h5]
        exact compL2_ok hb xs zs h
    | ex e => rw [hc] at h; cases h
    | st => rw [hc] at h; cases h
theorem comp2G_nex : ∀ xs x, comp2G mc m1 mc1 mg xs ≠ .ex x
  | [], x => fun h => by cases h
  | y :: ys, x => by
    unfold comp2G
    split
    · split
      · split
        · cases h : comp2G mc m1 mc1 mg ys with
          | ok a => exact fun z => by cases z
          | ex e => exact absurd h (comp2G_nex ys e)
          | st => exact fun z => by cases z
        · exact fun z => by cases z
      · exact fun z => by cases z
    · exact comp2G_nex ys x
    · exact fun z => by cases z
theorem j_comp2 (hi : Si (ff Γ) mi (List.map ex) Γ1)
    (hb : ∀ x, ∃ Γx Γy Γi, t (ex x) (wipeG Γ1 is) = some Γx ∧ Si (c Γx) (mc x) id Γy ∧ Si (f1 Γy) (m1 x) (List.map ey) Γi ∧
      (∀ y, ∃ Γa Γb Γc, t1 (ey y) (wipeG Γi is1) = some Γa ∧ Si (c1 Γa) (mc1 x y) id Γb ∧ Si (fe Γb) (mg x y) ez Γc ∧ wipeG Γb is1 = wipeG Γi is1 ∧ wipeG Γc is1 = wipeG Γi is1) ∧ wipeG Γy is = wipeG Γ1 is ∧ wipeG (wipeG Γi is1) is = wipeG Γ1 is) (hr : restG Γ1 (wipeG Γ1 is) is = Γ1) :
    Si (vComp2 is ff t c f1 is1 t1 c1 fe Γ) (mi.bind fun xs => comp2E mc m1 mc1 mg xs) (vs (.l .z) (eL ez)) Γ1 := by
  show Si ((ff Γ).bind _) _ _ _
  refine hi.bind fun xs _ => ?_
  unfold comp2E
  cases h : comp2G mc m1 mc1 mg xs with
  | ok zs =>
    rw [compL2_ok hb xs zs h]
    dsimp only
    rw [List.length_map]
    split
    · rw [hr]; rfl
    · trivial
  | ex e => exact absurd h (comp2G_nex _ _)
  | st => trivial
end
/-! dict comprehensions -/
def dcE [DecidableEq κ] (c : α → E Bool) (g : α → E (κ × β)) (xs : List α) : E (List (κ × β)) := (compE c g xs).bind fun ps => .ok (ps.foldl (fun r p => putD r p.1 p.2) [])
section
variable [DecidableEq κ] {ek : κ → D} {ev : β → D} {is : List Nat} {ff : Ev → Out (List D)} {t : D → Ev → Option Ev} {c : Ev → Out Bool} {fk fv : Ev → Out D} {mi : E (List α)} {ex : α → D} {mc : α → E Bool} {mg : α → E (κ × β)}
theorem putAll_t {ky : κ → List L2.Key} (hk : KtE ek ky) : ∀ (ps rs : List (κ × β)), putAll true (ps.map (eP (nc ek (n1 ev)))) (rs.map fun p => (ek p.1, ev p.2)) = some ((ps.foldl (fun r p => putD r p.1 p.2) rs).map fun p => (ek p.1, ev p.2))
  | [], rs => rfl
  | p :: ps, rs => by
    show ((tKey (ek p.1)).map fun y => tPutL (rs.map fun p => (ek p.1, ev p.2)) y (ev p.2)).bind _ = _
    rw [hk.key, Option.map_some, Option.bind_some, tp_ok hk]
    exact putAll_t hk ps _
theorem putAll_k {ky : κ → L2.Key} (hk : KyE ek ky) : ∀ (ps rs : List (κ × β)), putAll false (ps.map (eP (nc ek (n1 ev)))) (rs.map fun p => (ek p.1, ev p.2)) = some ((ps.foldl (fun r p => putD r p.1 p.2) rs).map fun p => (ek p.1, ev p.2))
  | [], rs => rfl
  | p :: ps, rs => by
    show ((dKey (ek p.1)).map fun y => dPutL (rs.map fun p => (ek p.1, ev p.2)) y (ev p.2)).bind _ = _
    rw [hk.key, Option.map_some, Option.bind_some, dp_ok hk]
    exact putAll_k hk ps _
theorem j_dcG (b : Bool) {en : List (κ × β) → D} (hi : Si (ff Γ) mi (List.map ex) Γ1)
    (hp : ∀ ps : List (κ × β), ∃ rs, putAll b (ps.map (eP (nc ek (n1 ev)))) [] = some rs ∧ flD b rs = en (ps.foldl (fun r p => putD r p.1 p.2) []))
    (hb : ∀ x, ∃ Γx Γy Γz, t (ex x) (wipeG Γ1 is) = some Γx ∧ Si (c Γx) (mc x) id Γy ∧ Si (fTup (fsC fk (fsC fv fsN)) Γy) (mg x) (eP (nc ek (n1 ev))) Γz ∧ wipeG Γy is = wipeG Γ1 is ∧ wipeG Γz is = wipeG Γ1 is) (hr : restG Γ1 (wipeG Γ1 is) is = Γ1) :
    Si (vDc b is ff t c fk fv Γ) (mi.bind fun xs => dcE mc mg xs) (vs (flSh b) en) Γ1 := by
  show Si ((ff Γ).bind _) _ _ _
  refine hi.bind fun xs _ => ?_
  unfold dcE compE
  rw [List.length_map]
  split
  · cases h : compG mc mg xs with
    | ok ys =>
      rw [compL_ok hb xs ys h]
      obtain ⟨rs, e1, e2⟩ := hp ys
      dsimp only
      rw [e1]
      dsimp only
      rw [hr, e2]
      rfl
    | ex e => exact absurd h (compG_nex _ _ _ _)
    | st => trivial
  · trivial
theorem j_dcT {ky : κ → List L2.Key} (hk : KtE ek ky) (hi : Si (ff Γ) mi (List.map ex) Γ1)
    (hb : ∀ x, ∃ Γx Γy Γz, t (ex x) (wipeG Γ1 is) = some Γx ∧ Si (c Γx) (mc x) id Γy ∧ Si (fTup (fsC fk (fsC fv fsN)) Γy) (mg x) (eP (nc ek (n1 ev))) Γz ∧ wipeG Γy is = wipeG Γ1 is ∧ wipeG Γz is = wipeG Γ1 is) (hr : restG Γ1 (wipeG Γ1 is) is = Γ1) :
    Si (vDc true is ff t c fk fv Γ) (mi.bind fun xs => dcE mc mg xs) (vs (.e .z) (eDT ek ev)) Γ1 :=
  j_dcG true hi (fun ps => ⟨_, putAll_t hk ps [], rfl⟩) hb hr
theorem j_dcK {ky : κ → L2.Key} (hk : KyE ek ky) (hi : Si (ff Γ) mi (List.map ex) Γ1)
    (hb : ∀ x, ∃ Γx Γy Γz, t (ex x) (wipeG Γ1 is) = some Γx ∧ Si (c Γx) (mc x) id Γy ∧ Si (fTup (fsC fk (fsC fv fsN)) Γy) (mg x) (eP (nc ek (n1 ev))) Γz ∧ wipeG Γy is = wipeG Γ1 is ∧ wipeG Γz is = wipeG Γ1 is) (hr : restG Γ1 (wipeG Γ1 is) is = Γ1) :
    Si (vDc false is ff t c fk fv Γ) (mi.bind fun xs => dcE mc mg xs) (vs (.d .z) (eD ek ev)) Γ1 :=
  j_dcG false hi (fun ps => ⟨_, putAll_k hk ps [], rfl⟩) hb hr
end
/-! a try whose handler goes on -/
def tryJ {σ : Type} (t : Str → Option Bool) (r : E α) (s0 : σ) (h : Exc → E σ) : E σ := match r with
  | .ok _ => .ok s0
  | .ex x => (match t x.c with | some true => if x.fs.isEmpty = true then (h x).nex else .st | some false => .ex x | none => .st)
  | .st => .st
theorem t_tryJ {σ τ : Type} {R : τ → SO → Prop} {ss : List (Ev → SO)} {t : Str → Option Bool} {i n : Nat} {F : List D → Res} {fs : Ev → Out (List D)} {hs : Addr → Exc → Ev → SO} {ms : E β} {es : β → List D} {M : β → E γ} {ez : γ → Va} {mk : σ → E τ} {mh : Exc → E σ} (G : σ → Ev) (s0 : σ)
    (hfs : Si (fs (G s0)) ms es (G s0)) (hF : ∀ a, Sd (F (es a)) (M a) ez) (hl : ∀ a, (es a).length = n)
    (hh : ∀ x, Ti (run [hs 0 x] ((G s0).set i (some (.z, rawD 0)))) (mh x) (fun s r => ∃ Γ', r = .nx Γ' ∧ Γ'.set i none = G s)) (hk : ∀ s, Ti (run ss (G s)) (mk s) R) :
    Ti (run (sTryA t i (sExp (fV (fCall n F fs))) hs :: ss) (G s0)) ((ms.nex.bind fun a => tryJ t (M a) s0 mh).bind mk) R := by
  have hn : ∀ r : SO, r.then (run []) = r := fun r => by cases r <;> rfl
  show Ti ((sTryA _ _ _ _ (G s0)).then (run ss)) _ _
  unfold sTryA
  cases ms with
  | ok a =>
    rw [nex_ok, ok_bind, sExp_ap, fV_ap, fCall_ap, show fs (G s0) = .ok (es a) (G s0) from hfs, bind_ok, if_pos (hl a)]
    have h := (hF a).run
    unfold tryJ
    cases hM : M a with
    | ok z => rw [hM] at h; rw [show F (es a) = .ok (ez z) from h]; exact hk s0
    | ex x =>
      rw [hM] at h
      rw [show F (es a) = .ex x from h]
      show Ti ((tryA t i hs (.ex x (G s0))).then _) _ _
      unfold tryA
      dsimp only
      cases ht : t x.c with
      | none => trivial
      | some b => cases b with
        | false => exact ⟨G s0, rfl⟩
        | true =>
          dsimp only
          cases hx : x.fs.isEmpty with
          | true =>
            have q := hh x
            change Ti ((hs 0 x ((G s0).set i (some (.z, rawD 0)))).then (run [])) _ _ at q
            rw [hn] at q
            simp only [if_true]
            cases hm : mh x with
            | ok s =>
              rw [hm] at q
              obtain ⟨Γ', e1, e2⟩ := q
              rw [e1, sClr_nx, e2]
              exact hk s
            | ex e => trivial
            | st => trivial
          | false => trivial
    | st => trivial
  | ex x => trivial
  | st => trivial
end
end TM
namespace TM
open PySem PV
section
variable {α β γ σ τ : Type} {e : α → D} {e1 : β → D} {R : τ → SO → Prop} {ss : List (Ev → SO)} {Γ Γ1 Γ2 Γ3 : Ev} {m : E α} {mt : E τ}
/-! ### slots frozen in part -/
def wkS (i : Nat) (s' : Sh) : Ev → SO := fun Γ => match wkG i s' Γ with | some Γ2 => .nx Γ2 | none => .st
theorem t_wkL {i : Nat} {s' : Sh} {a : Ev → SO} (h : Ti (run (a :: wkS i s' :: ss) Γ) mt R) : Ti (run (sWk i s' a :: ss) Γ) mt R := by
  have e : run (sWk i s' a :: ss) Γ = run (a :: wkS i s' :: ss) Γ := by
    show (sWk i s' a Γ).then (run ss) = (a Γ).then fun Γ1 => (wkS i s' Γ1).then (run ss)
    unfold sWk wkS
    cases a Γ <;> rfl
  rw [e]; exact h
theorem t_wk0L {i : Nat} {s' : Sh} {a : Ev → SO} (h : Ti (run (wkS i s' :: a :: ss) Γ) mt R) : Ti (run (sWk0 i s' a :: ss) Γ) mt R := by
  have e : run (sWk0 i s' a :: ss) Γ = run (wkS i s' :: a :: ss) Γ := by
    show (sWk0 i s' a Γ).then (run ss) = (wkS i s' Γ).then fun Γ1 => (a Γ1).then (run ss)
    unfold sWk0 wkS
    cases wkG i s' Γ <;> rfl
  rw [e]; exact h
theorem t_wkS (i : Nat) (s' s : Sh) (d : D) (h : Γ[i]? = some (some (s, d))) (hw : weakB s s' = true) (hk : Ti (run ss (Γ.set i (some (s', d)))) mt R) : Ti (run (wkS i s' :: ss) Γ) mt R := by
  show Ti ((wkS i s' Γ).then (run ss)) _ _
  unfold wkS wkG
  rw [h]
  dsimp only
  rw [if_pos hw]
  exact hk
theorem t_wkN (i : Nat) (s' : Sh) (h : Γ[i]? = some none) (hk : Ti (run ss Γ) mt R) : Ti (run (wkS i s' :: ss) Γ) mt R := by
  show Ti ((wkS i s' Γ).then (run ss)) _ _
  unfold wkS wkG
  rw [h]
  exact hk
/-! ### shapes of values -/
theorem j_as (s : Sh) {s0 : Sh} {u : Ev → Out Va} (h : Si (u Γ) m (vs s0 e) Γ1) (hi : ∀ a, asItem s (s0, e a) = some (e a)) : Si (vAs s u Γ) m (vs s e) Γ1 := by
  cases m with
  | ok a =>
    show (u Γ).bind _ = _
    rw [show u Γ = .ok (s0, e a) Γ1 from h]
    show Out.of ((asItem s (s0, e a)).map _) Γ1 = _
    rw [hi]
    rfl
  | ex x => obtain ⟨Γ', h⟩ := h; exact ⟨Γ', by show (u Γ).bind _ = _; rw [h]; rfl⟩
  | st => trivial
theorem j_asN (s : Sh) (en : Option α → D) (h : Si (fC .none Γ) (.ok none) en Γ) : Si (vAs (.n s) (vF (fC .none)) Γ) (.ok none) (vs (.n s) en) Γ := by
  have q : Out.ok PyData.none Γ = Out.ok (en none) Γ := h
  have q : PyData.none = en none := by
    injection q
  show (vF (fC .none) Γ).bind _ = _
  show Out.of ((asItem (.n s) (.z, .none)).map _) Γ = _
  unfold asItem
  rw [if_neg (by intro z; cases z)]
  dsimp only
  by_cases hz : Sh.z = s
  · rw [if_pos hz]; show Out.ok (Sh.n s, PyData.none) Γ = _; rw [q]; rfl
  · rw [if_neg hz, if_pos ⟨rfl, rfl⟩]; show Out.ok (Sh.n s, PyData.none) Γ = _; rw [q]; rfl
theorem j_wk (s' : Sh) {s : Sh} {u : Ev → Out Va} (h : Si (u Γ) m (vs s e) Γ1) (hw : weakB s s' = true) : Si (vWk s' u Γ) m (vs s' e) Γ1 := by
  cases m with
  | ok a =>
    show (u Γ).bind _ = _
    rw [show u Γ = .ok (s, e a) Γ1 from h]
    show Out.of (if weakB s s' = true then _ else _) Γ1 = _
    rw [if_pos hw]
    rfl
  | ex x => obtain ⟨Γ', h⟩ := h; exact ⟨Γ', by show (u Γ).bind _ = _; rw [h]; rfl⟩
  | st => trivial
/-- values in a row, one shape -/
def Sw (r : Out (List Va)) (m : E (List α)) (s : Sh) (e : α → D) (Γ' : Ev) : Prop := match m with
  | .ok as => ∃ xs, r = .ok xs Γ' ∧ asItems s xs = some (as.map e)
  | .ex x => ∃ Γ, r = .ex x Γ
  | .st => True
theorem w_l0 (s : Sh) (e : α → D) : Sw (vsN Γ) (.ok []) s e Γ := ⟨[], rfl, rfl⟩
theorem w_lc {s s0 : Sh} {u : Ev → Out Va} {fs : Ev → Out (List Va)} {ms : E (List α)} (h : Si (u Γ) m (vs s0 e) Γ1) (hi : ∀ a, asItem s (s0, e a) = some (e a)) (hs : Sw (fs Γ1) ms s e Γ2) : Sw (vsC u fs Γ) (m.bind fun a => ms.bind fun b => .ok (a :: b)) s e Γ2 := by
  cases m with
  | ok a =>
    have h : u Γ = .ok (s0, e a) Γ1 := h
    cases ms with
    | ok as =>
      obtain ⟨xs, h2, h3⟩ := hs
      refine ⟨(s0, e a) :: xs, by show (u Γ).bind _ = _; rw [h]; show (fs Γ1).bind _ = _; rw [h2]; rfl, ?_⟩
      show (asItem s (s0, e a)).bind _ = _
      rw [hi]
      show (asItems s xs).map _ = _
      rw [h3]
      rfl
    | ex x => obtain ⟨Γ', h2⟩ := hs; exact ⟨Γ', by show (u Γ).bind _ = _; rw [h]; show (fs Γ1).bind _ = _; rw [h2]; rfl⟩
    | st => trivial
  | ex x => obtain ⟨Γ', h⟩ := h; exact ⟨Γ', by show (u Γ).bind _ = _; rw [h]; rfl⟩
  | st => trivial
theorem j_lstV {fs : Ev → Out (List Va)} {ms : E (List α)} (s : Sh) (n : Nat) (hs : Sw (fs Γ) ms s e Γ1) (hn : n ≤ 16777216) (hl : ∀ a, ms = .ok a → a.length = n) : Si (vLstV s fs Γ) ms (vs (.l s) (eL e)) Γ1 := by
  cases ms with
  | ok as =>
    obtain ⟨xs, h1, h2⟩ := hs
    show (fs Γ).bind _ = _
    rw [h1]
    show (match asItems s xs with | some ds => _ | none => _) = _
    rw [h2]
    dsimp only
    rw [if_pos (by rw [List.length_map, hl as rfl]; exact hn)]
    rfl
  | ex x => obtain ⟨Γ', h⟩ := hs; exact ⟨Γ', by show (fs Γ).bind _ = _; rw [h]; rfl⟩
  | st => trivial
theorem w_1 {s : Sh} {u : Ev → Out Va} (h : Si (u Γ) m (vs s e) Γ1) : Si (vsC u vsN Γ) m (fun a => [(s, e a)]) Γ1 := by
  cases m with
  | ok a => show (u Γ).bind _ = _; rw [show u Γ = .ok (s, e a) Γ1 from h]; rfl
  | ex x => obtain ⟨Γ', h⟩ := h; exact ⟨Γ', by show (u Γ).bind _ = _; rw [h]; rfl⟩
  | st => trivial
theorem w_c {s : Sh} {u : Ev → Out Va} {fs : Ev → Out (List Va)} {es : β → List Va} {ms : E β} (h : Si (u Γ) m (vs s e) Γ1) (hs : Si (fs Γ1) ms es Γ2) : Si (vsC u fs Γ) (m.bind fun a => ms.bind fun b => .ok (a, b)) (fun p => (s, e p.1) :: es p.2) Γ2 := by
  cases m with
  | ok a =>
    show Si ((u Γ).bind _) (ms.bind _) _ _
    rw [show u Γ = .ok (s, e a) Γ1 from h]
    exact hs.bind fun b _ => rfl
  | ex x => obtain ⟨Γ', h⟩ := h; exact ⟨Γ', by show (u Γ).bind _ = _; rw [h]; rfl⟩
  | st => trivial
theorem j_tupV {fs : Ev → Out (List Va)} {ms : E β} {es : β → List Va} {es' : β → List D} (r : Sh) (n : Nat) (hs : Si (fs Γ) ms es Γ1) (hn : n ≤ 16777216) (hl : ∀ a, (es a).length = n) (hr : ∀ a, compsh (es a) = r) (hd : ∀ a, (es a).map (·.2) = es' a) : Si (vTupV fs Γ) ms (vs (.t r) (eP es')) Γ1 := by
  cases ms with
  | ok a =>
    show (fs Γ).bind _ = _
    rw [show fs Γ = .ok (es a) Γ1 from hs]
    show (if (es a).length ≤ 16777216 then _ else _) = _
    rw [if_pos (by rw [hl]; exact hn), hr, hd]
    rfl
  | ex x => obtain ⟨Γ', h⟩ := hs; exact ⟨Γ', by show (fs Γ).bind _ = _; rw [h]; rfl⟩
  | st => trivial
theorem compLV_ok {s sx : Sh} {is : List Nat} {t : D → Ev → Option Ev} {c : Ev → Out Bool} {fe : Ev → Out Va} {Γ0 : Ev} {ex : α → D} {ey : β → D} {mc : α → E Bool} {mg : α → E β} (hi : ∀ a, asItem s (sx, ey a) = some (ey a))
    (hb : ∀ x, ∃ Γx Γy Γz, t (ex x) Γ0 = some Γx ∧ Si (c Γx) (mc x) id Γy ∧ Si (fe Γy) (mg x) (vs sx ey) Γz ∧ wipeG Γy is = Γ0 ∧ wipeG Γz is = Γ0) : ∀ xs ys, compG mc mg xs = .ok ys → compLV s is t c fe (xs.map ex) Γ0 = some (ys.map ey, Γ0)
  | [], ys, h => by cases h; rfl
  | x :: xs, ys, h => by
    obtain ⟨Γx, Γy, Γz, h1, h2, h3, h4, h5⟩ := hb x
    rw [List.map_cons]
    unfold compLV
    rw [h1]
    dsimp only
    unfold compG at h
    cases hc : mc x with
    | ok b =>
      rw [hc] at h h2
      rw [show c Γx = .ok b Γy from h2]
      cases b with
      | true =>
        dsimp only at h ⊢
        cases hg : mg x with
        | ok y =>
          rw [hg] at h h3
          rw [show fe Γy = .ok (sx, ey y) Γz from h3]
          dsimp only at h ⊢
          rw [hi]
          dsimp only
          cases hr : compG mc mg xs with
          | ok zs =>
            rw [hr] at h
            cases h
            rw [h5, compLV_ok hi hb xs zs hr]
            rfl
          | ex e => rw [hr] at h; cases h
          | st => rw [hr] at h; cases h
        | ex e => rw [hg] at h; cases h
        | st => rw [hg] at h; cases h
      | false =>
        dsimp only at h ⊢
        rw [h4]
        exact compLV_ok hi hb xs ys h
    | ex e => rw [hc] at h; cases h
    | st => rw [hc] at h; cases h
theorem j_compG {s sx : Sh} {is : List Nat} {ff : Ev → Out (List D)} {t : D → Ev → Option Ev} {c : Ev → Out Bool} {fe : Ev → Out Va} {mi : E (List α)} {ex : α → D} {ey : β → D} {mc : α → E Bool} {mg : α → E β} (hi : Si (ff Γ) mi (List.map ex) Γ1)
    (hb : ∀ x, ∃ Γx Γy Γz, t (ex x) (wipeG Γ1 is) = some Γx ∧ Si (c Γx) (mc x) id Γy ∧ Si (fe Γy) (mg x) (vs sx ey) Γz ∧ wipeG Γy is = wipeG Γ1 is ∧ wipeG Γz is = wipeG Γ1 is) (hx : ∀ a, asItem s (sx, ey a) = some (ey a)) (hr : restG Γ1 (wipeG Γ1 is) is = Γ1) :
    Si (vCompG s is ff t c fe Γ) (mi.bind fun xs => compE mc mg xs) (vs (.l s) (eL ey)) Γ1 := by
  show Si ((ff Γ).bind _) _ _ _
  refine hi.bind fun xs _ => ?_
  unfold compE
  rw [List.length_map]
  split
  · cases h : compG mc mg xs with
    | ok ys =>
      rw [compLV_ok hx hb xs ys h]
      dsimp only
      rw [hr]
      rfl
    | ex e => exact absurd h (compG_nex _ _ _ _)
    | st => trivial
  · trivial
/-! ### places -/
def Lm (r : Out (Va × (D → Va))) (m : E (α × (α → γ))) (s : Sh) (e : α → D) (S : Sh) (eS : γ → D) (Γ' : Ev) : Prop := match m with
  | .ok l => ∃ rb, r = .ok ((s, e l.1), rb) Γ' ∧ ∀ a, rb (e a) = (S, eS (l.2 a))
  | .ex x => ∃ Γ, r = .ex x Γ
  | .st => True
theorem l_0 (i : Nat) (s : Sh) (e : α → D) (a : α) (h : Γ[i]? = some (some (s, e a))) : Lm (pl0 i Γ) (.ok (a, id)) s e s e (Γ.set i none) :=
  ⟨_, by unfold pl0; rw [h], fun _ => rfl⟩
def lens (xs : List α) (j : Int) : E (α × (α → List α)) := match L2.ixN xs.length j with
  | some k => (match xs[k]? with | some a => .ok (a, fun b => xs.set k b) | none => .st)
  | none => .st
def lensO (xs : List (Option α)) (j : Int) : E (α × (α → List (Option α))) := match L2.ixN xs.length j with
  | some k => (match xs[k]? with | some (some a) => .ok (a, fun b => xs.set k (some b)) | _ => .st)
  | none => .st
theorem l_1 {fi : Ev → Out D} {mi : E Int} (i : Nat) (e : α → D) (s : Sh) (xs : List α) (h0 : ∃ x, Γ[i]? = some (some x)) (hi : Si (fi Γ) mi eI Γ1) (h1 : Γ1[i]? = some (some (.l (.n s), eL e xs))) (hf : ∀ a, flatD (e a) = false) (hs : stru s = true) :
    Lm (pl1 i fi Γ) (mi.bind (lens xs)) s e (.l (.n s)) (eL e) (Γ1.set i none) := by
  obtain ⟨x0, h0⟩ := h0
  cases mi with
  | ok j =>
    rw [ok_bind]
    unfold lens
    cases hk : L2.ixN xs.length j with
    | none => trivial
    | some k =>
      dsimp only
      cases ha : xs[k]? with
      | none => trivial
      | some a =>
        refine ⟨fun d => putAt (.l (.n s), eL e xs) k d, ?_, fun b => ?_⟩
        · unfold pl1
          rw [h0]
          dsimp only
          rw [show fi Γ = .ok (.int j) Γ1 from hi]
          dsimp only [Out.bind]
          rw [h1]
          dsimp only
          have : idx (.l (.n s), eL e xs) (.int j) = some (k, (s, e a)) := by
            show (if stru s = true then _ else _) = _
            rw [if_pos hs, List.length_map, hk]
            show ((xs.map e)[k]?).bind _ = _
            rw [List.getElem?_map, ha]
            show (if flatD (e a) = true then _ else _) = _
            rw [hf]
            rfl
          rw [this]
        · show (Sh.l (.n s), PyData.list ((xs.map e).set k (e b))) = _
          rw [← List.map_set]
          rfl
  | ex x =>
    obtain ⟨Γ', h⟩ := hi
    exact ⟨Γ', by unfold pl1; rw [h0]; dsimp only; rw [h]; rfl⟩
  | st => trivial
theorem l_1O {fi : Ev → Out D} {mi : E Int} (i : Nat) (e : α → D) (s : Sh) (xs : List (Option α)) (h0 : ∃ x, Γ[i]? = some (some x)) (hi : Si (fi Γ) mi eI Γ1) (h1 : Γ1[i]? = some (some (.l (.n s), eL (eO e) xs))) (hf : ∀ a, flatD (e a) = false) (hs : stru s = true) :
    Lm (pl1 i fi Γ) (mi.bind (lensO xs)) s e (.l (.n s)) (eL (eO e)) (Γ1.set i none) := by
  obtain ⟨x0, h0⟩ := h0
  cases mi with
  | ok j =>
    rw [ok_bind]
    unfold lensO
    cases hk : L2.ixN xs.length j with
    | none => trivial
    | some k =>
      dsimp only
      cases ha : xs[k]? with
      | none => trivial
      | some o =>
        cases o with
        | none => trivial
        | some a =>
          refine ⟨fun d => putAt (.l (.n s), eL (eO e) xs) k d, ?_, fun b => ?_⟩
          · unfold pl1
            rw [h0]
            dsimp only
            rw [show fi Γ = .ok (.int j) Γ1 from hi]
            dsimp only [Out.bind]
            rw [h1]
            dsimp only
            have : idx (.l (.n s), eL (eO e) xs) (.int j) = some (k, (s, e a)) := by
              show (if stru s = true then _ else _) = _
              rw [if_pos hs, List.length_map, hk]
              show ((xs.map (eO e))[k]?).bind _ = _
              rw [List.getElem?_map, ha]
              show (if flatD (e a) = true then _ else _) = _
              rw [hf]
              rfl
            rw [this]
          · show (Sh.l (.n s), PyData.list ((xs.map (eO e)).set k (e b))) = _
            rw [show e b = eO e (some b) from rfl, ← List.map_set]
            rfl
  | ex x =>
    obtain ⟨Γ', h⟩ := hi
    exact ⟨Γ', by unfold pl1; rw [h0]; dsimp only; rw [h]; rfl⟩
  | st => trivial
theorem l_1T {fi : Ev → Out D} {j : Int} {s r : Sh} (i : Nat) (es : γ → List D) (p : γ) (f : γ → α) (g : γ → α → γ) (k n : Nat) (h0 : ∃ x, Γ[i]? = some (some x)) (hi : Si (fi Γ) (.ok j) eI Γ1) (h1 : Γ1[i]? = some (some (.t r, eP es p))) (hn : ∀ p, (es p).length = n)
    (hf : ∀ p, (es p)[k]? = some (e (f p))) (hg : ∀ p a, es (g p a) = (es p).set k (e a)) (hk : L2.ixN n j = some k) (ha : atC r k = some s) (hs : stru s = true) :
    Lm (pl1 i fi Γ) (.ok (f p, g p)) s e (.t r) (eP es) (Γ1.set i none) := by
  obtain ⟨x0, h0⟩ := h0
  refine ⟨fun d => putAt (.t r, eP es p) k d, ?_, fun b => ?_⟩
  · unfold pl1
    rw [h0]
    dsimp only
    rw [show fi Γ = .ok (.int j) Γ1 from hi]
    dsimp only [Out.bind]
    rw [h1]
    dsimp only
    have : idx (.t r, eP es p) (.int j) = some (k, (s, e (f p))) := by
      show (L2.ixN (es p).length j).bind _ = _
      rw [hn, hk]
      show ((es p)[k]?).bind _ = _
      rw [hf]
      show (atC r k).bind _ = _
      rw [ha]
      show (if stru s = true then _ else _) = _
      rw [if_pos hs]
    rw [this]
  · show (Sh.t r, PyData.tuple ((es p).set k (e b))) = _
    rw [← hg]
    rfl
/-- what a method leaves -/
def Ro (o : Option (D × List D)) (m : E (List α)) (e : α → D) : Prop := match m with | .ok xs => ∃ d, o = some (d, xs.map e) | .ex _ => False | .st => True
theorem t_pm {S : Sh} {eS : γ → D} {p : Pl} {mp : E (List α × (List α → γ))} {fs : Ev → Out (List D)} {ma : E β} {es : β → List D} {op : List D → List D → Option (D × List D)} {mo : List α → β → E (List α)} {mk : γ → E τ} (i : Nat)
    (hp : Lm (p Γ) mp (.l .z) (eL e) S eS Γ1) (ha : Si (fs Γ1) ma es Γ2) (ho : ∀ xs a, Ro (op (xs.map e) (es a)) (mo xs a) e) (hl : ∀ x : Option Va, (Γ2.set i x)[i]? = some x) (hk : ∀ w, Ti (run ss (Γ2.set i (some (S, eS w)))) (mk w) R) :
    Ti (run (sExp (fPM i p op fs) :: ss) Γ) ((mp.bind fun l => ma.bind fun a => (mo l.1 a).bind fun x => .ok (l.2 x)).bind mk) R := by
  show Ti ((sExp (fPM i p op fs) Γ).then (run ss)) _ _
  rw [sExp_ap]
  unfold fPM
  cases mp with
  | st => trivial
  | ex x => obtain ⟨Γ', h⟩ := hp; exact ⟨Γ', by rw [h]; rfl⟩
  | ok l =>
    obtain ⟨rb, h1, h2⟩ := hp
    rw [h1, ok_bind]
    dsimp only [Out.bind, eL]
    cases ma with
    | st => trivial
    | ex x => obtain ⟨Γ', h⟩ := ha; exact ⟨Γ', by rw [h]; rfl⟩
    | ok a =>
      rw [show fs Γ1 = .ok (es a) Γ2 from ha, ok_bind]
      dsimp only
      have z := ho l.1 a
      cases hm : mo l.1 a with
      | st => trivial
      | ex x => rw [hm] at z; exact z.elim
      | ok xs =>
        rw [hm] at z
        obtain ⟨d, z⟩ := z
        rw [z, ok_bind, ok_bind]
        dsimp only
        have := hk (l.2 xs)
        rw [← h2] at this
        exact this
theorem t_pa {S s0 : Sh} {eS : γ → D} {p : Pl} {mp : E (List α × (List α → γ))} {u : Ev → Out Va} {mk : γ → E τ} (i : Nat) (s : Sh)
    (hp : Lm (p Γ) mp (.l s) (eL e) S eS Γ1) (ha : Si (u Γ1) m (vs s0 e) Γ2) (hx : ∀ a, asItem s (s0, e a) = some (e a)) (hl : ∀ x : Option Va, (Γ2.set i x)[i]? = some x) (hk : ∀ w, Ti (run ss (Γ2.set i (some (S, eS w)))) (mk w) R) :
    Ti (run (sExp (fPA i p u) :: ss) Γ) ((mp.bind fun l => m.bind fun a => (appE l.1 a).bind fun x => .ok (l.2 x)).bind mk) R := by
  show Ti ((sExp (fPA i p u) Γ).then (run ss)) _ _
  rw [sExp_ap]
  unfold fPA
  cases mp with
  | st => trivial
  | ex x => obtain ⟨Γ', h⟩ := hp; exact ⟨Γ', by rw [h]; rfl⟩
  | ok l =>
    obtain ⟨rb, h1, h2⟩ := hp
    rw [h1, ok_bind]
    dsimp only [Out.bind, eL]
    cases m with
    | st => trivial
    | ex x => obtain ⟨Γ', h⟩ := ha; exact ⟨Γ', by rw [h]; rfl⟩
    | ok a =>
      rw [show u Γ1 = .ok (s0, e a) Γ2 from ha, ok_bind]
      dsimp only
      rw [hx]
      dsimp only
      unfold appE chk
      rw [List.length_map]
      by_cases c : l.1.length < 16777216
      · rw [if_pos c, if_pos c, ok_bind, ok_bind]
        have := hk (l.2 (l.1 ++ [a]))
        rw [← h2] at this
        have e2 : eL e (l.1 ++ [a]) = .list (l.1.map e ++ [e a]) := by
          show PyData.list ((l.1 ++ [a]).map e) = _
          rw [List.map_append]; rfl
        rw [e2] at this
        exact this
      · rw [if_neg c, if_neg c]; trivial
theorem v_app (xs : List α) (a : α) : Ro (mAppend (xs.map e) (n1 e a)) (appE xs a) e := by
  unfold appE chk
  by_cases c : xs.length < 16777216
  · rw [if_pos c]
    refine ⟨.none, ?_⟩
    show (if (xs.map e).length < 16777216 then _ else _) = _
    rw [List.length_map, if_pos c, List.map_append]
    rfl
  · rw [if_neg c]; trivial
def revE (xs : List α) : E (List α) := .ok xs.reverse
theorem v_rev (xs : List α) (a : Unit) : Ro (mReverse (xs.map e) (n0 a)) (revE xs) e := ⟨.none, by show some (_, _) = _; rw [List.map_reverse]⟩
end
end TM
namespace TM
open PySem PV
section
variable {α β γ σ τ ρ : Type} {e : α → D} {e1 : β → D} {R : τ → SO → Prop} {ss : List (Ev → SO)} {Γ Γ1 Γ2 Γ3 : Ev} {m : E α} {mt : E τ} {f : Ev → Out D} {fs : Ev → Out (List D)}
/-! ### walks -/
theorem i_enL {ms : E (List α)} (h : Si (fs Γ) ms (n1 (eL e)) Γ1) : Si (iEnA fs Γ) (ms.bind fun xs => .ok (enum xs)) (List.map (eP (nc eI (n1 e)))) Γ1 := by
  show Si ((fs Γ).bind _) _ _ _
  exact h.bind fun xs _ => by show Out.ok (enumL (xs.map e)) Γ1 = _; rw [enum_map]
theorem i_enT {ms : E (List α)} (h : Si (fs Γ) ms (n1 (eT e)) Γ1) : Si (iEnA fs Γ) (ms.bind fun xs => .ok (enum xs)) (List.map (eP (nc eI (n1 e)))) Γ1 := by
  show Si ((fs Γ).bind _) _ _ _
  exact h.bind fun xs _ => by show Out.ok (enumL (xs.map e)) Γ1 = _; rw [enum_map]
theorem i_enK {ms : E (List α)} (h : Si (fs Γ) ms (n1 (eKT e)) Γ1) : Si (iEnA fs Γ) (ms.bind fun xs => .ok (enum xs)) (List.map (eP (nc eI (n1 e)))) Γ1 := by
  show Si ((fs Γ).bind _) _ _ _
  exact h.bind fun xs _ => by show Out.ok (enumL (xs.map e)) Γ1 = _; rw [enum_map]
theorem i_zpL {ms : E (List α × List β)} (h : Si (fs Γ) ms (nc (eL e) (n1 (eL e1))) Γ1) : Si (iZpA fs Γ) (ms.bind fun p => .ok (p.1.zip p.2)) (List.map (eP (nc e (n1 e1)))) Γ1 := by
  show Si ((fs Γ).bind _) _ _ _
  exact h.bind fun p _ => by show Out.ok (zipL (p.1.map e) (p.2.map e1)) Γ1 = _; rw [zip_map]
theorem i_zpT {ms : E (List α × List β)} (h : Si (fs Γ) ms (nc (eT e) (n1 (eT e1))) Γ1) : Si (iZpA fs Γ) (ms.bind fun p => .ok (p.1.zip p.2)) (List.map (eP (nc e (n1 e1)))) Γ1 := by
  show Si ((fs Γ).bind _) _ _ _
  exact h.bind fun p _ => by show Out.ok (zipL (p.1.map e) (p.2.map e1)) Γ1 = _; rw [zip_map]
/-! a range as a value -/
def eRg : Int × Int → D := fun p => rngD p.1 p.2
theorem q_rg1 (a : Int) : R0 (dRng [eI a]) (.ok (0, a)) (vs .z eRg) := rfl
theorem q_rg2 (a b : Int) : R0 (dRng [eI a, eI b]) (.ok (a, b)) (vs .z eRg) := rfl
theorem i_rg {mr : E (Int × Int)} (h : Si (f Γ) mr eRg Γ1) : Si (iRg f Γ) (mr.bind fun p => rg2 p.1 p.2) (List.map eI) Γ1 := by
  show Si ((f Γ).bind _) _ _ _
  refine h.bind fun p _ => ?_
  obtain ⟨a, b⟩ := p
  show Si (if (a < 2 ^ 62 ∧ -(2 ^ 62) ≤ a) ∧ b < 2 ^ 62 ∧ -(2 ^ 62) ≤ b then _ else _) (rg2 a b) _ _
  unfold rg2 chk
  by_cases c : (b < 2 ^ 62 ∧ -(2 ^ 62) ≤ b) ∧ a < 2 ^ 62 ∧ -(2 ^ 62) ≤ a
  · rw [if_pos c, if_pos ⟨c.2, c.1⟩]
    show Out.ok (rangeL a (b - a).toNat) Γ1 = _
    rw [rg_map]
  · rw [if_neg c, if_neg fun z => c ⟨z.2, z.1⟩]; trivial
/-! a dict's keys -/
theorem noEx_ti {r : SO} {ms : E σ} {P : σ → SO → Prop} (hP : ∀ s e Γ, ¬ P s (.ex e Γ)) (h : Ti r ms P) : Ti (noEx r) ms.nex P := by
  cases ms with
  | ok a =>
    have h : P a r := h
    cases r with
    | ex e Γ => exact (hP a e Γ h).elim
    | _ => exact h
  | ex x => trivial
  | st => trivial
variable {ky : α → L2.Key}
theorem keys_map (kvs : List (α × β)) : ((kvs.map fun p => (e p.1, e1 p.2)).map (·.1)) = (kvs.map Prod.fst).map e := by rw [List.map_map, List.map_map]; rfl
theorem t_forK [DecidableEq α] {t : D → Ev → Option Ev} {body : Ev → SO} {mb : σ → α → E σ} {mk : σ → E τ} (hk : KyE e ky) (ev : β → D) (i : Nat) (kvs : List (α × β)) (G : σ → Ev) (s0 : σ) (hG : Γ = G s0) (h0 : Γ[i]? = some (some (.z, eD e ev kvs)))
    (hb : ∀ s x, ∃ Γ2, t (e x) (G s) = some Γ2 ∧ Ti (body Γ2) (mb s x) (Rlp G)) (hn : ∀ s, Ti (run ss (G s)) (mk s) R) : Ti (run (sForK i t body :: ss) Γ) ((forE (fun s x => (mb s x).nex) (kvs.map Prod.fst) s0).bind mk) R := by
  show Ti ((sForK i t body Γ).then (run ss)) _ _
  unfold sForK
  rw [h0]
  show Ti (SO.then (if ((kvs.map fun p => (e p.1, ev p.2)).all fun p => (dKey p.1).isSome) = true then _ else _) _) _ _
  rw [if_pos (keys_ok hk kvs), keys_map, hG]
  refine (forL_ok (G := G) (fun s x => ?_) (kvs.map Prod.fst) s0).then fun s q => by rw [q]; exact hn s
  obtain ⟨Γ2, a, b⟩ := hb s x
  exact ⟨Γ2, a, noEx_ti (fun s e Γ z => by rcases z with z | z <;> cases z) b⟩
theorem rlpR_nx {G : σ → Ev} {ez : ρ → Va} (q : Fl σ ρ) (x : Exc) (Γ : Ev) : ¬ RlpR G ez q (.ex x Γ) := fun z => by
  cases q with
  | nx s => rcases z with z | z <;> cases z
  | bk s => cases z
  | rt v => obtain ⟨_, z⟩ := z; cases z
theorem t_forKR [DecidableEq α] {t : D → Ev → Option Ev} {body : Ev → SO} {mb : σ → α → E (Fl σ ρ)} {mk : σ → E τ} {mr : ρ → E τ} {ez : ρ → Va} (hk : KyE e ky) (ev : β → D) (i : Nat) (kvs : List (α × β)) (G : σ → Ev) (s0 : σ) (hG : Γ = G s0) (h0 : Γ[i]? = some (some (.z, eD e ev kvs)))
    (hb : ∀ s x, ∃ Γ2, t (e x) (G s) = some Γ2 ∧ Ti (body Γ2) (mb s x) (RlpR G ez)) (hn : ∀ s, Ti (run ss (G s)) (mk s) R) (hr : ∀ v Γ, Ti (.rt (ez v) Γ) (mr v) R) : Ti (run (sForK i t body :: ss) Γ) ((forR (fun s x => (mb s x).nex) (kvs.map Prod.fst) s0).bind (Sum.elim mk mr)) R := by
  show Ti ((sForK i t body Γ).then (run ss)) _ _
  unfold sForK
  rw [h0]
  show Ti (SO.then (if ((kvs.map fun p => (e p.1, ev p.2)).all fun p => (dKey p.1).isSome) = true then _ else _) _) _ _
  rw [if_pos (keys_ok hk kvs), keys_map, hG]
  have hb' : ∀ s x, ∃ Γ2, t (e x) (G s) = some Γ2 ∧ Ti (noEx (body Γ2)) ((mb s x).nex) (RlpR G ez) := fun s x => by
    obtain ⟨Γ2, a, b⟩ := hb s x
    exact ⟨Γ2, a, noEx_ti rlpR_nx b⟩
  refine (forLR_ok (body := fun Γ => noEx (body Γ)) hb' (kvs.map Prod.fst) s0).then fun q z => ?_
  cases q with
  | inl s => rw [show _ = SO.nx (G s) from z]; exact hn s
  | inr v => obtain ⟨Γ', z⟩ := z; rw [z]; exact hr v Γ'
end
end TM
namespace TM
open PySem PV
section
variable {α β γ σ τ ρ : Type} {e : α → D} {e1 : β → D} {R : τ → SO → Prop} {ss : List (Ev → SO)} {Γ Γ1 Γ2 Γ3 : Ev} {m : E α} {mt : E τ} {f : Ev → Out D} {fs : Ev → Out (List D)}
/-! ### calls with lists that change later -/
def Sq (qs : List Qa) (Γ : Ev) (m : E β) (es : β → List D) (Γ1 Γ2 : Ev) : Prop := match m with
  | .ok b => ∃ ks, evQ qs Γ = .ok ks Γ1 ∧ daQ Γ2 ks = some (es b)
  | .ex x => ∃ Γ', evQ qs Γ = .ex x Γ'
  | .st => True
theorem s_f1 (h : Si (f Γ) m e Γ1) : Sq [.f f] Γ m (n1 e) Γ1 Γ2 := by
  cases m with
  | ok a => exact ⟨[.inl (e a)], by show (f Γ).bind _ = _; rw [show f Γ = .ok (e a) Γ1 from h]; rfl, rfl⟩
  | ex x => obtain ⟨Γ', h⟩ := h; exact ⟨Γ', by show (f Γ).bind _ = _; rw [h]; rfl⟩
  | st => trivial
theorem s_f {qs : List Qa} {ms : E β} {es : β → List D} (h : Si (f Γ) m e Γ1) (hs : Sq qs Γ1 ms es Γ2 Γ3) : Sq (.f f :: qs) Γ (m.bind fun a => ms.bind fun b => .ok (a, b)) (nc e es) Γ2 Γ3 := by
  cases m with
  | ok a =>
    have h : f Γ = .ok (e a) Γ1 := h
    cases ms with
    | ok b =>
      obtain ⟨ks, h3, h4⟩ := hs
      exact ⟨.inl (e a) :: ks, by show (f Γ).bind _ = _; rw [h]; show (evQ qs Γ1).bind _ = _; rw [h3]; rfl, by show (daQ Γ3 ks).map _ = _; rw [h4]; rfl⟩
    | ex x => obtain ⟨Γ', h2⟩ := hs; exact ⟨Γ', by show (f Γ).bind _ = _; rw [h]; show (evQ qs Γ1).bind _ = _; rw [h2]; rfl⟩
    | st => trivial
  | ex x => obtain ⟨Γ', h⟩ := h; exact ⟨Γ', by show (f Γ).bind _ = _; rw [h]; rfl⟩
  | st => trivial
theorem s_b1 (i : Nat) (s : Sh) (e : α → D) (a : α) (h : ∃ x, Γ[i]? = some (some x)) (h2 : Γ2[i]? = some (some (s, e a))) : Sq [.b i] Γ (.ok a) (n1 e) Γ Γ2 := by
  obtain ⟨x, h⟩ := h
  refine ⟨[.inr i], ?_, ?_⟩
  · unfold evQ; rw [h]; rfl
  · unfold daQ; rw [h2]; rfl
theorem s_b {qs : List Qa} {ms : E β} {es : β → List D} (i : Nat) (s : Sh) (e : α → D) (a : α) (h : ∃ x, Γ[i]? = some (some x)) (h2 : Γ2[i]? = some (some (s, e a))) (hs : Sq qs Γ ms es Γ1 Γ2) : Sq (.b i :: qs) Γ (ms.bind fun b => .ok (a, b)) (nc e es) Γ1 Γ2 := by
  obtain ⟨x, h⟩ := h
  cases ms with
  | ok b =>
    obtain ⟨ks, h3, h4⟩ := hs
    refine ⟨.inr i :: ks, ?_, ?_⟩
    · unfold evQ; rw [h]; dsimp only; rw [h3]; rfl
    · unfold daQ; rw [h2]; dsimp only; rw [h4]; rfl
  | ex x => obtain ⟨Γ', h3⟩ := hs; exact ⟨Γ', by unfold evQ; rw [h]; dsimp only; rw [h3]; rfl⟩
  | st => trivial
theorem j_callQ {n : Nat} {F : List D → Res} {qs : List Qa} {ms : E β} {es : β → List D} {M : β → E γ} {ez : γ → Va} (hs : Sq qs Γ ms es Γ1 Γ1) (hF : ∀ a, Sd (F (es a)) (M a) ez) (hl : ∀ a, (es a).length = n) (hok : ∀ v, okR (ez v) = true) :
    Si (fCallQ n F qs Γ) (ms.bind fun a => (M a).nex) ez Γ1 := by
  show Si ((evQ qs Γ).bind _) _ _ _
  cases ms with
  | ok a =>
    obtain ⟨ks, h1, h2⟩ := hs
    rw [h1, ok_bind]
    show Si (match daQ Γ1 ks with | some ds => _ | none => _) _ _ _
    rw [h2]
    dsimp only
    rw [if_pos (hl a)]
    have h := (hF a).run
    cases hM : M a with
    | ok v =>
      rw [hM] at h
      rw [show F (es a) = .ok (ez v) from h]
      dsimp only
      rw [if_pos (hok v)]
      rfl
    | ex x => trivial
    | st => trivial
  | ex x => obtain ⟨Γ', h⟩ := hs; exact ⟨Γ', by rw [h]; rfl⟩
  | st => trivial
theorem ok_flat {ez : γ → D} (h : ∀ v, flatD (ez v) = true) : ∀ v, okR (vs .z ez v) = true := h
theorem ok_flats {ez : γ → D} (h : ∀ v, flatD (ez v) = true) : ∀ v : List γ, okR (vs (.l .z) (eL ez) v) = true := fun v => by
  show (v.map ez).all flatD = true
  rw [List.all_map]
  exact List.all_eq_true.mpr fun a _ => h a
theorem fl_o (h : ∀ v, flatD (e v) = true) : ∀ v, flatD (eO e v) = true := fun v => by cases v <;> first | rfl | exact h _
/-! ### dicts -/
variable {ky : α → L2.Key}
theorem j_lenD [DecidableEq α] (ev : β → D) (i : Nat) (kvs : List (α × β)) (h1 : dic (Γ[i]?) = some (kvs.map fun p => (e p.1, ev p.2))) : Si (fLenD i Γ) (.ok (kvs.length : Int)) eI Γ := by
  show fLenD i Γ = _
  unfold fLenD
  rw [h1]
  show Out.ok (PyData.int ((kvs.map _).length : Nat)) Γ = _
  rw [List.length_map]
  rfl
theorem j_tct1 {kt : α → List L2.Key} {fk fv : Ev → Out D} {mx : E β} (hk : KtE e kt) (h : Si (fk Γ) m e Γ1) (hx : Si (fv Γ1) mx e1 Γ2) : Si (vTct1 fk fv Γ) (m.bind fun k => mx.bind fun x => .ok [(k, x)]) (vs (.e .z) (eDT e e1)) Γ2 := by
  show Si ((fk Γ).bind _) _ _ _
  refine h.bind fun a _ => ?_
  refine hx.bind fun b _ => ?_
  show Out.of ((tKey (e a)).map _) Γ2 = _
  rw [hk.key]
  rfl
/-! ### try, the body calls within tests -/
def Tc (r : SO) (m : E Unit) (Γ0 : Ev) : Prop := match m with | .ok _ => r = .nx Γ0 | .ex x => r = .ex x Γ0 | .st => True
theorem c_nx : Tc (sNx Γ) (.ok ()) Γ := rfl
theorem c_call {n : Nat} {F : List D → Res} {ms : E β} {es : β → List D} {M : β → E γ} {ez : γ → Va} (h : Si (fs Γ) ms es Γ) (hF : ∀ a, Sd (F (es a)) (M a) ez) (hl : ∀ a, (es a).length = n) : Tc (sExp (fV (fCall n F fs)) Γ) (ms.nex.bind fun a => (M a).bind fun _ => .ok ()) Γ := by
  cases ms with
  | ok a =>
    rw [nex_ok, ok_bind, sExp_ap, fV_ap, fCall_ap, show fs Γ = .ok (es a) Γ from h, bind_ok, if_pos (hl a)]
    have h := (hF a).run
    cases hM : M a with
    | ok z => rw [hM] at h; rw [show F (es a) = .ok (ez z) from h]; rfl
    | ex x => rw [hM] at h; rw [show F (es a) = .ex x from h]; rfl
    | st => trivial
  | ex x => trivial
  | st => trivial
theorem c_if {c : Ev → Out Bool} {a b : Ev → SO} {mc : E Bool} {ma mb : E Unit} (h : Si (c Γ) mc id Γ) (h1 : Tc (a Γ) ma Γ) (h2 : Tc (b Γ) mb Γ) : Tc (sIf c a b Γ) (mc.nex.bind fun k => if k = true then ma else mb) Γ := by
  cases mc with
  | ok k =>
    rw [nex_ok, ok_bind]
    show Tc (sB (c Γ) _) _ _
    rw [show c Γ = .ok k Γ from h]
    show Tc (if k = true then a Γ else b Γ) _ _
    cases k
    · rw [if_neg Bool.false_ne_true, if_neg Bool.false_ne_true]; exact h2
    · rw [if_pos rfl, if_pos rfl]; exact h1
  | ex x => trivial
  | st => trivial
theorem c_seq {a b : Ev → SO} {ma mb : E Unit} (h1 : Tc (a Γ) ma Γ) (h2 : Tc (b Γ) mb Γ) : Tc (sSeq a b Γ) (ma.bind fun _ => mb) Γ := by
  cases ma with
  | ok k =>
    rw [ok_bind]
    show Tc (match a Γ with | .nx Γ1 => b Γ1 | r => r) _ _
    rw [show a Γ = .nx Γ from h1]
    exact h2
  | ex x =>
    show (match a Γ with | .nx Γ1 => b Γ1 | r => r) = _
    rw [show a Γ = .ex x Γ from h1]
  | st => trivial
theorem c_wp {a : Ev → SO} {ma : E Unit} (h : Tc (a Γ) ma Γ) : Tc (sWp [] a Γ) ma Γ := by
  cases ma with
  | ok k => show sWp [] a Γ = _; unfold sWp; rw [show a Γ = .nx Γ from h]; rfl
  | ex x => show sWp [] a Γ = _; unfold sWp; rw [show a Γ = .ex x Γ from h]
  | st => trivial
theorem t_tryG {t : Str → Option Bool} {i : Nat} {body : Ev → SO} {hs : Addr → Exc → Ev → SO} {mb : E Unit} {mk : E τ} {mh : Exc → E τ} (hb : Tc (body Γ) mb Γ)
    (hk : Ti (run ss Γ) mk R) (hh : ∀ x, Ti ((sClr i (hs 0 x (Γ.set i (some (.z, rawD 0))))).then (run ss)) (mh x).nex R) : Ti (run (sTryA t i body hs :: ss) Γ) (tryE t mb (fun _ => mk) mh) R := by
  show Ti ((tryA t i hs (body Γ)).then (run ss)) _ _
  unfold tryE
  cases mb with
  | ok z => rw [show body Γ = .nx Γ from hb]; exact hk
  | ex x =>
    rw [show body Γ = .ex x Γ from hb]
    unfold tryA
    dsimp only
    cases ht : t x.c with
    | none => trivial
    | some b => cases b with
      | false => exact ⟨Γ, rfl⟩
      | true =>
        dsimp only
        cases hx : x.fs.isEmpty with
        | true => exact hh x
        | false => trivial
  | st => trivial
end
end TM
namespace TM
open PySem PV
section
variable {α β γ σ τ ρ : Type} {e : α → D} {e1 : β → D} {c : α → List D} {Γ Γ1 Γ2 Γ3 : Ev} {f fk fx : Ev → Out D}
/-! ### dicts whose keys are tuples of tuples -/
/-- data that is a key, at most n deep, and tells its thing -/
structure NkE (n : Nat) (e : α → D) : Prop where
  key : ∀ a, ∃ k, nkD (e a) = some k ∧ k.depth ≤ n
  inj : ∀ a b, nkD (e a) = nkD (e b) → a = b
structure NkC (n : Nat) (c : α → List D) : Prop where
  key : ∀ a, ∃ ks, nkA (c a) = some ks ∧ NestedKey.depthAll ks ≤ n
  inj : ∀ a b, nkA (c a) = nkA (c b) → a = b
theorem nk_I {n : Nat} : NkE n eI := ⟨fun a => ⟨.num a, by simp only [eI, nkD], Nat.zero_le _⟩, fun a b h => by simp only [eI, nkD] at h; cases h; rfl⟩
theorem nk_n1 {n : Nat} (h : NkE n e) : NkC n (n1 e) := ⟨fun a => by
    obtain ⟨k, h1, h2⟩ := h.key a
    exact ⟨[k], by simp only [n1, nkA, h1, Option.bind_some, Option.map_some], by simp only [NestedKey.depthAll]; omega⟩,
  fun a b q => by
    obtain ⟨k, h1, _⟩ := h.key a
    obtain ⟨k', h2, _⟩ := h.key b
    simp only [n1, nkA, h1, h2, Option.bind_some, Option.map_some] at q
    cases q
    exact h.inj a b (h1.trans h2.symm)⟩
theorem nk_nc {n : Nat} {es : β → List D} (h : NkE n e) (hs : NkC n es) : NkC n (nc e es) := ⟨fun p => by
    obtain ⟨k, h1, h2⟩ := h.key p.1
    obtain ⟨ks, h3, h4⟩ := hs.key p.2
    exact ⟨k :: ks, by simp only [nc, nkA, h1, h3, Option.bind_some, Option.map_some], by simp only [NestedKey.depthAll]; omega⟩,
  fun a b q => by
    obtain ⟨k, h1, _⟩ := h.key a.1
    obtain ⟨k', h2, _⟩ := h.key b.1
    obtain ⟨ks, h3, _⟩ := hs.key a.2
    obtain ⟨ks', h4, _⟩ := hs.key b.2
    simp only [nc, nkA, h1, h2, h3, h4, Option.bind_some, Option.map_some] at q
    cases q
    exact Prod.ext (h.inj _ _ (h1.trans h2.symm)) (hs.inj _ _ (h3.trans h4.symm))⟩
theorem nk_P {n : Nat} (h : NkC n c) : NkE (n + 1) (eP c) := ⟨fun a => by
    obtain ⟨ks, h1, h2⟩ := h.key a
    exact ⟨.tup ks, by simp only [eP, nkD, h1, Option.map_some], by simp only [NestedKey.depth]; omega⟩,
  fun a b q => by
    obtain ⟨ks, h1, _⟩ := h.key a
    obtain ⟨ks', h2, _⟩ := h.key b
    simp only [eP, nkD, h1, h2, Option.map_some] at q
    cases q
    exact h.inj a b (h1.trans h2.symm)⟩
theorem nka_map {n : Nat} (h : NkE n e) : NkC n (fun xs : List α => xs.map e) := ⟨fun xs => by
    induction xs with
    | nil => exact ⟨[], by simp only [List.map_nil, nkA], Nat.zero_le _⟩
    | cons x xs ih =>
      obtain ⟨ks, h1, h2⟩ := ih
      obtain ⟨k, h3, h4⟩ := h.key x
      exact ⟨k :: ks, by simp only [List.map_cons, nkA, h1, h3, Option.bind_some, Option.map_some], by simp only [NestedKey.depthAll]; omega⟩,
  fun xs => by
    induction xs with
    | nil =>
      intro b q
      cases b with
      | nil => rfl
      | cons y ys =>
        exfalso
        obtain ⟨k', h2, _⟩ := h.key y
        simp only [List.map_nil, List.map_cons, nkA, h2, Option.bind_some] at q
        cases z : nkA (ys.map e) <;> rw [z] at q <;> cases q
    | cons x xs ih =>
      intro b q
      obtain ⟨k, h1, _⟩ := h.key x
      cases b with
      | nil =>
        exfalso
        simp only [List.map_nil, List.map_cons, nkA, h1, Option.bind_some] at q
        cases z : nkA (xs.map e) <;> rw [z] at q <;> cases q
      | cons y ys =>
        obtain ⟨k', h2, _⟩ := h.key y
        have all : ∀ zs : List α, ∃ ks, nkA (zs.map e) = some ks := fun zs => by
          induction zs with
          | nil => exact ⟨[], by simp only [List.map_nil, nkA]⟩
          | cons z zs ih =>
            obtain ⟨ks, q1⟩ := ih
            obtain ⟨kz, q2, _⟩ := h.key z
            exact ⟨kz :: ks, by simp only [List.map_cons, nkA, q1, q2, Option.bind_some, Option.map_some]⟩
        obtain ⟨ks, h3⟩ := all xs
        obtain ⟨ks', h4⟩ := all ys
        simp only [List.map_cons, nkA, h1, h2, h3, h4, Option.bind_some, Option.map_some] at q
        cases q
        rw [h.inj x y (h1.trans h2.symm), ih ys (h3.trans h4.symm)]⟩
theorem nk_T {n : Nat} (h : NkE n e) : NkE (n + 1) (eT e) := nk_P (nka_map h)
def eDN (ek : α → D) (ev : β → D) : List (α × β) → D := fun kvs => .dict (nRows (kvs.map fun p => ek p.1) (kvs.map fun p => ev p.2))
def setdTE [DecidableEq α] (kvs : List (α × β)) (k : α) (x : β) : E (β × List (α × β)) := chk (kvs.length < 16777216) (match lookD kvs k with | some y => (y, kvs) | none => (x, kvs ++ [(k, x)]))
theorem lookN_t [DecidableEq α] {n : Nat} {ev : β → D} (h : NkE n e) (k : α) {kk : NestedKey} (hk : nkD (e k) = some kk) : ∀ kvs : List (α × β), lookN ((kvs.map fun p => e p.1).zip (kvs.map fun p => ev p.2)) kk = (lookD kvs k).map ev
  | [] => rfl
  | p :: kvs => by
    unfold lookN lookD
    rw [List.map_cons, List.map_cons, List.zip_cons_cons, List.find?_cons]
    by_cases c : p.1 = k
    · rw [decide_eq_true (by rw [c]; exact hk), if_pos c]; rfl
    · rw [decide_eq_false (fun z => c (h.inj _ _ (z.trans hk.symm))), if_neg c]
      exact lookN_t h k hk kvs
theorem j_vnct0 (ek : α → D) (ev : β → D) {Γ : Ev} : Si (vNct0 Γ) (.ok []) (vs .q (eDN ek ev)) Γ := rfl
theorem fSN_ap {i : Nat} : fSN i fk fx Γ = match ndic (Γ[i]?) with
  | some _ => (fk Γ).bind fun k Γ1 => (fx Γ1).bind fun x Γ2 => (match ndic (Γ2[i]?) with
    | some rs => setdE i rs k x Γ2
    | none => Out.st)
  | none => Out.st := id rfl
theorem g_sn [DecidableEq α] {n : Nat} {ev : β → D} {mk : E α} {mx : E β} (i : Nat) (h : NkE n e) (hn : n ≤ 8) (ht : ∀ a, ∃ ts, e a = .tuple ts) (kvs : List (α × β)) (h0 : Γ[i]? = some (some (.q, eDN e ev kvs))) (hk : Si (fk Γ) mk e Γ1) (hx : Si (fx Γ1) mx ev Γ2) (h2 : Γ2[i]? = some (some (.q, eDN e ev kvs))) :
    Sg (fSN i fk fx Γ) (mk.bind fun k => mx.bind fun x => setdTE kvs k x) (fun p => ev p.1) (fun p => Γ2.set i (some (.q, eDN e ev p.2))) := by
  rw [fSN_ap, h0]
  show Sg ((fk Γ).bind _) _ _ _
  cases mk with
  | ex x => obtain ⟨Γ', hk⟩ := hk; exact ⟨Γ', by rw [hk]; rfl⟩
  | st => trivial
  | ok k =>
    rw [show fk Γ = .ok (e k) Γ1 from hk, bind_ok, ok_bind]
    cases mx with
    | ex x => obtain ⟨Γ', hx⟩ := hx; exact ⟨Γ', by rw [hx]; rfl⟩
    | st => trivial
    | ok x =>
      rw [show fx Γ1 = .ok (ev x) Γ2 from hx, bind_ok, ok_bind, h2]
      show Sg (setdE i ((kvs.map fun p => e p.1).zip (kvs.map fun p => ev p.2)) (e k) (ev x) Γ2) _ _ _
      obtain ⟨kk, k1, k2⟩ := h.key k
      obtain ⟨ts, hts⟩ := ht k
      unfold setdTE
      by_cases c : kvs.length < 16777216
      · rw [chk_ok c]
        have hs : setdE i ((kvs.map fun p => e p.1).zip (kvs.map fun p => ev p.2)) (e k) (ev x) Γ2 = match lookN ((kvs.map fun p => e p.1).zip (kvs.map fun p => ev p.2)) kk with
          | some y => .ok y Γ2
          | none => .ok (ev x) (Γ2.set i (some (.q, .dict ((.bool false, .none) :: ((kvs.map fun p => e p.1).zip (kvs.map fun p => ev p.2) ++ [(e k, ev x)]))))) := by
          rw [hts] at k1 ⊢
          unfold setdE
          dsimp only
          rw [k1]
          dsimp only
          rw [if_pos ⟨by omega, by rw [List.length_zip, List.length_map, List.length_map, Nat.min_self]; exact c⟩]
          all_goals (cases lookN ((kvs.map fun p => e p.1).zip (kvs.map fun p => ev p.2)) kk <;> rfl)
        rw [hs, lookN_t h k k1]
        cases hl : lookD kvs k with
        | some y =>
          show Out.ok (ev y) Γ2 = .ok (ev y) (Γ2.set i (some (.q, eDN e ev kvs)))
          congr 1
          refine List.ext_getElem? fun j => ?_
          by_cases hj : i = j
          · subst hj
            rw [List.getElem?_set_self (List.getElem?_eq_some_iff.mp h2).1, h2]
          · rw [List.getElem?_set_ne hj]
        | none =>
          show Out.ok (ev x) _ = .ok (ev x) (Γ2.set i (some (.q, eDN e ev (kvs ++ [(k, x)]))))
          unfold eDN nRows
          rw [List.map_append, List.map_append, List.zip_append (by rw [List.length_map, List.length_map])]
          rfl
      · have : chk (kvs.length < 16777216) (match lookD kvs k with | some y => (y, kvs) | none => (x, kvs ++ [(k, x)])) = .st := by unfold chk; rw [if_neg c]
        rw [this]
        trivial
end
end TM
namespace TM
open PySem PV
section
variable {α β γ σ τ ρ : Type} {e : α → D} {Γ Γ1 Γ2 Γ3 : Ev} {f fk fx : Ev → Out D} {ss : List (Ev → SO)} {R : τ → SO → Prop}
/-! ### x.append(y); y = f(.., y, ..) -/
theorem sAC_ap {ix iy : Nat} {f : Ev → Out Va} : sAC ix iy f Γ = match Γ[ix]?, Γ[iy]? with
  | some (some (.l (.n s), .list ds)), some (some y0) => if (y0.1 = s ∧ stru s = true) ∧ flatD y0.2 = false ∧ ds.length < 16777216 then sB (f (Γ.set ix none)) fun r Γ2 => (match Γ2[iy]? with
      | some (some y1) => if y1.1 = s then .nx ((Γ2.set iy (some r)).set ix (some (.l (.n s), .list (ds ++ [y1.2])))) else .st
      | _ => .st) else .st
  | _, _ => .st := id rfl
theorem t_ac {s sr : Sh} {er : β → D} {f : Ev → Out Va} {m : E β} {mk : List α → β → E τ} (ix iy : Nat) (xs : List α) (y : α) (h1 : Γ[ix]? = some (some (.l (.n s), eL e xs))) (h2 : Γ[iy]? = some (some (s, e y))) (hs : stru s = true) (hf : ∀ a, flatD (e a) = false)
    (hr : Si (f (Γ.set ix none)) m (vs sr er) Γ2) (h3 : Γ2[iy]? = some (some (s, e y))) (hk : ∀ (zs : List α) (r : β), Ti (run ss ((Γ2.set iy (some (sr, er r))).set ix (some (.l (.n s), eL e zs)))) (mk zs r) R) :
    Ti (run (sAC ix iy f :: ss) Γ) ((appE xs y).bind fun zs => m.bind fun r => mk zs r) R := by
  show Ti ((sAC ix iy f Γ).then (run ss)) _ _
  unfold appE
  by_cases c : xs.length < 16777216
  · rw [chk_ok c, ok_bind, sAC_ap, h1, h2]
    dsimp only [eL]
    rw [if_pos ⟨⟨rfl, hs⟩, hf y, by rw [List.length_map]; exact c⟩]
    cases m with
    | ex x => obtain ⟨Γ', hr⟩ := hr; exact ⟨Γ', by rw [hr]; rfl⟩
    | st => trivial
    | ok r =>
      rw [show f (Γ.set ix none) = .ok (sr, er r) Γ2 from hr]
      unfold sB
      dsimp only
      rw [h3]
      dsimp only
      rw [if_pos rfl, ok_bind]
      have := hk (xs ++ [y]) r
      unfold eL at this
      rw [List.map_append] at this
      exact this
  · have : chk (xs.length < 16777216) (xs ++ [y]) = .st := by unfold chk; rw [if_neg c]
    rw [this]
    trivial
/-! ### an item out of a new tuple -/
theorem j_ixT {r s : Sh} {es : γ → List D} {fv : Ev → Out Va} {fi : Ev → Out D} {m : E γ} {j : Int} (k n : Nat) (pr : γ → α) (h : Si (fv Γ) m (vs (.t r) (eP es)) Γ1) (hi : Si (fi Γ1) (.ok j) eI Γ2) (hn : ∀ p, (es p).length = n) (hf : ∀ p, (es p)[k]? = some (e (pr p))) (hk : L2.ixN n j = some k) (ha : atC r k = some s) :
    Si (vIxT fv fi Γ) (m.bind fun a => .ok (pr a)) (vs s e) Γ2 := by
  unfold vIxT
  cases m with
  | ex x => obtain ⟨Γ', h⟩ := h; exact ⟨Γ', by rw [h]; rfl⟩
  | st => trivial
  | ok a =>
    rw [show fv Γ = .ok (.t r, .tuple (es a)) Γ1 from h]
    show (fi Γ1).bind _ = _
    rw [show fi Γ1 = .ok (.int j) Γ2 from hi]
    show (match L2.ixN (es a).length j with | some k => _ | none => _) = _
    rw [hn, hk]
    dsimp only
    rw [hf, ha]
    rfl
/-! ### an item out of a new list; reverse -/
theorem j_ixV {s : Sh} {fv : Ev → Out Va} {fi : Ev → Out D} {m : E (List α)} {mj : E Int} (h : Si (fv Γ) m (vs (.l (.n s)) (eL e)) Γ1) (hi : Si (fi Γ1) mj eI Γ2) (hs : stru s = true) (hf : ∀ a, flatD (e a) = false) : Si (vIxV fv fi Γ) (m.bind fun xs => mj.bind fun k => ixE xs k) (vs s e) Γ2 := by
  unfold vIxV
  cases m with
  | ex x => obtain ⟨Γ', h⟩ := h; exact ⟨Γ', by rw [h]; rfl⟩
  | st => trivial
  | ok xs =>
    rw [show fv Γ = .ok (.l (.n s), .list (xs.map e)) Γ1 from h]
    show Si ((fi Γ1).bind _) _ _ _
    cases mj with
    | ex x => obtain ⟨Γ', hi⟩ := hi; exact ⟨Γ', by rw [hi]; rfl⟩
    | st => trivial
    | ok k =>
      have hx : idx (Sh.l (.n s), PyData.list (xs.map e)) (.int k) = (L2.ixN xs.length k).bind fun j => (xs[j]?).map fun a => (j, (s, e a)) := by
        show (if stru s = true then (L2.ixN (xs.map e).length k).bind (fun k => ((xs.map e)[k]?).bind fun d => if flatD d = true then none else some (k, (s, d))) else none) = _
        rw [if_pos hs, List.length_map]
        cases L2.ixN xs.length k with
        | none => rfl
        | some j =>
          show ((xs.map e)[j]?).bind _ = (xs[j]?).map _
          rw [List.getElem?_map]
          cases xs[j]? with
          | none => rfl
          | some a =>
            show (if flatD (e a) = true then none else some _) = _
            rw [hf a]; rfl
      rw [show fi Γ1 = .ok (.int k) Γ2 from hi, ok_bind, ok_bind]
      show Si (match idx (Sh.l (.n s), PyData.list (xs.map e)) (.int k) with | some (_, y) => Out.ok y Γ2 | none => Out.st) _ _ _
      rw [hx]
      unfold ixE L2.atI
      cases L2.ixN xs.length k with
      | none => trivial
      | some j =>
        dsimp only [Option.bind]
        cases xs[j]? with
        | none => trivial
        | some a => rfl
/-- a slot that may hold nothing, and does not -/
theorem l_0N {s : Sh} (i : Nat) (e : α → D) (o : Option α) (h1 : Γ[i]? = some (some (.n s, eO e o))) (hf : ∀ a, flatD (e a) = false) : Lm (pl0n i Γ) ((E.ofO o).bind fun a => .ok (a, some)) s e (.n s) (eO e) (Γ.set i none) := by
  cases o with
  | none => trivial
  | some a =>
    refine ⟨fun d => (.n s, d), ?_, fun b => rfl⟩
    unfold pl0n
    rw [h1]
    show (if flatD (e a) = true then _ else _) = _
    rw [hf a]; rfl
theorem t_rv {s : Sh} {mt : E τ} (i : Nat) (xs : List α) (h1 : Γ[i]? = some (some (.l s, eL e xs))) (hk : Ti (run ss (Γ.set i (some (.l s, eL e xs.reverse)))) mt R) : Ti (run (sExp (fRv i (pl0 i)) :: ss) Γ) mt R := by
  show Ti ((sExp (fRv i (pl0 i)) Γ).then (run ss)) _ _
  rw [sExp_ap]
  unfold fRv pl0
  rw [h1]
  dsimp only [Out.bind, eL]
  unfold eL at hk
  rw [List.map_reverse] at hk
  rw [List.set_set]
  exact hk
end
end TM
namespace TM
open PySem PV
section
variable {α β γ δ σ τ ρ : Type} {e : α → D} {Γ Γ1 Γ2 Γ3 : Ev} {fe fi : Ev → Out D}
/-! ### a comparison with an item of a list of lists; a call whose last argument is one -/
theorem itAt_t {i : Nat} {j : Int} {xs : List α} (h0 : Γ[i]? = some (some (.l (.n (.l .z)), eL e xs))) (hf : ∀ a, flatD (e a) = false) : itAt Γ i j = (L2.atI xs j).map e := by
  unfold itAt
  rw [h0]
  show (L2.ixN (xs.map e).length j).bind _ = _
  rw [List.length_map]
  unfold L2.atI
  cases L2.ixN xs.length j with
  | none => rfl
  | some k =>
    show ((xs.map e)[k]?).bind _ = (xs[k]?).map e
    rw [List.getElem?_map]
    cases xs[k]? with
    | none => rfl
    | some a =>
      show (if flatD (e a) = true then none else some (e a)) = _
      rw [hf a]; rfl
theorem j_o2I {op : D → D → Option Va} {oa : Opn} {e0 : δ → D} {ma : E δ} {mo : δ → α → E γ} {ez : γ → Va} (i : Nat) (j : Int) (xs : List α) (h1 : So oa Γ ma e0 Γ1 Γ1) (h0 : Γ1[i]? = some (some (.l (.n (.l .z)), eL e xs))) (hf : ∀ a, flatD (e a) = false)
    (ho : ∀ a b, R0 (op (e0 a) (e b)) (mo a b) ez) : Si (o2I op oa i j Γ) (ma.bind fun a => (ixE xs j).bind fun b => mo a b) ez Γ1 := by
  unfold o2I
  cases ma with
  | ok a =>
    obtain ⟨d, q1, q2⟩ := h1
    rw [q1]
    show Si (Out.of ((oa.l Γ1 d).bind _) Γ1) _ _ _
    rw [q2, itAt_t h0 hf, ok_bind]
    unfold ixE
    cases L2.atI xs j with
    | none => trivial
    | some b => exact Si.of (ho a b)
  | ex x => obtain ⟨Γ', h⟩ := h1; rw [h]; exact ⟨Γ', rfl⟩
  | st => trivial
theorem j_callP {n : Nat} {F : List D → Res} {s : Sh} {md : E δ} {ed : δ → D} {M : δ → α → E β} {ez : β → Va} (i : Nat) (j : Int) (xs : List α) (hd : Si (fe Γ) md ed Γ1) (h0 : Γ1[i]? = some (some (.l (.n s), eL e xs))) (hi : ∀ Γ, fi Γ = .ok (.int j) Γ) (hs : stru s = true) (hf : ∀ a, flatD (e a) = false)
    (hF : ∀ d a, Sd (F [ed d, e a]) (M d a) ez) (hn : n = 2) (hok : ∀ b, okR (ez b) = true) : Si (fCallP i n F fe (pl1 i fi) Γ) (md.bind fun d => (ixE xs j).bind fun a => (M d a).nex) ez Γ1 := by
  subst hn
  unfold fCallP
  cases md with
  | ex x => obtain ⟨Γ', h⟩ := hd; exact ⟨Γ', by rw [h]; rfl⟩
  | st => trivial
  | ok d =>
    rw [show fe Γ = .ok (ed d) Γ1 from hd, ok_bind]
    show Si ((pl1 i fi Γ1).bind _) _ _ _
    unfold pl1
    rw [h0]
    dsimp only
    rw [hi]
    dsimp only [Out.bind]
    rw [h0]
    dsimp only
    unfold ixE L2.atI
    cases hk : L2.ixN xs.length j with
    | none => trivial
    | some k =>
      dsimp only [Option.bind]
      cases hx : xs[k]? with
      | none => trivial
      | some a =>
        have hidx : idx (Sh.l (.n s), eL e xs) (.int j) = some (k, (s, e a)) := by
          show (if stru s = true then (L2.ixN (xs.map e).length j).bind (fun k => ((xs.map e)[k]?).bind fun d => if flatD d = true then none else some (k, (s, d))) else none) = _
          rw [if_pos hs, List.length_map, hk]
          show ((xs.map e)[k]?).bind _ = _
          rw [List.getElem?_map, hx]
          show (if flatD (e a) = true then none else some _) = _
          rw [hf a]; rfl
        rw [hidx, ok_bind]
        dsimp only
        rw [if_pos (show [ed d, e a].length = 2 from rfl)]
        have hset : (Γ1.set i none).set i (some (putAt (Sh.l (.n s), eL e xs) k (e a))) = Γ1 := by
          rw [List.set_set]
          refine List.ext_getElem? fun m => ?_
          by_cases hm : i = m
          · subst hm
            rw [List.getElem?_set_self (List.getElem?_eq_some_iff.mp h0).1, h0]
            show some (some (Sh.l (.n s), PyData.list ((xs.map e).set k (e a)))) = _
            congr 3
            have : (xs.map e).set k (e a) = xs.map e := by
              refine List.ext_getElem? fun q => ?_
              by_cases hq : k = q
              · subst hq
                rw [List.getElem?_set_self (by rw [List.length_map]; exact (List.getElem?_eq_some_iff.mp hx).1), List.getElem?_map, hx]; rfl
              · rw [List.getElem?_set_ne hq]
            unfold eL
            rw [this]
          · rw [List.getElem?_set_ne hm]
        have h := (hF d a).run
        cases hM : M d a with
        | ok v =>
          rw [hM] at h
          rw [show F [ed d, e a] = .ok (ez v) from h]
          dsimp only
          rw [if_pos (hok v), hset]
          rfl
        | ex x => trivial
        | st => trivial
end
end TM
namespace TM
open PySem PV
section
variable {α β γ σ ρ τ : Type}
/-! ### reckoning with the mirror -/
def nats (n : Nat) : List Int := (List.range n).map fun k => ((k : Nat) : Int)
theorem rg0 (n : Nat) : rg 0 n = nats n := by
  unfold rg nats
  refine List.map_congr_left fun k _ => ?_
  rw [Int.zero_add]
theorem nats_len (n : Nat) : (nats n).length = n := by simp [nats]
theorem nats_get {n k : Nat} (h : k < n) : (nats n)[k]? = some (k : Int) := by simp [nats, h]
theorem nats_at {n k : Nat} {x : Int} (h : (nats n)[k]? = some x) : k < n ∧ x = k := by
  by_cases c : k < n
  · rw [nats_get c] at h; exact ⟨c, (Option.some.inj h).symm⟩
  · rw [List.getElem?_eq_none (by rw [nats_len]; omega)] at h; cases h
theorem rg_at {lo : Int} {n k : Nat} {x : Int} (h : (rg lo n)[k]? = some x) : k < n ∧ x = lo + k := by
  by_cases c : k < n
  · have : (rg lo n)[k]? = some (lo + k) := by simp [rg, c]
    rw [this] at h; exact ⟨c, (Option.some.inj h).symm⟩
  · rw [List.getElem?_eq_none (by simp [rg]; omega)] at h; cases h
theorem nats_mem {n : Nat} {x : Int} : x ∈ nats n ↔ 0 ≤ x ∧ x < n := by
  unfold nats
  rw [List.mem_map]
  constructor
  · rintro ⟨k, hk, rfl⟩; rw [List.mem_range] at hk; omega
  · intro h; exact ⟨x.toNat, List.mem_range.mpr (by omega), by omega⟩
theorem nats_succ (n : Nat) : nats (n + 1) = nats n ++ [(n : Int)] := by simp [nats, List.range_succ]
theorem rg_get {lo : Int} {n k : Nat} (h : k < n) : (rg lo n)[k]? = some (lo + k) := by simp [rg, h]
theorem rg_len (lo : Int) (n : Nat) : (rg lo n).length = n := by simp [rg]
theorem rg_mem {lo : Int} {n : Nat} {x : Int} : x ∈ rg lo n ↔ lo ≤ x ∧ x < lo + n := by
  unfold rg
  rw [List.mem_map]
  constructor
  · rintro ⟨k, hk, rfl⟩; rw [List.mem_range] at hk; omega
  · intro h; exact ⟨(x - lo).toNat, List.mem_range.mpr (by omega), by omega⟩
theorem rg1_ok {n : Int} (h : n < 2 ^ 62) (h0 : -(2 ^ 62) ≤ n) : rg1 n = .ok (nats n.toNat) := by
  unfold rg1
  rw [chk_ok ⟨h, h0⟩, rg0]
theorem rg1_nat {n : Nat} (h : (n : Int) < 2 ^ 62) : rg1 (n : Int) = .ok (nats n) := by
  rw [rg1_ok h (by omega), Int.toNat_natCast]
theorem rg2_ok {lo hi : Int} (h1 : hi < 2 ^ 62) (h2 : -(2 ^ 62) ≤ hi) (h3 : lo < 2 ^ 62) (h4 : -(2 ^ 62) ≤ lo) : rg2 lo hi = .ok (rg lo (hi - lo).toNat) := by
  unfold rg2
  rw [chk_ok ⟨⟨h1, h2⟩, h3, h4⟩]
theorem lrE_ok {n : Int} (h : 0 ≤ n) (h0 : n ≤ 16777216) : lrE n = .ok (nats n.toNat) := by
  unfold lrE
  rw [chk_ok ⟨h, h0⟩, rg0]
theorem appE_ok {xs : List α} {x : α} (h : xs.length < 16777216) : appE xs x = .ok (xs ++ [x]) := by unfold appE; exact chk_ok h
theorem catE_ok {xs ys : List α} (h : xs.length + ys.length ≤ 16777216) : catE xs ys = .ok (xs ++ ys) := by unfold catE; exact chk_ok h
theorem modE_ok {a b : Int} (h : 0 < b) : modE a b = .ok (a % b) := by unfold modE; exact chk_ok h
theorem divE_ok {a b : Int} (h : 0 < b) (h2 : b < 2 ^ 64) : divE a b = .ok (a / b) := by unfold divE; exact chk_ok ⟨h, h2⟩
theorem mulE_r {a b : Int} (h : -(2 ^ 64) < b) (h2 : b < 2 ^ 64) : mulE a b = .ok (a * b) := by
  unfold mulE
  refine chk_ok ?_
  unfold mulOk
  rw [Bool.or_eq_true, decide_eq_true_eq, decide_eq_true_eq]
  omega
theorem mulE_l {a b : Int} (h : -(2 ^ 64) < a) (h2 : a < 2 ^ 64) : mulE a b = .ok (a * b) := by
  unfold mulE
  refine chk_ok ?_
  unfold mulOk
  rw [Bool.or_eq_true, decide_eq_true_eq, decide_eq_true_eq]
  omega
theorem shlE_ok {a b : Int} (h : 0 ≤ b) (h2 : b ≤ 1000000) (h3 : -(2 ^ 64) < a) (h4 : a < 2 ^ 64) : shlE a b = .ok (a * 2 ^ b.toNat) := by
  unfold shlE
  exact chk_ok ⟨h, h2, by omega⟩
theorem shrE_ok {a b : Int} (h : 0 ≤ b) : shrE a b = .ok (a / 2 ^ b.toNat) := by unfold shrE; exact chk_ok h
theorem repE_ok {xs : List α} {n : Int} (h : 0 ≤ n) (h2 : n < 2 ^ 63) (h3 : xs.length * n.toNat ≤ 16777216) : repE xs n = .ok (List.replicate n.toNat xs).flatten := by unfold repE; exact chk_ok ⟨h, h2, h3⟩
theorem ixE_nat {xs : List α} {k : Nat} {a : α} (h : xs[k]? = some a) : ixE xs (k : Int) = .ok a := by unfold ixE; rw [L2.atI_nat h]
theorem ixE_at {xs : List α} {i : Int} {a : α} (h0 : 0 ≤ i) (h : xs[i.toNat]? = some a) : ixE xs i = .ok a := by
  have := ixE_nat h
  rwa [Int.toNat_of_nonneg h0] at this
theorem ixE_lt {xs : List α} {i : Int} (h0 : 0 ≤ i) (h1 : i < xs.length) : ixE xs i = .ok (xs[i.toNat]'(by omega)) := ixE_at h0 (List.getElem?_eq_getElem _)
theorem ixE_0 {a : α} {xs : List α} : ixE (a :: xs) 0 = .ok a := ixE_nat (k := 0) rfl
theorem ixE_1 {a b : α} {xs : List α} : ixE (a :: b :: xs) 1 = .ok b := ixE_nat (k := 1) rfl
theorem ixE_2 {a b c : α} {xs : List α} : ixE (a :: b :: c :: xs) 2 = .ok c := ixE_nat (k := 2) rfl
theorem ixE_3 {a b c d : α} {xs : List α} : ixE (a :: b :: c :: d :: xs) 3 = .ok d := ixE_nat (k := 3) rfl
theorem ixE_4 {a b c d e : α} {xs : List α} : ixE (a :: b :: c :: d :: e :: xs) 4 = .ok e := ixE_nat (k := 4) rfl
theorem ixE_5 {a b c d e f : α} {xs : List α} : ixE (a :: b :: c :: d :: e :: f :: xs) 5 = .ok f := ixE_nat (k := 5) rfl
theorem mapE_ok {g : α → β} {xs : List α} (h : xs.length ≤ 16777216) : mapE g xs = .ok (xs.map g) := by unfold mapE; exact chk_ok h
theorem filE_ok {c : α → Bool} {g : α → β} {xs : List α} (h : xs.length ≤ 16777216) : filE c g xs = .ok ((xs.filter c).map g) := by unfold filE; exact chk_ok h
theorem compG_ok {mc : α → E Bool} {mg : α → E β} {c : α → Bool} {g : α → β} : ∀ {xs : List α}, (∀ x ∈ xs, mc x = .ok (c x)) → (∀ x ∈ xs, c x = true → mg x = .ok (g x)) → compG mc mg xs = .ok ((xs.filter c).map g)
  | [], _, _ => rfl
  | x :: xs, h1, h2 => by
    have ih := compG_ok (xs := xs) (fun y hy => h1 y (List.mem_cons_of_mem _ hy)) (fun y hy => h2 y (List.mem_cons_of_mem _ hy))
    unfold compG
    rw [h1 x (List.mem_cons_self ..)]
    cases hc : c x with
    | true => simp only [h2 x (List.mem_cons_self ..) hc, ih, ok_bind, List.filter_cons, hc, if_true, List.map_cons]
    | false => simp only [ih, List.filter_cons, hc, Bool.false_eq_true, if_false]
theorem compE_ok {mc : α → E Bool} {mg : α → E β} {c : α → Bool} {g : α → β} {xs : List α} (h : xs.length ≤ 16777216) (h1 : ∀ x ∈ xs, mc x = .ok (c x)) (h2 : ∀ x ∈ xs, c x = true → mg x = .ok (g x)) : compE mc mg xs = .ok ((xs.filter c).map g) := by
  unfold compE
  rw [if_pos h, compG_ok h1 h2]
theorem comE_ok {mg : α → E β} {g : α → β} {xs : List α} (h : xs.length ≤ 16777216) (h2 : ∀ x ∈ xs, mg x = .ok (g x)) : comE mg xs = .ok (xs.map g) := by
  unfold comE
  rw [compE_ok (c := fun _ => true) (g := g) h (fun _ _ => rfl) (fun x hx _ => h2 x hx), List.filter_eq_self.mpr fun _ _ => rfl]
/-- some list, when each item gives something -/
theorem comE_ex {mg : α → E β} {xs : List α} (P : α → β → Prop) (h : xs.length ≤ 16777216) (h2 : ∀ x ∈ xs, ∃ y, mg x = .ok y ∧ P x y) : ∃ ys, comE mg xs = .ok ys ∧ ys.length = xs.length ∧ ∀ (i : Nat) (x : α) (y : β), xs[i]? = some x → ys[i]? = some y → P x y := by
  classical
  by_cases hx : xs = []
  · subst hx
    exact ⟨[], by unfold comE compE; rw [if_pos (by simp)]; rfl, rfl, fun i x y h => by simp at h⟩
  · obtain ⟨x0, hx0⟩ := List.exists_mem_of_ne_nil xs hx
    obtain ⟨y0, _⟩ := h2 x0 hx0
    let g : α → β := fun x => if q : x ∈ xs then (h2 x q).choose else y0
    have hg : ∀ x (q : x ∈ xs), mg x = .ok (g x) ∧ P x (g x) := fun x q => by
      have := (h2 x q).choose_spec
      show mg x = .ok (if q : x ∈ xs then _ else _) ∧ P x (if q : x ∈ xs then _ else _)
      rw [dif_pos q]
      exact this
    refine ⟨xs.map g, comE_ok h fun x q => (hg x q).1, by simp, fun i x y e1 e2 => ?_⟩
    rw [List.getElem?_map, e1] at e2
    cases e2
    exact (hg x (List.mem_of_getElem? e1)).2
theorem setE_nat {xs : List α} {k : Nat} {x : α} (h : k < xs.length) : setE xs (k : Int) x = .ok (xs.set k x) := by unfold setE; rw [ixn_nat k _ h]
theorem setE_ok {xs : List α} {i : Int} {x : α} (h0 : 0 ≤ i) (h : i < xs.length) : setE xs i x = .ok (xs.set i.toNat x) := by
  have := setE_nat (xs := xs) (k := i.toNat) (x := x) (by omega)
  rwa [Int.toNat_of_nonneg h0] at this
theorem popE_nat {xs : List α} {k : Nat} {a : α} (h : xs[k]? = some a) (hb : xs.length ≤ 16777216) : popE xs (k : Int) = .ok (a, xs.eraseIdx k) := by
  have hk : k < xs.length := (List.getElem?_eq_some_iff.mp h).1
  unfold popE
  have hs : seqIndex? (k : Int) xs.length = some k := by
    unfold seqIndex?
    simp (disch := omega) [hk]
    try omega
  rw [if_pos (by omega), hs]
  simp only [h]
theorem popE_0 {a : α} {xs : List α} : popE (a :: xs) 0 = .ok (a, xs) := by
  unfold popE
  have hs : seqIndex? 0 (a :: xs).length = some 0 := by
    unfold seqIndex?
    simp only [List.length_cons]
    simp
    try omega
  rw [if_pos (by decide), hs]
  rfl
theorem popE_at {xs : List α} {i : Int} {a : α} (h0 : 0 ≤ i) (h : xs[i.toNat]? = some a) (hb : xs.length ≤ 16777216) : popE xs i = .ok (a, xs.eraseIdx i.toNat) := by
  have := popE_nat h hb
  rwa [Int.toNat_of_nonneg h0] at this
/-! loops -/
theorem forE_inv {f : σ → α → E σ} (I : Nat → σ → Prop) : ∀ (xs : List α) (j : Nat) (s : σ), I j s → (∀ i x s, xs[i]? = some x → I (j + i) s → ∃ s', f s x = .ok s' ∧ I (j + i + 1) s') → ∃ s', forE f xs s = .ok s' ∧ I (j + xs.length) s'
  | [], j, s, h, _ => ⟨s, rfl, h⟩
  | x :: xs, j, s, h, hs => by
    obtain ⟨s1, h1, h2⟩ := hs 0 x s rfl h
    obtain ⟨s', e, q⟩ := forE_inv I xs (j + 1) s1 h2 fun i y s2 hy hi => by
      have := hs (i + 1) y s2 (by simpa using hy) (by rw [show j + (i + 1) = j + 1 + i by omega]; exact hi)
      rw [show j + (i + 1) = j + 1 + i by omega] at this
      exact this
    refine ⟨s', ?_, by rw [List.length_cons, show j + (xs.length + 1) = j + 1 + xs.length by omega]; exact q⟩
    unfold forE
    rw [h1, ok_bind]
    exact e
theorem forE_inv0 {f : σ → α → E σ} (I : Nat → σ → Prop) {xs : List α} {s : σ} (h : I 0 s) (hs : ∀ i x s, xs[i]? = some x → I i s → ∃ s', f s x = .ok s' ∧ I (i + 1) s') : ∃ s', forE f xs s = .ok s' ∧ I xs.length s' := by
  obtain ⟨s', e, q⟩ := forE_inv I xs 0 s h fun i x s h1 h2 => by
    rw [Nat.zero_add] at h2 ⊢
    exact hs i x s h1 h2
  exact ⟨s', e, by rwa [Nat.zero_add] at q⟩
theorem forE_fold {f : σ → α → E σ} {g : σ → α → σ} : ∀ {xs : List α} {s : σ}, (∀ s, ∀ x ∈ xs, f s x = .ok (g s x)) → forE f xs s = .ok (xs.foldl g s)
  | [], s, _ => rfl
  | x :: xs, s, h => by
    unfold forE
    rw [h s x (List.mem_cons_self ..), ok_bind]
    exact forE_fold fun s y hy => h s y (List.mem_cons_of_mem _ hy)
/-- a list grown by one item a turn -/
theorem forE_app {f : List β → α → E (List β)} {g : α → β} : ∀ {xs : List α} {s : List β}, s.length + xs.length ≤ 16777216 → (∀ s, ∀ x ∈ xs, f s x = (appE s (g x))) → forE f xs s = .ok (s ++ xs.map g)
  | [], s, _, _ => by simp [forE]
  | x :: xs, s, hl, h => by
    rw [List.length_cons] at hl
    unfold forE
    rw [h s x (List.mem_cons_self ..), appE_ok (by omega), ok_bind, forE_app (g := g) (by rw [List.length_append]; simp; omega) fun s y hy => h s y (List.mem_cons_of_mem _ hy)]
    simp
theorem forR_nx {f : σ → α → E (Fl σ ρ)} {g : σ → α → σ} : ∀ {xs : List α} {s : σ}, (∀ s, ∀ x ∈ xs, f s x = .ok (.nx (g s x))) → forR f xs s = .ok (.inl (xs.foldl g s))
  | [], s, _ => rfl
  | x :: xs, s, h => by
    unfold forR
    rw [h s x (List.mem_cons_self ..), ok_bind]
    exact forR_nx fun s y hy => h s y (List.mem_cons_of_mem _ hy)
theorem forR_inv {f : σ → α → E (Fl σ ρ)} (I : Nat → σ → Prop) : ∀ (xs : List α) (j : Nat) (s : σ), I j s → (∀ i x s, xs[i]? = some x → I (j + i) s → ∃ s', f s x = .ok (.nx s') ∧ I (j + i + 1) s') → ∃ s', forR f xs s = .ok (.inl s') ∧ I (j + xs.length) s'
  | [], j, s, h, _ => ⟨s, rfl, h⟩
  | x :: xs, j, s, h, hs => by
    obtain ⟨s1, h1, h2⟩ := hs 0 x s rfl h
    obtain ⟨s', e, q⟩ := forR_inv I xs (j + 1) s1 h2 fun i y s2 hy hi => by
      have := hs (i + 1) y s2 (by simpa using hy) (by rw [show j + (i + 1) = j + 1 + i by omega]; exact hi)
      rw [show j + (i + 1) = j + 1 + i by omega] at this
      exact this
    refine ⟨s', ?_, by rw [List.length_cons, show j + (xs.length + 1) = j + 1 + xs.length by omega]; exact q⟩
    unfold forR
    rw [h1, ok_bind]
    exact e
theorem forR_inv0 {f : σ → α → E (Fl σ ρ)} (I : Nat → σ → Prop) {xs : List α} {s : σ} (h : I 0 s) (hs : ∀ i x s, xs[i]? = some x → I i s → ∃ s', f s x = .ok (.nx s') ∧ I (i + 1) s') : ∃ s', forR f xs s = .ok (.inl s') ∧ I xs.length s' := by
  obtain ⟨s', e, q⟩ := forR_inv I xs 0 s h fun i x s h1 h2 => by
    rw [Nat.zero_add] at h2 ⊢
    exact hs i x s h1 h2
  exact ⟨s', e, by rwa [Nat.zero_add] at q⟩
/-! two lists, item by item -/
inductive All2 (R : α → β → Prop) : List α → List β → Prop
  | nil : All2 R [] []
  | cons {a : α} {b : β} {as : List α} {bs : List β} : R a b → All2 R as bs → All2 R (a :: as) (b :: bs)
theorem All2.hd {R : α → β → Prop} {as : List α} {b : β} {bs : List β} (h : All2 R as (b :: bs)) : ∃ a as', as = a :: as' ∧ R a b ∧ All2 R as' bs := by cases h with | cons r h => exact ⟨_, _, rfl, r, h⟩
theorem All2.nl {R : α → β → Prop} {as : List α} (h : All2 R as []) : as = [] := by cases h; rfl
theorem All2.length {R : α → β → Prop} : ∀ {as : List α} {bs : List β}, All2 R as bs → as.length = bs.length
  | _, _, .nil => rfl
  | _, _, .cons _ h => congrArg (· + 1) h.length
theorem All2.append {R : α → β → Prop} : ∀ {as : List α} {bs : List β} {cs : List α} {ds : List β}, All2 R as bs → All2 R cs ds → All2 R (as ++ cs) (bs ++ ds)
  | _, _, _, _, .nil, h => h
  | _, _, _, _, .cons r h, h2 => .cons r (h.append h2)
theorem All2.get {R : α → β → Prop} : ∀ {as : List α} {bs : List β} {i : Nat} {b : β}, All2 R as bs → bs[i]? = some b → ∃ a, as[i]? = some a ∧ R a b
  | _, _, _, _, .nil, e => by simp at e
  | _, _, 0, _, .cons r _, e => by simp at e; subst e; exact ⟨_, rfl, r⟩
  | _, _, i + 1, _, .cons _ h, e => h.get (i := i) (by simpa using e)
/-! bits -/
theorem bitAnd1 (x : Int) (h : 0 ≤ x) : Builtin.bitAnd x 1 = x % 2 := by
  obtain ⟨n, rfl⟩ := Int.eq_ofNat_of_zero_le h
  show Builtin.bitAnd (Int.ofNat n) (Int.ofNat 1) = _
  unfold Builtin.bitAnd
  show Int.ofNat (n &&& 1) = _
  rw [Nat.and_one_is_mod]
  rfl
end
/-! the law's own -/
theorem tru_of {F : List D → Res} {ns : List Int} {M : E Bool} (h : Sd (F [eScr ns]) M (vs .z eB)) (hm : M = .ok true) : F [scr ns] = .ok (.z, .bool true) := by
  subst hm
  exact h.run
end TM
namespace K62
open PySem PV TM

def mk_ROWS : Int := 2
def M_letter_count (table_1 : (Int × Int × (List (List (Int × Int))))) : E Int :=
 (shlE 1 (table_1.1))
theorem sd_letter_count (table_1 : (Int × Int × (List (List (Int × Int))))) : Sd (F_letter_count [(eP (nc eI (nc eI (n1 (eT (eT (eP (nc eI (n1 eI))))))))) table_1]) (M_letter_count table_1) (vs .z eI) :=
  sd_mk (d_ok (Γ0 := [some (.z, (eP (nc eI (nc eI (n1 (eT (eT (eP (nc eI (n1 eI))))))))) table_1)]) rfl rfl (t_ret (j_vf (j_v (j_o2 (o_f (j_c (.int 1) eI 1 rfl)) (o_f (j_v (j_o2 (o_f (j_n 0 (eP (nc eI (nc eI (n1 (eT (eT (eP (nc eI (n1 eI))))))))) table_1 rfl)) (o_f (j_c (.int 0) eI 0 rfl)) (fun _ _ _ h => q_pj (e1 := eI) (fun (p : (Int × Int × (List (List (Int × Int))))) => (p.1)) 0 (ixn_nat 0) (fun _ => rfl) _ h)))) (fun _ _ _ _ => q_shl _ _)))))) (by unfold M_letter_count; simp only [TM.bind_assoc, ok_bind, bind_ok_r, nex_ok])
def M_state_count (table_1 : (Int × Int × (List (List (Int × Int))))) : E Int :=
 (E.ok ((table_1.2.2).length : Int))
theorem sd_state_count (table_1 : (Int × Int × (List (List (Int × Int))))) : Sd (F_state_count [(eP (nc eI (nc eI (n1 (eT (eT (eP (nc eI (n1 eI))))))))) table_1]) (M_state_count table_1) (vs .z eI) :=
  sd_mk (d_ok (Γ0 := [some (.z, (eP (nc eI (nc eI (n1 (eT (eT (eP (nc eI (n1 eI))))))))) table_1)]) rfl rfl (t_ret (j_vf (j_v (j_b1 (o_f (j_v (j_o2 (o_f (j_n 0 (eP (nc eI (nc eI (n1 (eT (eT (eP (nc eI (n1 eI))))))))) table_1 rfl)) (o_f (j_c kd_ROWS eI mk_ROWS rfl)) (fun _ _ _ h => q_pjn (e1 := (eT (eT (eP (nc eI (n1 eI)))))) (fun (p : (Int × Int × (List (List (Int × Int))))) => (p.2.2)) 2 3 (fun _ => rfl) (by decide) (fun _ => rfl) _ h)))) (fun _ _ => q_lenT _)))))) (by unfold M_state_count; simp only [TM.bind_assoc, ok_bind, bind_ok_r, nex_ok])
def B_check_states_1 (table_1 : (Int × Int × (List (List (Int × Int))))) : ((Unit)) → (Int) → E (Unit) := fun s_3 state_4 =>
 (E.bind (E.bind (if (decide (0 ≤ state_4)) = true then (E.bind (M_state_count table_1) fun t_5 => E.ok (decide (state_4 < t_5))) else E.ok false) fun t_6 =>
 (E.ok (!t_6))) fun t_7 =>
 (if t_7 = true then
 (E.ex ⟨(S "NoSuchThing"), []⟩)
 else
 (E.ok ())))
def M_check_states (table_1 : (Int × Int × (List (List (Int × Int))))) (states_2 : (List Int)) : E Unit :=
 (E.bind (forE (σ := Unit) (B_check_states_1 table_1) states_2 ()) fun s_8 =>
 (E.ok ()))
theorem sd_check_states (table_1 : (Int × Int × (List (List (Int × Int))))) (states_2 : (List Int)) : Sd (F_check_states [(eP (nc eI (nc eI (n1 (eT (eT (eP (nc eI (n1 eI))))))))) table_1, (eL eI) states_2]) (M_check_states table_1 states_2) (vs .z eN) :=
  sd_mk (d_ok (Γ0 := [some (.z, (eP (nc eI (nc eI (n1 (eT (eT (eP (nc eI (n1 eI))))))))) table_1), some (.z, (eL eI) states_2), none]) rfl rfl (t_pre (t_for (σ := Unit) (fun s_3 => [some (.z, (eP (nc eI (nc eI (n1 (eT (eT (eP (nc eI (n1 eI))))))))) table_1), some (.z, (eL eI) states_2), none]) () (i_l (j_n 1 (eL eI) states_2 rfl)) (fun s_3 state_4 => ⟨_, rfl, t_wp (t_if (j_not (j_bf (j_ch (o_f (j_c (.int 0) eI 0 rfl)) (o_f (j_n 2 eI state_4 rfl)) (o_f (j_v (j_call (M := M_state_count) (f_1 (j_n 0 (eP (nc eI (nc eI (n1 (eT (eT (eP (nc eI (n1 eI))))))))) table_1 rfl)) sd_state_count (fun _ => rfl)))) (fun _ _ => q_le _ _) (fun _ _ => q_lt _ _)))) (t_raise _) (t_nx (t_end (s := ()) ⟨_, .inl rfl, rfl⟩)))⟩) (fun s_8 => (t_end (s := ()) (.inr ⟨⟨_, rfl⟩, rfl⟩)))))) (by unfold M_check_states; delta B_check_states_1; simp only [TM.bind_assoc, ok_bind, bind_ok_r, nex_ok])
def M_step (table_1 : (Int × Int × (List (List (Int × Int))))) (state_2 : Int) (letter_3 : Int) : E (Int × Int) :=
 (E.bind (ixE (table_1.2.2) state_2) fun t_4 =>
 (ixE t_4 letter_3))
theorem sd_step (table_1 : (Int × Int × (List (List (Int × Int))))) (state_2 : Int) (letter_3 : Int) : Sd (F_step [(eP (nc eI (nc eI (n1 (eT (eT (eP (nc eI (n1 eI))))))))) table_1, eI state_2, eI letter_3]) (M_step table_1 state_2 letter_3) (vs .z (eP (nc eI (n1 eI)))) :=
  sd_mk (d_ok (Γ0 := [some (.z, (eP (nc eI (nc eI (n1 (eT (eT (eP (nc eI (n1 eI))))))))) table_1), some (.z, eI state_2), some (.z, eI letter_3)]) rfl rfl (t_ret (j_vf (j_v (j_o2 (o_f (j_v (j_o2 (o_f (j_v (j_o2 (o_f (j_n 0 (eP (nc eI (nc eI (n1 (eT (eT (eP (nc eI (n1 eI))))))))) table_1 rfl)) (o_f (j_c kd_ROWS eI mk_ROWS rfl)) (fun _ _ _ h => q_pjn (e1 := (eT (eT (eP (nc eI (n1 eI)))))) (fun (p : (Int × Int × (List (List (Int × Int))))) => (p.2.2)) 2 3 (fun _ => rfl) (by decide) (fun _ => rfl) _ h)))) (o_f (j_n 1 eI state_2 rfl)) (fun _ _ _ _ => q_ixT _ _)))) (o_f (j_n 2 eI letter_3 rfl)) (fun _ _ _ _ => q_ixT _ _)))))) (by unfold M_step; simp only [TM.bind_assoc, ok_bind, bind_ok_r, nex_ok])
def B_search_1 (one_1 : (Int × Int × (List (List (Int × Int))))) (q_9 : (Int × Int)) (other_3 : (Int × Int × (List (List (Int × Int))))) : (((List ((Int × Int) × (List Int))) × (List (Int × Int)))) → (Int) → E (Fl ((List ((Int × Int) × (List Int))) × (List (Int × Int))) ((List (Int × Int)) × (Option (List Int)))) := fun s_12 letter_13 =>
 (E.bind (M_step one_1 (q_9.1) letter_13) fun q_14 =>
 (E.bind (M_step other_3 (q_9.2) letter_13) fun q_15 =>
 (E.bind (E.bind (E.ofO (lookD (s_12.1) ((q_9.1), (q_9.2)))) fun t_17 =>
 (catE t_17 [letter_13])) fun word_16 =>
 (if (!decide ((q_14.2) = (q_15.2))) = true then
 (E.bind (E.ok ((s_12.2), (some word_16))) fun r_18 => E.ok (Fl.rt r_18))
 else
 (if (!(lookD (s_12.1) ((q_14.1), (q_15.1))).isSome) = true then
 (E.bind (putDE (s_12.1) ((q_14.1), (q_15.1)) word_16) fun words_19 =>
 (E.bind (appE (s_12.2) ((q_14.1), (q_15.1))) fun pairs_20 =>
 (E.ok (Fl.nx (words_19, pairs_20)))))
 else
 (E.ok (Fl.nx ((s_12.1), (s_12.2)))))))))
def B_search_2 (one_1 : (Int × Int × (List (List (Int × Int))))) (other_3 : (Int × Int × (List (List (Int × Int))))) : (((List ((Int × Int) × (List Int))) × (List (Int × Int)) × Int)) → E (Fl ((List ((Int × Int) × (List Int))) × (List (Int × Int)) × Int) ((List (Int × Int)) × (Option (List Int)))) := fun s_8 =>
 (E.bind (ixE (s_8.2.1) (s_8.2.2)) fun q_9 =>
 (E.bind (E.bind (E.bind (M_letter_count one_1) fun t_11 =>
 (rg1 t_11)) fun t_23 =>
 (forR (σ := (List ((Int × Int) × (List Int))) × (List (Int × Int))) (ρ := ((List (Int × Int)) × (Option (List Int)))) (B_search_1 one_1 q_9 other_3) t_23 ((s_8.1), (s_8.2.1)))) (Sum.elim (fun s_21 =>
 (E.bind (E.ok ((s_8.2.2) + 1)) fun at_22 =>
 (E.ok (Fl.nx ((s_21.1), (s_21.2), at_22))))) (fun r_24 => E.ok (Fl.rt r_24)))))
def C_search_1  : (((List ((Int × Int) × (List Int))) × (List (Int × Int)) × Int)) → E Bool := fun s_8 =>
 (E.ok (decide ((s_8.2.2) < ((s_8.2.1).length : Int))))
def M_search (one_1 : (Int × Int × (List (List (Int × Int))))) (first_2 : Int) (other_3 : (Int × Int × (List (List (Int × Int))))) (second_4 : Int) : E ((List (Int × Int)) × (Option (List Int))) :=
 (E.bind (E.ok [((first_2, second_4), [])]) fun words_5 =>
 (E.bind (E.ok [(first_2, second_4)]) fun pairs_6 =>
 (E.bind (E.ok 0) fun at_7 =>
 (E.bind (whileR (σ := (List ((Int × Int) × (List Int))) × (List (Int × Int)) × Int) (ρ := ((List (Int × Int)) × (Option (List Int)))) C_search_1 (B_search_2 one_1 other_3) fuel (words_5, pairs_6, at_7)) (Sum.elim (fun s_25 =>
 (E.ok ((s_25.2.1), none))) (fun r_26 => E.ok r_26))))))
theorem sd_search (one_1 : (Int × Int × (List (List (Int × Int))))) (first_2 : Int) (other_3 : (Int × Int × (List (List (Int × Int))))) (second_4 : Int) : Sd (F_search [(eP (nc eI (nc eI (n1 (eT (eT (eP (nc eI (n1 eI))))))))) one_1, eI first_2, (eP (nc eI (nc eI (n1 (eT (eT (eP (nc eI (n1 eI))))))))) other_3, eI second_4]) (M_search one_1 first_2 other_3 second_4) (vs (.t (.c .z (.c (.n (.l .z)) .u))) (eP (nc (eL (eP (nc eI (n1 eI)))) (n1 (eO (eL eI)))))) :=
  sd_mk (d_ok (Γ0 := [some (.z, (eP (nc eI (nc eI (n1 (eT (eT (eP (nc eI (n1 eI))))))))) one_1), some (.z, eI first_2), some (.z, (eP (nc eI (nc eI (n1 (eT (eT (eP (nc eI (n1 eI))))))))) other_3), some (.z, eI second_4), none, none, none, none, none, none, none, none, none, none, none]) rfl rfl (t_seq (t_asg 4 (j_tct1 (kt_P (kr_c ky_I (kr_1 ky_I))) (j_tup 2 (f_c (j_n 1 eI first_2 rfl) (f_1 (j_n 3 eI second_4 rfl))) (by decide) (fun _ => rfl)) (j_v (j_lst 0 (f_l0 eI) (by decide) hl_0))) (fun words_5 => (t_seq (t_asg 5 (j_lst 1 (f_lc (j_tup 2 (f_c (j_n 1 eI first_2 rfl) (f_1 (j_n 3 eI second_4 rfl))) (by decide) (fun _ => rfl)) (f_l0 (eP (nc eI (n1 eI))))) (by decide) (hl_c hl_0)) (fun pairs_6 => (t_seq (t_asg 6 (j_vf (j_c (.int 0) eI 0 rfl)) (fun at_7 => (t_seq (t_wkL (t_pre (t_whileR (σ := (List ((Int × Int) × (List Int))) × (List (Int × Int)) × Int) (ez := (vs (.t (.c .z (.c (.n (.l .z)) .u))) (eP (nc (eL (eP (nc eI (n1 eI)))) (n1 (eO (eL eI))))))) (fun s_8 => [some (.z, (eP (nc eI (nc eI (n1 (eT (eT (eP (nc eI (n1 eI))))))))) one_1), some (.z, eI first_2), some (.z, (eP (nc eI (nc eI (n1 (eT (eT (eP (nc eI (n1 eI))))))))) other_3), some (.z, eI second_4), some ((.e .z), (eDT (eP (nc eI (n1 eI))) (eL eI)) (s_8.1)), some ((.l .z), (eL (eP (nc eI (n1 eI)))) (s_8.2.1)), some (.z, eI (s_8.2.2)), none, none, none, none, none, none, none, none]) (words_5, pairs_6, at_7) rfl (fun s_8 => (j_bv (j_o2 (o_f (j_n 6 eI (s_8.2.2) rfl)) (o_f (j_v (j_b1 (o_b 5 _ (eL (eP (nc eI (n1 eI)))) (s_8.2.1) rfl (by rfl)) (fun _ _ => q_lenL _)))) (fun _ _ _ _ => q_lt _ _)))) (fun s_8 => t_wpR (t_seq (t_tgt _ (j_v (j_o2 (o_b 5 _ (eL (eP (nc eI (n1 eI)))) (s_8.2.1) rfl (by rfl)) (o_f (j_n 6 eI (s_8.2.2) rfl)) (fun _ _ _ _ => q_ixL _ _))) (fun _ => rfl) (fun q_9 => (t_seq (t_pre (t_forR (σ := (List ((Int × Int) × (List Int))) × (List (Int × Int))) (ez := (vs (.t (.c .z (.c (.n (.l .z)) .u))) (eP (nc (eL (eP (nc eI (n1 eI)))) (n1 (eO (eL eI))))))) (fun s_12 => [some (.z, (eP (nc eI (nc eI (n1 (eT (eT (eP (nc eI (n1 eI))))))))) one_1), some (.z, eI first_2), some (.z, (eP (nc eI (nc eI (n1 (eT (eT (eP (nc eI (n1 eI))))))))) other_3), some (.z, eI second_4), some ((.e .z), (eDT (eP (nc eI (n1 eI))) (eL eI)) (s_12.1)), some ((.l .z), (eL (eP (nc eI (n1 eI)))) (s_12.2)), some (.z, eI (s_8.2.2)), some (.z, eI (q_9.1)), some (.z, eI (q_9.2)), none, none, none, none, none, none]) ((s_8.1), (s_8.2.1)) (i_r1 (f_1 (j_v (j_call (M := M_letter_count) (f_1 (j_n 0 (eP (nc eI (nc eI (n1 (eT (eT (eP (nc eI (n1 eI))))))))) one_1 rfl)) sd_letter_count (fun _ => rfl))))) (fun s_12 letter_13 => ⟨_, rfl, t_wpR (t_seq (t_tgt _ (j_v (j_call (M := (fun (p : ((Int × Int × (List (List (Int × Int)))) × Int × Int)) => M_step (p.1) (p.2.1) (p.2.2))) (f_c (j_n 0 (eP (nc eI (nc eI (n1 (eT (eT (eP (nc eI (n1 eI))))))))) one_1 rfl) (f_c (j_n 7 eI (q_9.1) rfl) (f_1 (j_n 9 eI letter_13 rfl)))) (fun (p : ((Int × Int × (List (List (Int × Int)))) × Int × Int)) => sd_step (p.1) (p.2.1) (p.2.2)) (fun _ => rfl))) (fun _ => rfl) (fun q_14 => (t_seq (t_tgt _ (j_v (j_call (M := (fun (p : ((Int × Int × (List (List (Int × Int)))) × Int × Int)) => M_step (p.1) (p.2.1) (p.2.2))) (f_c (j_n 2 (eP (nc eI (nc eI (n1 (eT (eT (eP (nc eI (n1 eI))))))))) other_3 rfl) (f_c (j_n 8 eI (q_9.2) rfl) (f_1 (j_n 9 eI letter_13 rfl)))) (fun (p : ((Int × Int × (List (List (Int × Int)))) × Int × Int)) => sd_step (p.1) (p.2.1) (p.2.2)) (fun _ => rfl))) (fun _ => rfl) (fun q_15 => (t_seq (t_asg 14 (j_o2 (o_f (j_tat (kt_P (kr_c ky_I (kr_1 ky_I))) (eL eI) 4 (s_12.1) ⟨_, rfl⟩ (j_tup 2 (f_c (j_n 7 eI (q_9.1) rfl) (f_1 (j_n 8 eI (q_9.2) rfl))) (by decide) (fun _ => rfl)) rfl)) (o_f (j_v (j_lst 1 (f_lc (j_n 9 eI letter_13 rfl) (f_l0 eI)) (by decide) (hl_c hl_0)))) (fun _ _ _ _ => q_addL _ _)) (fun word_16 => (t_seq (t_if (j_bv (j_o2 (o_f (j_n 11 eI (q_14.2) rfl)) (o_f (j_n 13 eI (q_15.2) rfl)) (fun _ _ _ _ => q_neI _ _))) (t_wk0L (t_wkS 4 .z _ _ rfl rfl (t_wk0L (t_wkS 5 .z _ _ rfl rfl (t_retL (w := Fl.rt) (j_tupV (es' := (nc (eL (eP (nc eI (n1 eI)))) (n1 (eO (eL eI))))) (.c .z (.c (.n (.l .z)) .u)) 2 (w_c (j_vf (j_n 5 (eL (eP (nc eI (n1 eI)))) (s_12.2) rfl)) (w_1 (j_someV (j_as (.n (.l .z)) (j_mv 14 _ (eL eI) word_16 rfl) (fun _ => rfl))))) (by decide) (fun _ => rfl) (fun _ => rfl) (fun _ => rfl)) (fun _ => ⟨_, rfl⟩)))))) (t_wk0L (t_wkS 14 .z _ _ rfl rfl (t_nx (t_if (j_bf (j_tnin (kt_P (kr_c ky_I (kr_1 ky_I))) (eL eI) 4 (s_12.1) (j_tup 2 (f_c (j_n 10 eI (q_14.1) rfl) (f_1 (j_n 12 eI (q_15.1) rfl))) (by decide) (fun _ => rfl)) rfl)) (t_seq (t_tput (kt_P (kr_c ky_I (kr_1 ky_I))) (eL eI) 4 (s_12.1) (j_n 14 (eL eI) word_16 rfl) ⟨_, rfl⟩ (j_tup 2 (f_c (j_n 10 eI (q_14.1) rfl) (f_1 (j_n 12 eI (q_15.1) rfl))) (by decide) (fun _ => rfl)) rfl (fun words_19 => (t_app 5 (eP (nc eI (n1 eI))) (s_12.2) ⟨_, rfl⟩ (j_tup 2 (f_c (j_n 10 eI (q_14.1) rfl) (f_1 (j_n 12 eI (q_15.1) rfl))) (by decide) (fun _ => rfl)) rfl (fun pairs_20 => (t_end (s := Fl.nx (words_19, pairs_20)) ⟨_, .inl rfl, rfl⟩)))))) (t_nx (t_end (s := Fl.nx ((s_12.1), (s_12.2))) ⟨_, .inl rfl, rfl⟩)))))))))))))))))⟩) (fun s_21 => (t_aug (e0 := eI) (e2 := eI) (mo := fun x y => .ok (x + y)) 6 (s_8.2.2) rfl (j_c (.int 1) eI 1 rfl) (fun _ => q_addi _ _) (fun at_22 => (t_end (s := Fl.nx ((s_21.1), (s_21.2), at_22)) ⟨_, .inl rfl, rfl⟩)))) hr_l))))))) (fun s_25 => (t_wkS 5 .z _ _ rfl rfl (t_ret (j_tupV (es' := (nc (eL (eP (nc eI (n1 eI)))) (n1 (eO (eL eI))))) (.c .z (.c (.n (.l .z)) .u)) 2 (w_c (j_vf (j_n 5 (eL (eP (nc eI (n1 eI)))) (s_25.2.1) rfl)) (w_1 (j_asN (.l .z) (eO (eL eI)) (j_c .none (eO (eL eI)) none rfl)))) (by decide) (fun _ => rfl) (fun _ => rfl) (fun _ => rfl))))) hr_f)))))))))))))) (by unfold M_search; delta C_search_1; delta B_search_2; delta B_search_1; simp only [TM.bind_assoc, ok_bind, bind_ok_r, nex_ok])
def B_next_round_1 (classes_2 : (List Int)) : (((List ((List (Int × Int)) × Int)) × (List Int))) → ((Int × (List (Int × Int)))) → E ((List ((List (Int × Int)) × Int)) × (List Int)) := fun s_5 x_6 =>
 (E.bind (E.bind (comE (β := (Int × Int)) (fun x_8 =>
 (E.bind (ixE classes_2 (x_8.1)) fun t_9 =>
 (E.ok ((x_8.2), t_9)))) (x_6.2)) fun t_10 =>
 (E.ok t_10)) fun mark_7 =>
 (E.bind (setdTE (s_5.1) mark_7 (x_6.1)) fun p_11 =>
 (E.bind (appE (s_5.2) p_11.1) fun following_12 =>
 (E.ok (p_11.2, following_12)))))
def M_next_round (table_1 : (Int × Int × (List (List (Int × Int))))) (classes_2 : (List Int)) : E (List Int) :=
 (E.bind (E.ok []) fun firsts_3 =>
 (E.bind (E.ok []) fun following_4 =>
 (E.bind (forE (σ := (List ((List (Int × Int)) × Int)) × (List Int)) (B_next_round_1 classes_2) (enum (table_1.2.2)) (firsts_3, following_4)) fun s_13 =>
 (E.ok (s_13.2)))))
theorem sd_next_round (table_1 : (Int × Int × (List (List (Int × Int))))) (classes_2 : (List Int)) : Sd (F_next_round [(eP (nc eI (nc eI (n1 (eT (eT (eP (nc eI (n1 eI))))))))) table_1, (eL eI) classes_2]) (M_next_round table_1 classes_2) (vs .z (eL eI)) :=
  sd_mk (d_ok (Γ0 := [some (.z, (eP (nc eI (nc eI (n1 (eT (eT (eP (nc eI (n1 eI))))))))) table_1), some (.z, (eL eI) classes_2), none, none, none, none, none, none, none]) rfl rfl (t_seq (t_asg 2 (j_vnct0 (eT (eP (nc eI (n1 eI)))) eI) (fun firsts_3 => (t_seq (t_asg 3 (j_lst 0 (f_l0 eI) (by decide) hl_0) (fun following_4 => (t_seq (t_wkL (t_pre (t_for (σ := (List ((List (Int × Int)) × Int)) × (List Int)) (fun s_5 => [some (.z, (eP (nc eI (nc eI (n1 (eT (eT (eP (nc eI (n1 eI))))))))) table_1), some (.z, (eL eI) classes_2), some (.q, (eDN (eT (eP (nc eI (n1 eI)))) eI) (s_5.1)), some ((.l .z), (eL eI) (s_5.2)), none, none, none, none, none]) (firsts_3, following_4) (i_enT (f_1 (j_v (j_o2 (o_f (j_n 0 (eP (nc eI (nc eI (n1 (eT (eT (eP (nc eI (n1 eI))))))))) table_1 rfl)) (o_f (j_c kd_ROWS eI mk_ROWS rfl)) (fun _ _ _ h => q_pjn (e1 := (eT (eT (eP (nc eI (n1 eI)))))) (fun (p : (Int × Int × (List (List (Int × Int))))) => (p.2.2)) 2 3 (fun _ => rfl) (by decide) (fun _ => rfl) _ h))))) (fun s_5 x_6 => ⟨_, rfl, t_wp (t_seq (t_asg 6 (j_vf (j_v (j_b1 (o_f (j_v (j_compE (ey := (eP (nc eI (n1 eI)))) (i_t (j_n 5 (eT (eP (nc eI (n1 eI)))) (x_6.2) rfl)) (fun x_8 => ⟨_, _, rfl, (j_tup 2 (f_c (j_n 8 eI (x_8.2) rfl) (f_1 (j_v (j_o2 (o_f (j_n 1 (eL eI) classes_2 rfl)) (o_f (j_n 7 eI (x_8.1) rfl)) (fun _ _ _ _ => q_ixL _ _))))) (by decide) (fun _ => rfl)), rfl, rfl⟩) rfl))) (fun _ _ => q_tupL _)))) (fun mark_7 => (t_appG (β := Int × (List ((List (Int × Int)) × Int))) (v := fun p => p.1) 3 eI (s_5.2) ⟨_, rfl⟩ (g_sn (n := 2) (ev := eI) 2 (nk_T (nk_P (nk_nc nk_I (nk_n1 nk_I)))) (by decide) (fun _ => ⟨_, rfl⟩) (s_5.1) rfl (j_n 6 (eT (eP (nc eI (n1 eI)))) mark_7 rfl) (j_n 4 eI (x_6.1) rfl) rfl) (fun _ => rfl) (fun p_11 following_12 => (t_end (s := (p_11.2, following_12)) ⟨_, .inl rfl, rfl⟩))))))⟩) (fun s_13 => (t_wkS 3 .z _ _ rfl rfl (t_ret (j_vf (j_n 3 (eL eI) (s_13.2) rfl)))))))))))))))) (by unfold M_next_round; delta B_next_round_1; simp only [TM.bind_assoc, ok_bind, bind_ok_r, nex_ok])
def B_class_rounds_1 (table_1 : (Int × Int × (List (List (Int × Int))))) : (((List (List Int)) × (List Int))) → E ((List (List Int)) × (List Int)) := fun s_8 =>
 (E.bind (appE (s_8.1) (s_8.2)) fun rounds_10 =>
 (E.bind (M_next_round table_1 (s_8.2)) fun following_11 =>
 (E.ok (rounds_10, following_11))))
def C_class_rounds_1  : (((List (List Int)) × (List Int))) → E Bool := fun s_8 =>
 (E.bind (ixE (s_8.1) (-1)) fun t_9 =>
 (E.ok (!decide ((s_8.2) = t_9))))
def M_class_rounds (table_1 : (Int × Int × (List (List (Int × Int))))) : E (List (List Int)) :=
 (E.bind (E.bind (mapE (β := Int) (fun _3 =>
 0) (table_1.2.2)) fun t_4 =>
 (E.ok [t_4])) fun rounds_2 =>
 (E.bind (E.bind (ixE rounds_2 0) fun t_7 =>
 (M_next_round table_1 t_7)) fun following_5 =>
 (E.bind (whileE (σ := (List (List Int)) × (List Int)) C_class_rounds_1 (B_class_rounds_1 table_1) fuel (rounds_2, following_5)) fun s_12 =>
 (E.ok (s_12.1)))))
theorem sd_class_rounds (table_1 : (Int × Int × (List (List (Int × Int))))) : Sd (F_class_rounds [(eP (nc eI (nc eI (n1 (eT (eT (eP (nc eI (n1 eI))))))))) table_1]) (M_class_rounds table_1) (vs .z (eL (eL eI))) :=
  sd_mk (d_ok (Γ0 := [some (.z, (eP (nc eI (nc eI (n1 (eT (eT (eP (nc eI (n1 eI))))))))) table_1), none, none, none]) rfl rfl (t_seq (t_asg 1 (j_lst 1 (f_lc (j_v (j_compM (ey := eI) (i_t (j_v (j_o2 (o_f (j_n 0 (eP (nc eI (nc eI (n1 (eT (eT (eP (nc eI (n1 eI))))))))) table_1 rfl)) (o_f (j_c kd_ROWS eI mk_ROWS rfl)) (fun _ _ _ h => q_pjn (e1 := (eT (eT (eP (nc eI (n1 eI)))))) (fun (p : (Int × Int × (List (List (Int × Int))))) => (p.2.2)) 2 3 (fun _ => rfl) (by decide) (fun _ => rfl) _ h)))) (fun _3 => ⟨_, _, rfl, (j_c (.int 0) eI 0 rfl), rfl, rfl⟩) rfl)) (f_l0 (eL eI))) (by decide) (hl_c hl_0)) (fun rounds_2 => (t_seq (t_asg 2 (j_vf (j_v (j_call (M := (fun (p : ((Int × Int × (List (List (Int × Int)))) × (List Int))) => M_next_round (p.1) (p.2))) (f_c (j_n 0 (eP (nc eI (nc eI (n1 (eT (eT (eP (nc eI (n1 eI))))))))) table_1 rfl) (f_1 (j_v (j_o2 (o_b 1 _ (eL (eL eI)) rounds_2 rfl (by rfl)) (o_f (j_c (.int 0) eI 0 rfl)) (fun _ _ _ _ => q_ixL _ _))))) (fun (p : ((Int × Int × (List (List (Int × Int)))) × (List Int))) => sd_next_round (p.1) (p.2)) (fun _ => rfl)))) (fun following_5 => (t_seq (t_wkL (t_pre (t_while (σ := (List (List Int)) × (List Int)) (fun s_8 => [some (.z, (eP (nc eI (nc eI (n1 (eT (eT (eP (nc eI (n1 eI))))))))) table_1), some ((.l .z), (eL (eL eI)) (s_8.1)), some (.z, (eL eI) (s_8.2)), none]) (rounds_2, following_5) rfl (fun s_8 => (j_bv (j_o2 (o_f (j_n 2 (eL eI) (s_8.2) rfl)) (o_f (j_v (j_o2 (o_b 1 _ (eL (eL eI)) (s_8.1) rfl (by rfl)) (o_f (j_neg (j_c (.int 1) eI 1 rfl))) (fun _ _ _ _ => q_ixL _ _)))) (fun _ _ _ _ => q_ne (eq_L eq_I) (by decide) _ _)))) (fun s_8 => t_wp (t_seq (t_app 1 (eL eI) (s_8.1) ⟨_, rfl⟩ (j_n 2 (eL eI) (s_8.2) rfl) rfl (fun rounds_10 => (t_asg 2 (j_vf (j_v (j_call (M := (fun (p : ((Int × Int × (List (List (Int × Int)))) × (List Int))) => M_next_round (p.1) (p.2))) (f_c (j_n 0 (eP (nc eI (nc eI (n1 (eT (eT (eP (nc eI (n1 eI))))))))) table_1 rfl) (f_1 (j_n 2 (eL eI) (s_8.2) rfl))) (fun (p : ((Int × Int × (List (List (Int × Int)))) × (List Int))) => sd_next_round (p.1) (p.2)) (fun _ => rfl)))) (fun following_11 => (t_end (s := (rounds_10, following_11)) ⟨_, .inl rfl, rfl⟩))))))) (fun s_12 => (t_wkS 1 .z _ _ rfl rfl (t_ret (j_vf (j_n 1 (eL (eL eI)) (s_12.1) rfl)))))))))))))))) (by unfold M_class_rounds; delta C_class_rounds_1; delta B_class_rounds_1; simp only [TM.bind_assoc, ok_bind, bind_ok_r, nex_ok])
def M_telling_word (table_1 : (Int × Int × (List (List (Int × Int))))) (a_2 : Int) (b_3 : Int) : E (Option (List Int)) :=
 (E.bind (M_check_states table_1 [a_2, b_3]) fun u_4 =>
 (E.bind (M_search table_1 a_2 table_1 b_3) fun t_5 =>
 (E.ok (t_5.2))))
theorem sd_telling_word (table_1 : (Int × Int × (List (List (Int × Int))))) (a_2 : Int) (b_3 : Int) : Sd (F_telling_word [(eP (nc eI (nc eI (n1 (eT (eT (eP (nc eI (n1 eI))))))))) table_1, eI a_2, eI b_3]) (M_telling_word table_1 a_2 b_3) (vs (.n (.l .z)) (eO (eL eI))) :=
  sd_mk (d_ok (Γ0 := [some (.z, (eP (nc eI (nc eI (n1 (eT (eT (eP (nc eI (n1 eI))))))))) table_1), some (.z, eI a_2), some (.z, eI b_3)]) rfl rfl (t_seq (t_exp (j_v (j_call (M := (fun (p : ((Int × Int × (List (List (Int × Int)))) × (List Int))) => M_check_states (p.1) (p.2))) (f_c (j_n 0 (eP (nc eI (nc eI (n1 (eT (eT (eP (nc eI (n1 eI))))))))) table_1 rfl) (f_1 (j_v (j_lst 2 (f_lc (j_n 1 eI a_2 rfl) (f_lc (j_n 2 eI b_3 rfl) (f_l0 eI))) (by decide) (hl_c (hl_c hl_0)))))) (fun (p : ((Int × Int × (List (List (Int × Int)))) × (List Int))) => sd_check_states (p.1) (p.2)) (fun _ => rfl))) (fun u_4 => (t_ret (j_ixT (e := (eO (eL eI))) 1 2 (fun (p : ((List (Int × Int)) × (Option (List Int)))) => (p.2)) (j_call (M := (fun (p : ((Int × Int × (List (List (Int × Int)))) × Int × (Int × Int × (List (List (Int × Int)))) × Int)) => M_search (p.1) (p.2.1) (p.2.2.1) (p.2.2.2))) (f_c (j_n 0 (eP (nc eI (nc eI (n1 (eT (eT (eP (nc eI (n1 eI))))))))) table_1 rfl) (f_c (j_n 1 eI a_2 rfl) (f_c (j_n 0 (eP (nc eI (nc eI (n1 (eT (eT (eP (nc eI (n1 eI))))))))) table_1 rfl) (f_1 (j_n 2 eI b_3 rfl))))) (fun (p : ((Int × Int × (List (List (Int × Int)))) × Int × (Int × Int × (List (List (Int × Int)))) × Int)) => sd_search (p.1) (p.2.1) (p.2.2.1) (p.2.2.2)) (fun _ => rfl)) (j_c (.int 1) eI 1 rfl) (fun _ => rfl) (fun _ => rfl) rfl rfl)))))) (by unfold M_telling_word; simp only [TM.bind_assoc, ok_bind, bind_ok_r, nex_ok])
def M_law_far (script_1 : (List Int)) (k_2 : Int) : E Int :=
 (if (decide ((script_1.length : Int) = 0)) = true then
 (E.ok ((97 * k_2) + 5))
 else
 (if (decide (k_2 < (script_1.length : Int))) = true then
 (ixE script_1 k_2)
 else
 (E.bind (E.bind (modE k_2 (script_1.length : Int)) fun t_3 =>
 (ixE script_1 t_3)) fun t_4 =>
 (E.ok (t_4 + (1000003 * k_2))))))
theorem sd_law_far (script_1 : (List Int)) (k_2 : Int) : Sd (F_law_far [eScr script_1, eI k_2]) (M_law_far script_1 k_2) (vs .z eI) :=
  sd_mk (d_ok (Γ0 := [some (.z, eScr script_1), some (.z, eI k_2)]) rfl rfl (t_seq (t_if (j_bv (j_o2 (o_f (j_v (j_b1 (o_f (j_n 0 eScr script_1 rfl)) (fun _ _ => q_lenScr _)))) (o_f (j_c (.int 0) eI 0 rfl)) (fun _ _ _ _ => q_eqI _ _))) (t_ret (j_vf (j_v (j_o2 (o_f (j_v (j_o2 (o_f (j_c (.int 97) eI 97 rfl)) (o_f (j_n 1 eI k_2 rfl)) (fun _ _ h _ => q_mullL (by decide) h)))) (o_f (j_c (.int 5) eI 5 rfl)) (fun _ _ _ _ => q_add _ _))))) (t_nx (t_seq (t_if (j_bv (j_o2 (o_f (j_n 1 eI k_2 rfl)) (o_f (j_v (j_b1 (o_f (j_n 0 eScr script_1 rfl)) (fun _ _ => q_lenScr _)))) (fun _ _ _ _ => q_lt _ _))) (t_ret (j_vf (j_v (j_o2 (o_f (j_n 0 eScr script_1 rfl)) (o_f (j_n 1 eI k_2 rfl)) (fun _ _ _ _ => q_ixScr _ _))))) (t_nx (t_ret (j_vf (j_v (j_o2 (o_f (j_v (j_o2 (o_f (j_n 0 eScr script_1 rfl)) (o_f (j_v (j_o2 (o_f (j_v (j_b1 (o_f (j_n 1 eI k_2 rfl)) (fun _ _ => q_intI _)))) (o_f (j_v (j_b1 (o_f (j_n 0 eScr script_1 rfl)) (fun _ _ => q_lenScr _)))) (fun _ _ _ _ => q_mod _ _)))) (fun _ _ _ _ => q_ixScr _ _)))) (o_f (j_v (j_o2 (o_f (j_c (.int 1000003) eI 1000003 rfl)) (o_f (j_n 1 eI k_2 rfl)) (fun _ _ h _ => q_mullL (by decide) h)))) (fun _ _ _ _ => q_add _ _)))))))))))) (by unfold M_law_far; simp only [TM.bind_assoc, ok_bind, bind_ok_r, nex_ok])
def B_law_parts_1 (sizes_2 : (List Int)) (cell_1 : Int) : (((List Int) × Int)) → (Int) → E ((List Int) × Int) := fun s_5 k_6 =>
 (if (decide ((s_5.2) ≥ 0)) = true then
 (E.bind (E.bind (ixE sizes_2 k_6) fun t_7 =>
 (modE (s_5.2) t_7)) fun t_11 =>
 (E.bind (appE (s_5.1) t_11) fun parts_8 =>
 (E.bind (E.bind (ixE sizes_2 k_6) fun t_10 =>
 (divE (s_5.2) t_10)) fun rest_9 =>
 (E.ok (parts_8, rest_9)))))
 else
 (E.bind (E.ok ((((cell_1 * 48271) + (k_6 * 69621)) + 11) % 2147483647)) fun mixed_12 =>
 (E.bind (E.bind (E.bind (E.bind (E.bind (mulE mixed_12 mixed_12) fun t_14 =>
 (E.ok (t_14 + (16807 * k_6)))) fun t_15 =>
 (E.ok (t_15 + 5))) fun t_16 =>
 (E.ok t_16)) fun t_17 =>
 (E.ok (t_17 % 998244353))) fun mixed_13 =>
 (E.bind (E.bind (ixE sizes_2 k_6) fun t_18 =>
 (modE mixed_13 t_18)) fun t_20 =>
 (E.bind (appE (s_5.1) t_20) fun parts_19 =>
 (E.ok (parts_19, (s_5.2))))))))
def M_law_parts (cell_1 : Int) (sizes_2 : (List Int)) : E (List Int) :=
 (E.bind (E.ok []) fun parts_3 =>
 (E.bind (E.ok (cell_1 - (10 ^ Int.toNat 18))) fun rest_4 =>
 (E.bind (E.bind (rg1 (sizes_2.length : Int)) fun t_22 =>
 (forE (σ := (List Int) × Int) (B_law_parts_1 sizes_2 cell_1) t_22 (parts_3, rest_4))) fun s_21 =>
 (E.ok (s_21.1)))))
theorem sd_law_parts (cell_1 : Int) (sizes_2 : (List Int)) : Sd (F_law_parts [eI cell_1, (eL eI) sizes_2]) (M_law_parts cell_1 sizes_2) (vs .z (eL eI)) :=
  sd_mk (d_ok (Γ0 := [some (.z, eI cell_1), some (.z, (eL eI) sizes_2), none, none, none, none]) rfl rfl (t_seq (t_asg 2 (j_lst 0 (f_l0 eI) (by decide) hl_0) (fun parts_3 => (t_seq (t_asg 3 (j_vf (j_v (j_o2 (o_f (j_n 0 eI cell_1 rfl)) (o_f (j_v (j_o2 (o_f (j_c (.int 10) eI 10 rfl)) (o_f (j_c (.int 18) eI 18 rfl)) (fun _ _ h h2 => q_powL (by decide) h h2)))) (fun _ _ _ _ => q_sub _ _)))) (fun rest_4 => (t_seq (t_wkL (t_pre (t_for (σ := (List Int) × Int) (fun s_5 => [some (.z, eI cell_1), some (.z, (eL eI) sizes_2), some ((.l .z), (eL eI) (s_5.1)), some (.z, eI (s_5.2)), none, none]) (parts_3, rest_4) (i_r1 (f_1 (j_v (j_b1 (o_f (j_n 1 (eL eI) sizes_2 rfl)) (fun _ _ => q_lenL _))))) (fun s_5 k_6 => ⟨_, rfl, t_wp (t_if (j_bv (j_o2 (o_f (j_n 3 eI (s_5.2) rfl)) (o_f (j_c (.int 0) eI 0 rfl)) (fun _ _ _ _ => q_ge _ _))) (t_seq (t_app 2 eI (s_5.1) ⟨_, rfl⟩ (j_v (j_o2 (o_f (j_v (j_b1 (o_f (j_n 3 eI (s_5.2) rfl)) (fun _ _ => q_intI _)))) (o_f (j_v (j_o2 (o_f (j_n 1 (eL eI) sizes_2 rfl)) (o_f (j_n 4 eI k_6 rfl)) (fun _ _ _ _ => q_ixL _ _)))) (fun _ _ _ _ => q_mod _ _))) rfl (fun parts_8 => (t_asg 3 (j_vf (j_v (j_o2 (o_f (j_n 3 eI (s_5.2) rfl)) (o_f (j_v (j_o2 (o_f (j_n 1 (eL eI) sizes_2 rfl)) (o_f (j_n 4 eI k_6 rfl)) (fun _ _ _ _ => q_ixL _ _)))) (fun _ _ _ _ => q_div _ _)))) (fun rest_9 => (t_end (s := (parts_8, rest_9)) ⟨_, .inl rfl, rfl⟩)))))) (t_seq (t_asg 5 (j_vf (j_v (j_o2 (o_f (j_v (j_b1 (o_f (j_v (j_o2 (o_f (j_v (j_o2 (o_f (j_v (j_o2 (o_f (j_n 0 eI cell_1 rfl)) (o_f (j_c (.int 48271) eI 48271 rfl)) (fun _ _ _ h => q_mulrL (by decide) h)))) (o_f (j_v (j_o2 (o_f (j_n 4 eI k_6 rfl)) (o_f (j_c (.int 69621) eI 69621 rfl)) (fun _ _ _ h => q_mulrL (by decide) h)))) (fun _ _ _ _ => q_add _ _)))) (o_f (j_c (.int 11) eI 11 rfl)) (fun _ _ _ _ => q_add _ _)))) (fun _ _ => q_intI _)))) (o_f (j_c (.int 2147483647) eI 2147483647 rfl)) (fun _ _ _ h => q_modrL (by decide) h)))) (fun mixed_12 => (t_seq (t_asg 5 (j_vf (j_v (j_o2 (o_f (j_v (j_b1 (o_f (j_v (j_o2 (o_f (j_v (j_o2 (o_f (j_v (j_o2 (o_f (j_n 5 eI mixed_12 rfl)) (o_f (j_n 5 eI mixed_12 rfl)) (fun _ _ _ _ => q_mul _ _)))) (o_f (j_v (j_o2 (o_f (j_c (.int 16807) eI 16807 rfl)) (o_f (j_n 4 eI k_6 rfl)) (fun _ _ h _ => q_mullL (by decide) h)))) (fun _ _ _ _ => q_add _ _)))) (o_f (j_c (.int 5) eI 5 rfl)) (fun _ _ _ _ => q_add _ _)))) (fun _ _ => q_intI _)))) (o_f (j_c (.int 998244353) eI 998244353 rfl)) (fun _ _ _ h => q_modrL (by decide) h)))) (fun mixed_13 => (t_app 2 eI (s_5.1) ⟨_, rfl⟩ (j_v (j_o2 (o_f (j_v (j_b1 (o_f (j_n 5 eI mixed_13 rfl)) (fun _ _ => q_intI _)))) (o_f (j_v (j_o2 (o_f (j_n 1 (eL eI) sizes_2 rfl)) (o_f (j_n 4 eI k_6 rfl)) (fun _ _ _ _ => q_ixL _ _)))) (fun _ _ _ _ => q_mod _ _))) rfl (fun parts_19 => (t_end (s := (parts_19, (s_5.2))) ⟨_, .inl rfl, rfl⟩))))))))))⟩) (fun s_21 => (t_wkS 2 .z _ _ rfl rfl (t_ret (j_vf (j_n 2 (eL eI) (s_21.1) rfl)))))))))))))))) (by unfold M_law_parts; delta B_law_parts_1; simp only [TM.bind_assoc, ok_bind, bind_ok_r, nex_ok])
def M_law_is_integer (actual_1 : Int) : E Bool :=
 (E.ok (true && (!false)))
theorem sd_law_is_integer (actual_1 : Int) : Sd (F_law_is_integer [eI actual_1]) (M_law_is_integer actual_1) (vs .z eB) :=
  sd_mk (d_ok (Γ0 := [some (.z, eI actual_1)]) rfl rfl (t_ret (j_vf (j_v (j_vandP (j_isi (c := true) (o_f (j_n 0 eI actual_1 rfl)) (fun _ _ h => by cases h) (fun _ => isb_int_int)) (j_vf (j_fnot (j_isi (c := false) (o_f (j_n 0 eI actual_1 rfl)) (fun _ _ h => by cases h) (fun _ => isb_int_bool))))))))) (by unfold M_law_is_integer; simp only [TM.bind_assoc, ok_bind, bind_ok_r, nex_ok])
def M_law_answer (mode_1 : Int) (top_2 : Int) (part_3 : Int) : E Int :=
 (if (decide (mode_1 = 0)) = true then
 (modE part_3 (top_2 + 1))
 else
 (if (decide (mode_1 = 1)) = true then
 (E.ok (part_3 % 2))
 else
 (mulE top_2 (part_3 / 48))))
theorem sd_law_answer (mode_1 : Int) (top_2 : Int) (part_3 : Int) : Sd (F_law_answer [eI mode_1, eI top_2, eI part_3]) (M_law_answer mode_1 top_2 part_3) (vs .z eI) :=
  sd_mk (d_ok (Γ0 := [some (.z, eI mode_1), some (.z, eI top_2), some (.z, eI part_3)]) rfl rfl (t_seq (t_if (j_bv (j_o2 (o_f (j_n 0 eI mode_1 rfl)) (o_f (j_c (.int 0) eI 0 rfl)) (fun _ _ _ _ => q_eqI _ _))) (t_ret (j_vf (j_v (j_o2 (o_f (j_v (j_b1 (o_f (j_n 2 eI part_3 rfl)) (fun _ _ => q_intI _)))) (o_f (j_v (j_o2 (o_f (j_n 1 eI top_2 rfl)) (o_f (j_c (.int 1) eI 1 rfl)) (fun _ _ _ _ => q_add _ _)))) (fun _ _ _ _ => q_mod _ _))))) (t_nx (t_seq (t_if (j_bv (j_o2 (o_f (j_n 0 eI mode_1 rfl)) (o_f (j_c (.int 1) eI 1 rfl)) (fun _ _ _ _ => q_eqI _ _))) (t_ret (j_vf (j_v (j_o2 (o_f (j_v (j_b1 (o_f (j_n 2 eI part_3 rfl)) (fun _ _ => q_intI _)))) (o_f (j_c (.int 2) eI 2 rfl)) (fun _ _ _ h => q_modrL (by decide) h))))) (t_nx (t_ret (j_vf (j_v (j_o2 (o_f (j_n 1 eI top_2 rfl)) (o_f (j_v (j_o2 (o_f (j_n 2 eI part_3 rfl)) (o_f (j_c (.int 48) eI 48 rfl)) (fun _ _ _ h => q_divrL (by decide) h)))) (fun _ _ _ _ => q_mul _ _)))))))))))) (by unfold M_law_answer; simp only [TM.bind_assoc, ok_bind, bind_ok_r, nex_ok])
def B_law_table_1 (parts_12 : (List Int)) (head_3 : (List Int)) (top_4 : Int) : (((List (Int × Int)))) → (Int) → E ((List (Int × Int))) := fun s_20 i_21 =>
 (E.bind (E.bind (E.bind (E.bind (ixE parts_12 (2 * i_21)) fun t_22 =>
 (E.ok t_22)) fun t_24 =>
 (E.bind (E.bind (ixE head_3 2) fun t_23 =>
 (E.ok (1 + t_23))) fun t_25 =>
 (modE t_24 t_25))) fun t_30 =>
 (E.bind (E.bind (ixE head_3 3) fun t_28 =>
 (E.bind (ixE parts_12 ((2 * i_21) + 1)) fun t_29 =>
 (M_law_answer t_28 top_4 t_29))) fun t_31 =>
 (E.ok (t_30, t_31)))) fun t_33 =>
 (E.bind (appE s_20 t_33) fun row_32 =>
 (E.ok row_32)))
def B_law_table_2 (script_1 : (List Int)) (at_2 : Int) (head_3 : (List Int)) (top_4 : Int) : (((List (List (Int × Int))))) → (Int) → E ((List (List (Int × Int)))) := fun s_10 k_11 =>
 (E.bind (E.bind (M_law_far script_1 (at_2 + k_11)) fun t_17 =>
 (E.bind (E.bind (E.bind (ixE head_3 0) fun t_13 =>
 (ixE [1, 2, 4] t_13)) fun t_14 =>
 (repE [32, 64] t_14)) fun t_18 =>
 (M_law_parts t_17 t_18))) fun parts_12 =>
 (E.bind (E.ok []) fun row_19 =>
 (E.bind (E.bind (rg1 ((parts_12.length : Int) / 2)) fun t_36 =>
 (forE (σ := (List (Int × Int))) (B_law_table_1 parts_12 head_3 top_4) t_36 row_19)) fun s_34 =>
 (E.bind (appE s_10 s_34) fun rows_35 =>
 (E.ok rows_35)))))
def M_law_table (script_1 : (List Int)) (at_2 : Int) (head_3 : (List Int)) : E (Int × Int × (List (List (Int × Int)))) :=
 (E.bind (E.bind (ixE head_3 1) fun t_5 =>
 (ixE [1, 3, 7, 15, 31, 63] t_5)) fun top_4 =>
 (E.bind (E.ok []) fun rows_6 =>
 (E.bind (E.bind (E.bind (E.bind (ixE head_3 2) fun t_7 =>
 (E.ok (1 + t_7))) fun t_9 =>
 (rg1 t_9)) fun t_41 =>
 (forE (σ := (List (List (Int × Int)))) (B_law_table_2 script_1 at_2 head_3 top_4) t_41 rows_6)) fun s_37 =>
 (E.bind (ixE head_3 0) fun t_39 =>
 (E.bind (E.bind (ixE head_3 1) fun t_38 =>
 (E.ok (1 + t_38))) fun t_40 =>
 (E.ok (t_39, t_40, s_37)))))))
theorem sd_law_table (script_1 : (List Int)) (at_2 : Int) (head_3 : (List Int)) : Sd (F_law_table [eScr script_1, eI at_2, (eL eI) head_3]) (M_law_table script_1 at_2 head_3) (vs .z (eP (nc eI (nc eI (n1 (eT (eT (eP (nc eI (n1 eI)))))))))) :=
  sd_mk (d_ok (Γ0 := [some (.z, eScr script_1), some (.z, eI at_2), some (.z, (eL eI) head_3), none, none, none, none, none, none]) rfl rfl (t_seq (t_asg 3 (j_vf (j_v (j_o2 (o_f (j_v (j_lst 6 (f_lc (j_c (.int 1) eI 1 rfl) (f_lc (j_c (.int 3) eI 3 rfl) (f_lc (j_c (.int 7) eI 7 rfl) (f_lc (j_c (.int 15) eI 15 rfl) (f_lc (j_c (.int 31) eI 31 rfl) (f_lc (j_c (.int 63) eI 63 rfl) (f_l0 eI))))))) (by decide) (hl_c (hl_c (hl_c (hl_c (hl_c (hl_c hl_0))))))))) (o_f (j_v (j_o2 (o_f (j_n 2 (eL eI) head_3 rfl)) (o_f (j_c (.int 1) eI 1 rfl)) (fun _ _ _ _ => q_ixL _ _)))) (fun _ _ _ _ => q_ixL _ _)))) (fun top_4 => (t_seq (t_asg 4 (j_lst 0 (f_l0 (eT (eP (nc eI (n1 eI))))) (by decide) hl_0) (fun rows_6 => (t_seq (t_wkL (t_pre (t_for (σ := (List (List (Int × Int)))) (fun s_10 => [some (.z, eScr script_1), some (.z, eI at_2), some (.z, (eL eI) head_3), some (.z, eI top_4), some ((.l .z), (eL (eT (eP (nc eI (n1 eI))))) s_10), none, none, none, none]) rows_6 (i_r1 (f_1 (j_v (j_o2 (o_f (j_c (.int 1) eI 1 rfl)) (o_f (j_v (j_o2 (o_f (j_n 2 (eL eI) head_3 rfl)) (o_f (j_c (.int 2) eI 2 rfl)) (fun _ _ _ _ => q_ixL _ _)))) (fun _ _ _ _ => q_add _ _))))) (fun s_10 k_11 => ⟨_, rfl, t_wp (t_seq (t_asg 6 (j_vf (j_v (j_call (M := (fun (p : (Int × (List Int))) => M_law_parts (p.1) (p.2))) (f_c (j_v (j_call (M := (fun (p : ((List Int) × Int)) => M_law_far (p.1) (p.2))) (f_c (j_n 0 eScr script_1 rfl) (f_1 (j_v (j_o2 (o_f (j_n 1 eI at_2 rfl)) (o_f (j_n 5 eI k_11 rfl)) (fun _ _ _ _ => q_add _ _))))) (fun (p : ((List Int) × Int)) => sd_law_far (p.1) (p.2)) (fun _ => rfl))) (f_1 (j_v (j_o2 (o_f (j_v (j_lst 2 (f_lc (j_c (.int 32) eI 32 rfl) (f_lc (j_c (.int 64) eI 64 rfl) (f_l0 eI))) (by decide) (hl_c (hl_c hl_0))))) (o_f (j_v (j_o2 (o_f (j_v (j_lst 3 (f_lc (j_c (.int 1) eI 1 rfl) (f_lc (j_c (.int 2) eI 2 rfl) (f_lc (j_c (.int 4) eI 4 rfl) (f_l0 eI)))) (by decide) (hl_c (hl_c (hl_c hl_0)))))) (o_f (j_v (j_o2 (o_f (j_n 2 (eL eI) head_3 rfl)) (o_f (j_c (.int 0) eI 0 rfl)) (fun _ _ _ _ => q_ixL _ _)))) (fun _ _ _ _ => q_ixL _ _)))) (fun _ _ _ _ => q_rep _ _))))) (fun (p : (Int × (List Int))) => sd_law_parts (p.1) (p.2)) (fun _ => rfl)))) (fun parts_12 => (t_seq (t_asg 7 (j_lst 0 (f_l0 (eP (nc eI (n1 eI)))) (by decide) hl_0) (fun row_19 => (t_seq (t_wkL (t_pre (t_for (σ := (List (Int × Int))) (fun s_20 => [some (.z, eScr script_1), some (.z, eI at_2), some (.z, (eL eI) head_3), some (.z, eI top_4), some ((.l .z), (eL (eT (eP (nc eI (n1 eI))))) s_10), some (.z, eI k_11), some (.z, (eL eI) parts_12), some ((.l .z), (eL (eP (nc eI (n1 eI)))) s_20), none]) row_19 (i_r1 (f_1 (j_v (j_o2 (o_f (j_v (j_b1 (o_f (j_n 6 (eL eI) parts_12 rfl)) (fun _ _ => q_lenL _)))) (o_f (j_c (.int 2) eI 2 rfl)) (fun _ _ _ h => q_divrL (by decide) h))))) (fun s_20 i_21 => ⟨_, rfl, t_wp (t_app 7 (eP (nc eI (n1 eI))) s_20 ⟨_, rfl⟩ (j_tup 2 (f_c (j_v (j_o2 (o_f (j_v (j_b1 (o_f (j_v (j_o2 (o_f (j_n 6 (eL eI) parts_12 rfl)) (o_f (j_v (j_o2 (o_f (j_c (.int 2) eI 2 rfl)) (o_f (j_n 8 eI i_21 rfl)) (fun _ _ h _ => q_mullL (by decide) h)))) (fun _ _ _ _ => q_ixL _ _)))) (fun _ _ => q_intI _)))) (o_f (j_v (j_o2 (o_f (j_c (.int 1) eI 1 rfl)) (o_f (j_v (j_o2 (o_f (j_n 2 (eL eI) head_3 rfl)) (o_f (j_c (.int 2) eI 2 rfl)) (fun _ _ _ _ => q_ixL _ _)))) (fun _ _ _ _ => q_add _ _)))) (fun _ _ _ _ => q_mod _ _))) (f_1 (j_v (j_call (M := (fun (p : (Int × Int × Int)) => M_law_answer (p.1) (p.2.1) (p.2.2))) (f_c (j_v (j_o2 (o_f (j_n 2 (eL eI) head_3 rfl)) (o_f (j_c (.int 3) eI 3 rfl)) (fun _ _ _ _ => q_ixL _ _))) (f_c (j_n 3 eI top_4 rfl) (f_1 (j_v (j_o2 (o_f (j_n 6 (eL eI) parts_12 rfl)) (o_f (j_v (j_o2 (o_f (j_v (j_o2 (o_f (j_c (.int 2) eI 2 rfl)) (o_f (j_n 8 eI i_21 rfl)) (fun _ _ h _ => q_mullL (by decide) h)))) (o_f (j_c (.int 1) eI 1 rfl)) (fun _ _ _ _ => q_add _ _)))) (fun _ _ _ _ => q_ixL _ _)))))) (fun (p : (Int × Int × Int)) => sd_law_answer (p.1) (p.2.1) (p.2.2)) (fun _ => rfl))))) (by decide) (fun _ => rfl)) rfl (fun row_32 => (t_end (s := row_32) ⟨_, .inl rfl, rfl⟩)))⟩) (fun s_34 => (t_wkS 7 .z _ _ rfl rfl (t_app 4 (eT (eP (nc eI (n1 eI)))) s_10 ⟨_, rfl⟩ (j_v (j_b1 (o_f (j_n 7 (eL (eP (nc eI (n1 eI)))) s_34 rfl)) (fun _ _ => q_tupL _))) rfl (fun rows_35 => (t_end (s := rows_35) ⟨_, .inl rfl, rfl⟩)))))))))))))))⟩) (fun s_37 => (t_wkS 4 .z _ _ rfl rfl (t_ret (j_vf (j_tup 3 (f_c (j_v (j_o2 (o_f (j_n 2 (eL eI) head_3 rfl)) (o_f (j_c (.int 0) eI 0 rfl)) (fun _ _ _ _ => q_ixL _ _))) (f_c (j_v (j_o2 (o_f (j_c (.int 1) eI 1 rfl)) (o_f (j_v (j_o2 (o_f (j_n 2 (eL eI) head_3 rfl)) (o_f (j_c (.int 1) eI 1 rfl)) (fun _ _ _ _ => q_ixL _ _)))) (fun _ _ _ _ => q_add _ _))) (f_1 (j_v (j_b1 (o_f (j_n 4 (eL (eT (eP (nc eI (n1 eI))))) s_37 rfl)) (fun _ _ => q_tupL _)))))) (by decide) (fun _ => rfl))))))))))))))))) (by unfold M_law_table; delta B_law_table_2; delta B_law_table_1; simp only [TM.bind_assoc, ok_bind, bind_ok_r, nex_ok])
def B_law_answers_1 (table_1 : (Int × Int × (List (List (Int × Int))))) : ((Int × (List Int))) → (Int) → E (Int × (List Int)) := fun s_5 letter_6 =>
 (E.bind (E.bind (ixE (table_1.2.2) (s_5.1)) fun t_7 =>
 (ixE t_7 letter_6)) fun q_8 =>
 (E.bind (appE (s_5.2) (q_8.2)) fun answers_9 =>
 (E.ok ((q_8.1), answers_9))))
def M_law_answers (table_1 : (Int × Int × (List (List (Int × Int))))) (state_2 : Int) (word_3 : (List Int)) : E (List Int) :=
 (E.bind (E.ok []) fun answers_4 =>
 (E.bind (forE (σ := Int × (List Int)) (B_law_answers_1 table_1) word_3 (state_2, answers_4)) fun s_10 =>
 (E.ok (s_10.2))))
theorem sd_law_answers (table_1 : (Int × Int × (List (List (Int × Int))))) (state_2 : Int) (word_3 : (List Int)) : Sd (F_law_answers [(eP (nc eI (nc eI (n1 (eT (eT (eP (nc eI (n1 eI))))))))) table_1, eI state_2, (eL eI) word_3]) (M_law_answers table_1 state_2 word_3) (vs .z (eL eI)) :=
  sd_mk (d_ok (Γ0 := [some (.z, (eP (nc eI (nc eI (n1 (eT (eT (eP (nc eI (n1 eI))))))))) table_1), some (.z, eI state_2), some (.z, (eL eI) word_3), none, none, none]) rfl rfl (t_seq (t_asg 3 (j_lst 0 (f_l0 eI) (by decide) hl_0) (fun answers_4 => (t_seq (t_wkL (t_pre (t_for (σ := Int × (List Int)) (fun s_5 => [some (.z, (eP (nc eI (nc eI (n1 (eT (eT (eP (nc eI (n1 eI))))))))) table_1), some (.z, eI (s_5.1)), some (.z, (eL eI) word_3), some ((.l .z), (eL eI) (s_5.2)), none, none]) (state_2, answers_4) (i_l (j_n 2 (eL eI) word_3 rfl)) (fun s_5 letter_6 => ⟨_, rfl, t_wp (t_seq (t_tgt _ (j_v (j_o2 (o_f (j_v (j_o2 (o_f (j_v (j_o2 (o_f (j_n 0 (eP (nc eI (nc eI (n1 (eT (eT (eP (nc eI (n1 eI))))))))) table_1 rfl)) (o_f (j_c (.int 2) eI 2 rfl)) (fun _ _ _ h => q_pj (e1 := (eT (eT (eP (nc eI (n1 eI)))))) (fun (p : (Int × Int × (List (List (Int × Int))))) => (p.2.2)) 2 (ixn_nat 2) (fun _ => rfl) _ h)))) (o_f (j_n 1 eI (s_5.1) rfl)) (fun _ _ _ _ => q_ixT _ _)))) (o_f (j_n 4 eI letter_6 rfl)) (fun _ _ _ _ => q_ixT _ _))) (fun _ => rfl) (fun q_8 => (t_app 3 eI (s_5.2) ⟨_, rfl⟩ (j_n 5 eI (q_8.2) rfl) rfl (fun answers_9 => (t_end (s := ((q_8.1), answers_9)) ⟨_, .inl rfl, rfl⟩))))))⟩) (fun s_10 => (t_wkS 3 .z _ _ rfl rfl (t_ret (j_vf (j_n 3 (eL eI) (s_10.2) rfl))))))))))))) (by unfold M_law_answers; delta B_law_answers_1; simp only [TM.bind_assoc, ok_bind, bind_ok_r, nex_ok])
def B_law_longer_1 (word_5 : (List Int)) : (((List (List Int)))) → (Int) → E ((List (List Int))) := fun s_6 i_7 =>
 (E.bind (catE word_5 [i_7]) fun t_9 =>
 (E.bind (appE s_6 t_9) fun longer_8 =>
 (E.ok longer_8)))
def B_law_longer_2 (letters_2 : Int) : (((List (List Int)))) → ((List Int)) → E ((List (List Int))) := fun s_4 word_5 =>
 (E.bind (E.bind (rg1 letters_2) fun t_11 =>
 (forE (σ := (List (List Int))) (B_law_longer_1 word_5) t_11 s_4)) fun s_10 =>
 (E.ok s_10))
def M_law_longer (words_1 : (List (List Int))) (letters_2 : Int) : E (List (List Int)) :=
 (E.bind (E.ok []) fun longer_3 =>
 (E.bind (forE (σ := (List (List Int))) (B_law_longer_2 letters_2) words_1 longer_3) fun s_12 =>
 (E.ok s_12)))
theorem sd_law_longer (words_1 : (List (List Int))) (letters_2 : Int) : Sd (F_law_longer [(eL (eL eI)) words_1, eI letters_2]) (M_law_longer words_1 letters_2) (vs .z (eL (eL eI))) :=
  sd_mk (d_ok (Γ0 := [some (.z, (eL (eL eI)) words_1), some (.z, eI letters_2), none, none, none]) rfl rfl (t_seq (t_asg 2 (j_lst 0 (f_l0 (eL eI)) (by decide) hl_0) (fun longer_3 => (t_seq (t_wkL (t_pre (t_for (σ := (List (List Int))) (fun s_4 => [some (.z, (eL (eL eI)) words_1), some (.z, eI letters_2), some ((.l .z), (eL (eL eI)) s_4), none, none]) longer_3 (i_l (j_n 0 (eL (eL eI)) words_1 rfl)) (fun s_4 word_5 => ⟨_, rfl, t_wp (t_pre (t_for (σ := (List (List Int))) (fun s_6 => [some (.z, (eL (eL eI)) words_1), some (.z, eI letters_2), some ((.l .z), (eL (eL eI)) s_6), some (.z, (eL eI) word_5), none]) s_4 (i_r1 (f_1 (j_n 1 eI letters_2 rfl))) (fun s_6 i_7 => ⟨_, rfl, t_wp (t_app 2 (eL eI) s_6 ⟨_, rfl⟩ (j_v (j_o2 (o_f (j_n 3 (eL eI) word_5 rfl)) (o_f (j_v (j_lst 1 (f_lc (j_n 4 eI i_7 rfl) (f_l0 eI)) (by decide) (hl_c hl_0)))) (fun _ _ _ _ => q_addL _ _))) rfl (fun longer_8 => (t_end (s := longer_8) ⟨_, .inl rfl, rfl⟩)))⟩) (fun s_10 => (t_end (s := s_10) ⟨_, .inl rfl, rfl⟩))))⟩) (fun s_12 => (t_wkS 2 .z _ _ rfl rfl (t_ret (j_vf (j_n 2 (eL (eL eI)) s_12 rfl))))))))))))) (by unfold M_law_longer; delta B_law_longer_2; delta B_law_longer_1; simp only [TM.bind_assoc, ok_bind, bind_ok_r, nex_ok])
def B_law_words_1 (letters_1 : Int) : (((List (List Int)) × (List (List Int)))) → (Int) → E ((List (List Int)) × (List (List Int))) := fun s_5 k_6 =>
 (E.bind (M_law_longer (s_5.2) letters_1) fun last_7 =>
 (E.bind (catE (s_5.1) last_7) fun words_8 =>
 (E.ok (words_8, last_7))))
def M_law_words (letters_1 : Int) (longest_2 : Int) : E (List (List Int)) :=
 (E.bind (E.ok [[]]) fun words_3 =>
 (E.bind (E.ok [[]]) fun last_4 =>
 (E.bind (E.bind (rg1 longest_2) fun t_10 =>
 (forE (σ := (List (List Int)) × (List (List Int))) (B_law_words_1 letters_1) t_10 (words_3, last_4))) fun s_9 =>
 (E.ok (s_9.1)))))
theorem sd_law_words (letters_1 : Int) (longest_2 : Int) : Sd (F_law_words [eI letters_1, eI longest_2]) (M_law_words letters_1 longest_2) (vs .z (eL (eL eI))) :=
  sd_mk (d_ok (Γ0 := [some (.z, eI letters_1), some (.z, eI longest_2), none, none, none]) rfl rfl (t_seq (t_asg 2 (j_vf (j_v (j_lst 1 (f_lc (j_v (j_lst 0 (f_l0 eI) (by decide) hl_0)) (f_l0 (eL eI))) (by decide) (hl_c hl_0)))) (fun words_3 => (t_seq (t_asg 3 (j_vf (j_v (j_lst 1 (f_lc (j_v (j_lst 0 (f_l0 eI) (by decide) hl_0)) (f_l0 (eL eI))) (by decide) (hl_c hl_0)))) (fun last_4 => (t_seq (t_pre (t_for (σ := (List (List Int)) × (List (List Int))) (fun s_5 => [some (.z, eI letters_1), some (.z, eI longest_2), some (.z, (eL (eL eI)) (s_5.1)), some (.z, (eL (eL eI)) (s_5.2)), none]) (words_3, last_4) (i_r1 (f_1 (j_n 1 eI longest_2 rfl))) (fun s_5 k_6 => ⟨_, rfl, t_wp (t_seq (t_asg 3 (j_vf (j_v (j_call (M := (fun (p : ((List (List Int)) × Int)) => M_law_longer (p.1) (p.2))) (f_c (j_n 3 (eL (eL eI)) (s_5.2) rfl) (f_1 (j_n 0 eI letters_1 rfl))) (fun (p : ((List (List Int)) × Int)) => sd_law_longer (p.1) (p.2)) (fun _ => rfl)))) (fun last_7 => (t_asg 2 (j_vf (j_v (j_o2 (o_f (j_n 2 (eL (eL eI)) (s_5.1) rfl)) (o_f (j_n 3 (eL (eL eI)) last_7 rfl)) (fun _ _ _ _ => q_addL _ _)))) (fun words_8 => (t_end (s := (words_8, last_7)) ⟨_, .inl rfl, rfl⟩))))))⟩) (fun s_9 => (t_ret (j_vf (j_n 2 (eL (eL eI)) (s_9.1) rfl)))))))))))))) (by unfold M_law_words; delta B_law_words_1; simp only [TM.bind_assoc, ok_bind, bind_ok_r, nex_ok])
def B_law_first_1 (one_2 : (List (List Int))) (other_3 : (List (List Int))) (words_1 : (List (List Int))) : ((Unit)) → (Int) → E (Fl (Unit) (Option (List Int))) := fun s_4 k_5 =>
 (E.bind (E.bind (ixE one_2 k_5) fun t_6 =>
 (E.bind (ixE other_3 k_5) fun t_7 =>
 (E.ok (!decide (t_6 = t_7))))) fun t_10 =>
 (if t_10 = true then
 (E.bind (E.bind (ixE words_1 k_5) fun t_8 => E.ok (some t_8)) fun r_9 => E.ok (Fl.rt r_9))
 else
 (E.ok (Fl.nx ()))))
def M_law_first (words_1 : (List (List Int))) (one_2 : (List (List Int))) (other_3 : (List (List Int))) : E (Option (List Int)) :=
 (E.bind (E.bind (rg1 (words_1.length : Int)) fun t_12 =>
 (forR (σ := Unit) (ρ := (Option (List Int))) (B_law_first_1 one_2 other_3 words_1) t_12 ())) (Sum.elim (fun s_11 =>
 (E.ok none)) (fun r_13 => E.ok r_13)))
theorem sd_law_first (words_1 : (List (List Int))) (one_2 : (List (List Int))) (other_3 : (List (List Int))) : Sd (F_law_first [(eL (eL eI)) words_1, (eL (eL eI)) one_2, (eL (eL eI)) other_3]) (M_law_first words_1 one_2 other_3) (vs .z (eO (eL eI))) :=
  sd_mk (d_ok (Γ0 := [some (.z, (eL (eL eI)) words_1), some (.z, (eL (eL eI)) one_2), some (.z, (eL (eL eI)) other_3), none]) rfl rfl (t_seq (t_pre (t_forR (σ := Unit) (ez := (vs .z (eO (eL eI)))) (fun s_4 => [some (.z, (eL (eL eI)) words_1), some (.z, (eL (eL eI)) one_2), some (.z, (eL (eL eI)) other_3), none]) () (i_r1 (f_1 (j_v (j_b1 (o_f (j_n 0 (eL (eL eI)) words_1 rfl)) (fun _ _ => q_lenL _))))) (fun s_4 k_5 => ⟨_, rfl, t_wpR (t_if (j_bv (j_o2 (o_f (j_v (j_o2 (o_f (j_n 1 (eL (eL eI)) one_2 rfl)) (o_f (j_n 3 eI k_5 rfl)) (fun _ _ _ _ => q_ixL _ _)))) (o_f (j_v (j_o2 (o_f (j_n 2 (eL (eL eI)) other_3 rfl)) (o_f (j_n 3 eI k_5 rfl)) (fun _ _ _ _ => q_ixL _ _)))) (fun _ _ _ _ => q_ne (eq_L eq_I) (by decide) _ _))) (t_retL (w := Fl.rt) (j_vf (j_v (j_someV (j_o2 (o_f (j_n 0 (eL (eL eI)) words_1 rfl)) (o_f (j_n 3 eI k_5 rfl)) (fun _ _ _ _ => q_ixL _ _))))) (fun _ => ⟨_, rfl⟩)) (t_nx (t_end (s := Fl.nx ()) ⟨_, .inl rfl, rfl⟩)))⟩) (fun s_11 => (t_ret (j_vf (j_c .none (eO (eL eI)) none rfl)))) hr_f)))) (by unfold M_law_first; delta B_law_first_1; simp only [TM.bind_assoc, ok_bind, bind_ok_r, nex_ok])
def B_law_round_1 (rounds_1 : (List (List Int))) (a_2 : Int) (b_3 : Int) : ((Unit)) → (Int) → E (Fl (Unit) (Option Int)) := fun s_4 k_5 =>
 (E.bind (E.bind (E.bind (ixE rounds_1 k_5) fun t_6 =>
 (ixE t_6 a_2)) fun t_8 =>
 (E.bind (E.bind (ixE rounds_1 k_5) fun t_7 =>
 (ixE t_7 b_3)) fun t_9 =>
 (E.ok (!decide (t_8 = t_9))))) fun t_11 =>
 (if t_11 = true then
 (E.bind (E.ok (some k_5)) fun r_10 => E.ok (Fl.rt r_10))
 else
 (E.ok (Fl.nx ()))))
def M_law_round (rounds_1 : (List (List Int))) (a_2 : Int) (b_3 : Int) : E (Option Int) :=
 (E.bind (E.bind (rg1 (rounds_1.length : Int)) fun t_13 =>
 (forR (σ := Unit) (ρ := (Option Int)) (B_law_round_1 rounds_1 a_2 b_3) t_13 ())) (Sum.elim (fun s_12 =>
 (E.ok none)) (fun r_14 => E.ok r_14)))
theorem sd_law_round (rounds_1 : (List (List Int))) (a_2 : Int) (b_3 : Int) : Sd (F_law_round [(eL (eL eI)) rounds_1, eI a_2, eI b_3]) (M_law_round rounds_1 a_2 b_3) (vs .z (eO eI)) :=
  sd_mk (d_ok (Γ0 := [some (.z, (eL (eL eI)) rounds_1), some (.z, eI a_2), some (.z, eI b_3), none]) rfl rfl (t_seq (t_pre (t_forR (σ := Unit) (ez := (vs .z (eO eI))) (fun s_4 => [some (.z, (eL (eL eI)) rounds_1), some (.z, eI a_2), some (.z, eI b_3), none]) () (i_r1 (f_1 (j_v (j_b1 (o_f (j_n 0 (eL (eL eI)) rounds_1 rfl)) (fun _ _ => q_lenL _))))) (fun s_4 k_5 => ⟨_, rfl, t_wpR (t_if (j_bv (j_o2 (o_f (j_v (j_o2 (o_f (j_v (j_o2 (o_f (j_n 0 (eL (eL eI)) rounds_1 rfl)) (o_f (j_n 3 eI k_5 rfl)) (fun _ _ _ _ => q_ixL _ _)))) (o_f (j_n 1 eI a_2 rfl)) (fun _ _ _ _ => q_ixL _ _)))) (o_f (j_v (j_o2 (o_f (j_v (j_o2 (o_f (j_n 0 (eL (eL eI)) rounds_1 rfl)) (o_f (j_n 3 eI k_5 rfl)) (fun _ _ _ _ => q_ixL _ _)))) (o_f (j_n 2 eI b_3 rfl)) (fun _ _ _ _ => q_ixL _ _)))) (fun _ _ _ _ => q_neI _ _))) (t_retL (w := Fl.rt) (j_vf (j_some (j_n 3 eI k_5 rfl))) (fun _ => ⟨_, rfl⟩)) (t_nx (t_end (s := Fl.nx ()) ⟨_, .inl rfl, rfl⟩)))⟩) (fun s_12 => (t_ret (j_vf (j_c .none (eO eI) none rfl)))) hr_f)))) (by unfold M_law_round; delta B_law_round_1; simp only [TM.bind_assoc, ok_bind, bind_ok_r, nex_ok])
def M_law_is_told (actual_1 : (Option (List Int))) (due_2 : (Option (List Int))) : E Bool :=
 (if (due_2.isNone) = true then
 (E.ok (actual_1.isNone))
 else
 (if (actual_1.isSome && true) = true then (E.bind (E.bind (E.bind (E.ofO actual_1) fun t_4 =>
 (comE (β := Bool) (fun item_3 =>
 (M_law_is_integer item_3)) t_4)) fun t_5 =>
 (E.ok (t_5.all id))) fun t_6 =>
 (E.ok (t_6 && (decide (actual_1 = due_2))))) else E.ok false))
theorem sd_law_is_told (actual_1 : (Option (List Int))) (due_2 : (Option (List Int))) : Sd (F_law_is_told [(eO (eL eI)) actual_1, (eO (eL eI)) due_2]) (M_law_is_told actual_1 due_2) (vs .z eB) :=
  sd_mk (d_ok (Γ0 := [some (.z, (eO (eL eI)) actual_1), some (.z, (eO (eL eI)) due_2), none]) rfl rfl (t_seq (t_if (j_bv (j_o2 (o_f (j_n 1 (eO (eL eI)) due_2 rfl)) (o_f (j_c .none eN () rfl)) (fun _ _ _ _ => q_isN _ _ (fun _ h => by cases h)))) (t_ret (j_vf (j_v (j_o2 (o_f (j_n 0 (eO (eL eI)) actual_1 rfl)) (o_f (j_c .none eN () rfl)) (fun _ _ _ _ => q_isN _ _ (fun _ h => by cases h)))))) (t_nx (t_ret (j_vf (j_v (j_vand (j_isiO (c := true) (o_f (j_n 0 (eO (eL eI)) actual_1 rfl)) (fun _ _ h => by cases h) (by decide +kernel) (fun _ => isb_list_list)) (j_vandP (j_v (j_b1 (o_f (j_v (j_compE (ey := eB) (i_l (j_un (j_n 0 (eO (eL eI)) actual_1 rfl))) (fun item_3 => ⟨_, _, rfl, (j_v (j_call (M := M_law_is_integer) (f_1 (j_n 2 eI item_3 rfl)) sd_law_is_integer (fun _ => rfl))), rfl, rfl⟩) rfl))) (fun _ _ => q_all _))) (j_o2 (o_f (j_n 0 (eO (eL eI)) actual_1 rfl)) (o_f (j_n 1 (eO (eL eI)) due_2 rfl)) (fun _ _ _ _ => q_eq (eq_O (eq_L eq_I) (fun _ h => by cases h)) (by decide) _ _))))))))))) (by unfold M_law_is_told; simp only [TM.bind_assoc, ok_bind, bind_ok_r, nex_ok])
def M_law_refuses (table_1 : (Int × Int × (List (List (Int × Int))))) (a_2 : Int) (b_3 : Int) : E Bool :=
 (tryE m_GatesError ((fun (p : ((Int × Int × (List (List (Int × Int)))) × Int × Int)) => M_telling_word (p.1) (p.2.1) (p.2.2)) (table_1, a_2, b_3)) (fun u_5 =>
 (E.ok false)) (fun ex_4 => (E.ofO (is_NoSuchThing ex_4.c))))
theorem sd_law_refuses (table_1 : (Int × Int × (List (List (Int × Int))))) (a_2 : Int) (b_3 : Int) : Sd (F_law_refuses [(eP (nc eI (nc eI (n1 (eT (eT (eP (nc eI (n1 eI))))))))) table_1, eI a_2, eI b_3]) (M_law_refuses table_1 a_2 b_3) (vs .z eB) :=
  sd_mk (d_ok (Γ0 := [some (.z, (eP (nc eI (nc eI (n1 (eT (eT (eP (nc eI (n1 eI))))))))) table_1), some (.z, eI a_2), some (.z, eI b_3), none]) rfl rfl (t_seq (t_tryC (M := (fun (p : ((Int × Int × (List (List (Int × Int)))) × Int × Int)) => M_telling_word (p.1) (p.2.1) (p.2.2))) (f_c (j_n 0 (eP (nc eI (nc eI (n1 (eT (eT (eP (nc eI (n1 eI))))))))) table_1 rfl) (f_c (j_n 1 eI a_2 rfl) (f_1 (j_n 2 eI b_3 rfl)))) (fun (p : ((Int × Int × (List (List (Int × Int)))) × Int × Int)) => sd_telling_word (p.1) (p.2.1) (p.2.2)) (fun _ => rfl) (fun u_5 => (t_ret (j_vf (j_c (.bool false) eB false rfl)))) (fun ex_4 => h_ret (h_r (j_vf (j_isx rfl))))))) (by unfold M_law_refuses; simp only [TM.bind_assoc, ok_bind, bind_ok_r, nex_ok])
def B_law_1 (told_24 : (List (List (List Int)))) (a_39 : Int) (words_20 : (List (List Int))) (table_5 : (Int × Int × (List (List (Int × Int))))) (rounds_28 : (List (List Int))) : ((Unit)) → (Int) → E (Fl (Unit) Bool) := fun s_40 b_41 =>
 (E.bind (E.bind (ixE told_24 a_39) fun t_45 =>
 (E.bind (ixE told_24 b_41) fun t_46 =>
 (M_law_first words_20 t_45 t_46))) fun due_42 =>
 (E.bind (M_telling_word table_5 a_39 b_41) fun actual_47 =>
 (E.bind (E.bind (E.bind (E.bind (E.nex (M_law_is_told actual_47 due_42)) fun t_52 =>
 (E.ok t_52)) fun t_53 =>
 (E.ok (!t_53))) fun t_54 =>
 (if t_54 = true then E.ok true else (E.bind (E.bind (E.bind (M_telling_word table_5 b_41 a_39) fun t_49 =>
 (M_law_is_told t_49 due_42)) fun t_50 =>
 (E.ok t_50)) fun t_51 =>
 (E.ok (!t_51))))) fun t_71 =>
 (if t_71 = true then
 (E.bind (E.ok false) fun r_55 => E.ok (Fl.rt r_55))
 else
 (E.bind (M_law_round rounds_28 a_39 b_41) fun r_56 =>
 (if (due_42.isNone) = true then
 (if (r_56.isSome) = true then
 (E.bind (E.ok false) fun r_57 => E.ok (Fl.rt r_57))
 else
 (E.ok (Fl.nx ())))
 else
 (E.bind (E.bind (E.bind (E.bind (E.ofO due_42) fun t_58 =>
 (E.ok (t_58.length : Int))) fun t_59 => E.ok (some t_59)) fun t_60 =>
 (E.ok (!decide (r_56 = t_60)))) fun t_70 =>
 (if t_70 = true then
 (E.bind (E.ok false) fun r_61 => E.ok (Fl.rt r_61))
 else
 (E.bind (E.bind (E.bind (E.ofO actual_47) fun a => E.ok (a, some)) fun l_63 => (E.bind (appE l_63.1 0) fun x => E.ok (l_63.2 x))) fun actual_62 =>
 (E.bind (E.bind (E.bind (E.bind (M_telling_word table_5 a_39 b_41) fun t_65 =>
 (M_law_is_told t_65 due_42)) fun t_66 =>
 (E.ok t_66)) fun t_67 =>
 (E.ok (!t_67))) fun t_69 =>
 (if t_69 = true then
 (E.bind (E.ok false) fun r_68 => E.ok (Fl.rt r_68))
 else
 (E.ok (Fl.nx ())))))))))))))
def B_law_2 (states_19 : Int) (told_24 : (List (List (List Int)))) (words_20 : (List (List Int))) (table_5 : (Int × Int × (List (List (Int × Int))))) (rounds_28 : (List (List Int))) : ((Unit)) → (Int) → E (Fl (Unit) Bool) := fun s_38 a_39 =>
 (E.bind (E.bind (rg1 states_19) fun t_73 =>
 (forR (σ := Unit) (ρ := Bool) (B_law_1 told_24 a_39 words_20 table_5 rounds_28) t_73 ())) (Sum.elim (fun s_72 =>
 (E.ok (Fl.nx ()))) (fun r_74 => E.ok (Fl.rt r_74))))
def M_law (script_1 : (List Int)) : E Bool :=
 (E.bind (E.bind (M_law_far script_1 0) fun t_4 =>
 (M_law_parts t_4 [3, 6, 32, 4])) fun head_2 =>
 (E.bind (E.bind (E.bind (ixE head_2 0) fun t_10 =>
 (E.bind (ixE head_2 1) fun t_11 =>
 (E.bind (E.bind (E.bind (ixE head_2 2) fun t_6 =>
 (E.ok t_6)) fun t_8 =>
 (E.bind (E.bind (ixE head_2 0) fun t_7 =>
 (ixE [32, 7, 5] t_7)) fun t_9 =>
 (modE t_8 t_9))) fun t_12 =>
 (E.bind (ixE head_2 3) fun t_13 =>
 (E.ok [t_10, t_11, t_12, t_13]))))) fun t_15 =>
 (M_law_table script_1 2 t_15)) fun table_5 =>
 (E.bind (E.bind (M_law_far script_1 1) fun t_18 =>
 (M_law_parts t_18 [32, 32, 90])) fun parts_16 =>
 (E.bind (E.ok ((table_5.2.2).length : Int)) fun states_19 =>
 (E.bind (E.bind (E.bind (ixE (table_5.2.2) 0) fun t_21 =>
 (E.ok (t_21.length : Int))) fun t_23 =>
 (M_law_words t_23 (states_19 - 1))) fun words_20 =>
 (E.bind (E.bind (rg1 states_19) fun t_27 =>
 (comE (β := (List (List Int))) (fun state_25 =>
 (comE (β := (List Int)) (fun word_26 =>
 (M_law_answers table_5 state_25 word_26)) words_20)) t_27)) fun told_24 =>
 (E.bind (M_class_rounds table_5) fun rounds_28 =>
 (E.bind (lrE states_19) fun firsts_29 =>
 (E.bind (if (decide (states_19 > 7)) = true then (E.bind (E.bind (E.bind (E.bind (ixE parts_16 0) fun t_31 =>
 (E.ok t_31)) fun t_32 =>
 (modE t_32 states_19)) fun t_35 =>
 (E.bind (E.bind (E.bind (ixE parts_16 1) fun t_33 =>
 (E.ok t_33)) fun t_34 =>
 (modE t_34 states_19)) fun t_36 =>
 (E.ok [t_35, t_36]))) fun firsts_30 =>
 (E.ok firsts_30)) else (E.ok firsts_29)) fun s_37 =>
 (E.bind (forR (σ := Unit) (ρ := Bool) (B_law_2 states_19 told_24 words_20 table_5 rounds_28) s_37 ()) (Sum.elim (fun s_75 =>
 (E.bind (E.bind (E.bind (ixE parts_16 0) fun t_77 =>
 (E.ok t_77)) fun t_78 =>
 (modE t_78 states_19)) fun at_76 =>
 (E.bind (E.bind (E.bind (E.bind (E.bind (E.bind (ixE parts_16 2) fun t_84 =>
 (E.ok (states_19 + t_84))) fun t_86 =>
 (M_law_refuses table_5 t_86 at_76)) fun t_87 =>
 (E.ok t_87)) fun t_88 =>
 (E.ok (!t_88))) fun t_89 =>
 (if t_89 = true then E.ok true else (E.bind (E.bind (E.bind (E.bind (ixE parts_16 2) fun t_79 =>
 (E.ok (states_19 + t_79))) fun t_81 =>
 (M_law_refuses table_5 at_76 t_81)) fun t_82 =>
 (E.ok t_82)) fun t_83 =>
 (E.ok (!t_83))))) fun t_97 =>
 (if t_97 = true then
 (E.ok false)
 else
 (E.bind (E.bind (E.bind (ixE parts_16 2) fun t_93 =>
 (E.ok ((-1) - t_93))) fun t_95 =>
 (M_law_refuses table_5 t_95 at_76)) fun t_96 =>
 (if t_96 = true then (E.bind (E.bind (ixE parts_16 2) fun t_90 =>
 (E.ok ((-1) - t_90))) fun t_92 =>
 (M_law_refuses table_5 at_76 t_92)) else E.ok false)))))) (fun r_98 => E.ok r_98))))))))))))
theorem sd_law (script_1 : (List Int)) : Sd (F_law [eScr script_1]) (M_law script_1) (vs .z eB) :=
  sd_mk (d_ok (Γ0 := [some (.z, eScr script_1), none, none, none, none, none, none, none, none, none, none, none, none, none, none, none, none]) rfl rfl (t_seq (t_asg 1 (j_vf (j_v (j_call (M := (fun (p : (Int × (List Int))) => M_law_parts (p.1) (p.2))) (f_c (j_v (j_call (M := (fun (p : ((List Int) × Int)) => M_law_far (p.1) (p.2))) (f_c (j_n 0 eScr script_1 rfl) (f_1 (j_c (.int 0) eI 0 rfl))) (fun (p : ((List Int) × Int)) => sd_law_far (p.1) (p.2)) (fun _ => rfl))) (f_1 (j_v (j_lst 4 (f_lc (j_c (.int 3) eI 3 rfl) (f_lc (j_c (.int 6) eI 6 rfl) (f_lc (j_c (.int 32) eI 32 rfl) (f_lc (j_c (.int 4) eI 4 rfl) (f_l0 eI))))) (by decide) (hl_c (hl_c (hl_c (hl_c hl_0)))))))) (fun (p : (Int × (List Int))) => sd_law_parts (p.1) (p.2)) (fun _ => rfl)))) (fun head_2 => (t_seq (t_asg 2 (j_vf (j_v (j_call (M := (fun (p : ((List Int) × Int × (List Int))) => M_law_table (p.1) (p.2.1) (p.2.2))) (f_c (j_n 0 eScr script_1 rfl) (f_c (j_c (.int 2) eI 2 rfl) (f_1 (j_v (j_lst 4 (f_lc (j_v (j_o2 (o_f (j_n 1 (eL eI) head_2 rfl)) (o_f (j_c (.int 0) eI 0 rfl)) (fun _ _ _ _ => q_ixL _ _))) (f_lc (j_v (j_o2 (o_f (j_n 1 (eL eI) head_2 rfl)) (o_f (j_c (.int 1) eI 1 rfl)) (fun _ _ _ _ => q_ixL _ _))) (f_lc (j_v (j_o2 (o_f (j_v (j_b1 (o_f (j_v (j_o2 (o_f (j_n 1 (eL eI) head_2 rfl)) (o_f (j_c (.int 2) eI 2 rfl)) (fun _ _ _ _ => q_ixL _ _)))) (fun _ _ => q_intI _)))) (o_f (j_v (j_o2 (o_f (j_v (j_lst 3 (f_lc (j_c (.int 32) eI 32 rfl) (f_lc (j_c (.int 7) eI 7 rfl) (f_lc (j_c (.int 5) eI 5 rfl) (f_l0 eI)))) (by decide) (hl_c (hl_c (hl_c hl_0)))))) (o_f (j_v (j_o2 (o_f (j_n 1 (eL eI) head_2 rfl)) (o_f (j_c (.int 0) eI 0 rfl)) (fun _ _ _ _ => q_ixL _ _)))) (fun _ _ _ _ => q_ixL _ _)))) (fun _ _ _ _ => q_mod _ _))) (f_lc (j_v (j_o2 (o_f (j_n 1 (eL eI) head_2 rfl)) (o_f (j_c (.int 3) eI 3 rfl)) (fun _ _ _ _ => q_ixL _ _))) (f_l0 eI))))) (by decide) (hl_c (hl_c (hl_c (hl_c hl_0))))))))) (fun (p : ((List Int) × Int × (List Int))) => sd_law_table (p.1) (p.2.1) (p.2.2)) (fun _ => rfl)))) (fun table_5 => (t_seq (t_asg 3 (j_vf (j_v (j_call (M := (fun (p : (Int × (List Int))) => M_law_parts (p.1) (p.2))) (f_c (j_v (j_call (M := (fun (p : ((List Int) × Int)) => M_law_far (p.1) (p.2))) (f_c (j_n 0 eScr script_1 rfl) (f_1 (j_c (.int 1) eI 1 rfl))) (fun (p : ((List Int) × Int)) => sd_law_far (p.1) (p.2)) (fun _ => rfl))) (f_1 (j_v (j_lst 3 (f_lc (j_c (.int 32) eI 32 rfl) (f_lc (j_c (.int 32) eI 32 rfl) (f_lc (j_c (.int 90) eI 90 rfl) (f_l0 eI)))) (by decide) (hl_c (hl_c (hl_c hl_0))))))) (fun (p : (Int × (List Int))) => sd_law_parts (p.1) (p.2)) (fun _ => rfl)))) (fun parts_16 => (t_seq (t_asg 4 (j_vf (j_v (j_b1 (o_f (j_v (j_o2 (o_f (j_n 2 (eP (nc eI (nc eI (n1 (eT (eT (eP (nc eI (n1 eI))))))))) table_5 rfl)) (o_f (j_c (.int 2) eI 2 rfl)) (fun _ _ _ h => q_pj (e1 := (eT (eT (eP (nc eI (n1 eI)))))) (fun (p : (Int × Int × (List (List (Int × Int))))) => (p.2.2)) 2 (ixn_nat 2) (fun _ => rfl) _ h)))) (fun _ _ => q_lenT _)))) (fun states_19 => (t_seq (t_asg 5 (j_vf (j_v (j_call (M := (fun (p : (Int × Int)) => M_law_words (p.1) (p.2))) (f_c (j_v (j_b1 (o_f (j_v (j_o2 (o_f (j_v (j_o2 (o_f (j_n 2 (eP (nc eI (nc eI (n1 (eT (eT (eP (nc eI (n1 eI))))))))) table_5 rfl)) (o_f (j_c (.int 2) eI 2 rfl)) (fun _ _ _ h => q_pj (e1 := (eT (eT (eP (nc eI (n1 eI)))))) (fun (p : (Int × Int × (List (List (Int × Int))))) => (p.2.2)) 2 (ixn_nat 2) (fun _ => rfl) _ h)))) (o_f (j_c (.int 0) eI 0 rfl)) (fun _ _ _ _ => q_ixT _ _)))) (fun _ _ => q_lenT _))) (f_1 (j_v (j_o2 (o_f (j_n 4 eI states_19 rfl)) (o_f (j_c (.int 1) eI 1 rfl)) (fun _ _ _ _ => q_sub _ _))))) (fun (p : (Int × Int)) => sd_law_words (p.1) (p.2)) (fun _ => rfl)))) (fun words_20 => (t_seq (t_fz 6 (j_compE (ey := (eL (eL eI))) (i_r1 (f_1 (j_n 4 eI states_19 rfl))) (fun state_25 => ⟨_, _, rfl, (j_v (j_compE (ey := (eL eI)) (i_l (j_n 5 (eL (eL eI)) words_20 rfl)) (fun word_26 => ⟨_, _, rfl, (j_v (j_call (M := (fun (p : ((Int × Int × (List (List (Int × Int)))) × Int × (List Int))) => M_law_answers (p.1) (p.2.1) (p.2.2))) (f_c (j_n 2 (eP (nc eI (nc eI (n1 (eT (eT (eP (nc eI (n1 eI))))))))) table_5 rfl) (f_c (j_n 15 eI state_25 rfl) (f_1 (j_n 16 (eL eI) word_26 rfl)))) (fun (p : ((Int × Int × (List (List (Int × Int)))) × Int × (List Int))) => sd_law_answers (p.1) (p.2.1) (p.2.2)) (fun _ => rfl))), rfl, rfl⟩) rfl)), rfl, rfl⟩) rfl) (fun _ => rfl) (fun told_24 => (t_seq (t_asg 7 (j_vf (j_v (j_call (M := M_class_rounds) (f_1 (j_n 2 (eP (nc eI (nc eI (n1 (eT (eT (eP (nc eI (n1 eI))))))))) table_5 rfl)) sd_class_rounds (fun _ => rfl)))) (fun rounds_28 => (t_seq (t_asg 8 (j_vf (j_v (j_lr1 (j_n 4 eI states_19 rfl)))) (fun firsts_29 => (t_seq (t_ifj (σ := (List Int)) [] (fun s_37 => [some (.z, eScr script_1), some (.z, (eL eI) head_2), some (.z, (eP (nc eI (nc eI (n1 (eT (eT (eP (nc eI (n1 eI))))))))) table_5), some (.z, (eL eI) parts_16), some (.z, eI states_19), some (.z, (eL (eL eI)) words_20), some (.z, (eL (eL (eL eI))) told_24), some (.z, (eL (eL eI)) rounds_28), some (.z, (eL eI) s_37), none, none, none, none, none, none, none, none]) (j_bv (j_o2 (o_f (j_n 4 eI states_19 rfl)) (o_f (j_c (.int 7) eI 7 rfl)) (fun _ _ _ _ => q_gt _ _))) (t_asg 8 (j_vf (j_v (j_lst 2 (f_lc (j_v (j_o2 (o_f (j_v (j_b1 (o_f (j_v (j_o2 (o_f (j_n 3 (eL eI) parts_16 rfl)) (o_f (j_c (.int 0) eI 0 rfl)) (fun _ _ _ _ => q_ixL _ _)))) (fun _ _ => q_intI _)))) (o_f (j_n 4 eI states_19 rfl)) (fun _ _ _ _ => q_mod _ _))) (f_lc (j_v (j_o2 (o_f (j_v (j_b1 (o_f (j_v (j_o2 (o_f (j_n 3 (eL eI) parts_16 rfl)) (o_f (j_c (.int 1) eI 1 rfl)) (fun _ _ _ _ => q_ixL _ _)))) (fun _ _ => q_intI _)))) (o_f (j_n 4 eI states_19 rfl)) (fun _ _ _ _ => q_mod _ _))) (f_l0 eI))) (by decide) (hl_c (hl_c hl_0))))) (fun firsts_30 => (t_end (s := firsts_30) ⟨_, rfl, rfl⟩))) (t_nx (t_end (s := firsts_29) ⟨_, rfl, rfl⟩)) (fun s_37 => (t_seq (t_pre (t_forR (σ := Unit) (ez := (vs .z eB)) (fun s_38 => [some (.z, eScr script_1), some (.z, (eL eI) head_2), some (.z, (eP (nc eI (nc eI (n1 (eT (eT (eP (nc eI (n1 eI))))))))) table_5), some (.z, (eL eI) parts_16), some (.z, eI states_19), some (.z, (eL (eL eI)) words_20), some (.z, (eL (eL (eL eI))) told_24), some (.z, (eL (eL eI)) rounds_28), some (.z, (eL eI) s_37), none, none, none, none, none, none, none, none]) () (i_l (j_n 8 (eL eI) s_37 rfl)) (fun s_38 a_39 => ⟨_, rfl, t_wpR (t_pre (t_forR (σ := Unit) (ez := (vs .z eB)) (fun s_40 => [some (.z, eScr script_1), some (.z, (eL eI) head_2), some (.z, (eP (nc eI (nc eI (n1 (eT (eT (eP (nc eI (n1 eI))))))))) table_5), some (.z, (eL eI) parts_16), some (.z, eI states_19), some (.z, (eL (eL eI)) words_20), some (.z, (eL (eL (eL eI))) told_24), some (.z, (eL (eL eI)) rounds_28), some (.z, (eL eI) s_37), some (.z, eI a_39), none, none, none, none, none, none, none]) () (i_r1 (f_1 (j_n 4 eI states_19 rfl))) (fun s_40 b_41 => ⟨_, rfl, t_wpR (t_seq (t_asg 11 (j_vf (j_v (j_call (M := (fun (p : ((List (List Int)) × (List (List Int)) × (List (List Int)))) => M_law_first (p.1) (p.2.1) (p.2.2))) (f_c (j_n 5 (eL (eL eI)) words_20 rfl) (f_c (j_v (j_o2 (o_f (j_n 6 (eL (eL (eL eI))) told_24 rfl)) (o_f (j_n 9 eI a_39 rfl)) (fun _ _ _ _ => q_ixL _ _))) (f_1 (j_v (j_o2 (o_f (j_n 6 (eL (eL (eL eI))) told_24 rfl)) (o_f (j_n 10 eI b_41 rfl)) (fun _ _ _ _ => q_ixL _ _)))))) (fun (p : ((List (List Int)) × (List (List Int)) × (List (List Int)))) => sd_law_first (p.1) (p.2.1) (p.2.2)) (fun _ => rfl)))) (fun due_42 => (t_seq (t_asg 12 (j_call (M := (fun (p : ((Int × Int × (List (List (Int × Int)))) × Int × Int)) => M_telling_word (p.1) (p.2.1) (p.2.2))) (f_c (j_n 2 (eP (nc eI (nc eI (n1 (eT (eT (eP (nc eI (n1 eI))))))))) table_5 rfl) (f_c (j_n 9 eI a_39 rfl) (f_1 (j_n 10 eI b_41 rfl)))) (fun (p : ((Int × Int × (List (List (Int × Int)))) × Int × Int)) => sd_telling_word (p.1) (p.2.1) (p.2.2)) (fun _ => rfl)) (fun actual_47 => (t_seq (t_if (j_or (j_not (j_bo (o_f (j_v (j_callQ (M := (fun (p : ((Option (List Int)) × (Option (List Int)))) => M_law_is_told (p.1) (p.2))) (s_b 12 (.n (.l .z)) (eO (eL eI)) actual_47 ⟨_, rfl⟩ rfl (s_f1 (j_n 11 (eO (eL eI)) due_42 rfl))) (fun (p : ((Option (List Int)) × (Option (List Int)))) => sd_law_is_told (p.1) (p.2)) (fun _ => rfl) (ok_flat (fun _ => rfl))))) (fun _ => q_truB _))) (j_not (j_bo (o_f (j_v (j_call (M := (fun (p : ((Option (List Int)) × (Option (List Int)))) => M_law_is_told (p.1) (p.2))) (f_c (j_v (j_call (M := (fun (p : ((Int × Int × (List (List (Int × Int)))) × Int × Int)) => M_telling_word (p.1) (p.2.1) (p.2.2))) (f_c (j_n 2 (eP (nc eI (nc eI (n1 (eT (eT (eP (nc eI (n1 eI))))))))) table_5 rfl) (f_c (j_n 10 eI b_41 rfl) (f_1 (j_n 9 eI a_39 rfl)))) (fun (p : ((Int × Int × (List (List (Int × Int)))) × Int × Int)) => sd_telling_word (p.1) (p.2.1) (p.2.2)) (fun _ => rfl))) (f_1 (j_n 11 (eO (eL eI)) due_42 rfl))) (fun (p : ((Option (List Int)) × (Option (List Int)))) => sd_law_is_told (p.1) (p.2)) (fun _ => rfl)))) (fun _ => q_truB _)))) (t_wk0L (t_wkS 12 .z _ _ rfl rfl (t_retL (w := Fl.rt) (j_vf (j_c (.bool false) eB false rfl)) (fun _ => ⟨_, rfl⟩)))) (t_nx (t_seq (t_asg 13 (j_vf (j_v (j_call (M := (fun (p : ((List (List Int)) × Int × Int)) => M_law_round (p.1) (p.2.1) (p.2.2))) (f_c (j_n 7 (eL (eL eI)) rounds_28 rfl) (f_c (j_n 9 eI a_39 rfl) (f_1 (j_n 10 eI b_41 rfl)))) (fun (p : ((List (List Int)) × Int × Int)) => sd_law_round (p.1) (p.2.1) (p.2.2)) (fun _ => rfl)))) (fun r_56 => (t_if (j_bv (j_o2 (o_f (j_n 11 (eO (eL eI)) due_42 rfl)) (o_f (j_c .none eN () rfl)) (fun _ _ _ _ => q_isN _ _ (fun _ h => by cases h)))) (t_if (j_bv (j_o2 (o_f (j_n 13 (eO eI) r_56 rfl)) (o_f (j_c .none eN () rfl)) (fun _ _ _ _ => q_isntN _ _ (fun _ h => by cases h)))) (t_retL (w := Fl.rt) (j_vf (j_c (.bool false) eB false rfl)) (fun _ => ⟨_, rfl⟩)) (t_nx (t_end (s := Fl.nx ()) ⟨_, .inl rfl, rfl⟩))) (t_if (j_bv (j_o2 (o_f (j_n 13 (eO eI) r_56 rfl)) (o_some (o_f (j_v (j_b1 (o_un (o_f (j_n 11 (eO (eL eI)) due_42 rfl))) (fun _ _ => q_lenL _))))) (fun _ _ _ _ => q_ne (eq_O eq_I (fun _ h => by cases h)) (by decide) _ _))) (t_retL (w := Fl.rt) (j_vf (j_c (.bool false) eB false rfl)) (fun _ => ⟨_, rfl⟩)) (t_seq (t_pm (S := (.n (.l .z))) (eS := (eO (eL eI))) 12 (e := eI) (l_0N 12 (eL eI) actual_47 rfl (fun _ => rfl)) (f_1 (j_c (.int 0) eI 0 rfl)) (v_app (e := eI)) (fun _ => rfl) (fun actual_62 => (t_if (j_not (j_bo (o_f (j_v (j_call (M := (fun (p : ((Option (List Int)) × (Option (List Int)))) => M_law_is_told (p.1) (p.2))) (f_c (j_v (j_call (M := (fun (p : ((Int × Int × (List (List (Int × Int)))) × Int × Int)) => M_telling_word (p.1) (p.2.1) (p.2.2))) (f_c (j_n 2 (eP (nc eI (nc eI (n1 (eT (eT (eP (nc eI (n1 eI))))))))) table_5 rfl) (f_c (j_n 9 eI a_39 rfl) (f_1 (j_n 10 eI b_41 rfl)))) (fun (p : ((Int × Int × (List (List (Int × Int)))) × Int × Int)) => sd_telling_word (p.1) (p.2.1) (p.2.2)) (fun _ => rfl))) (f_1 (j_n 11 (eO (eL eI)) due_42 rfl))) (fun (p : ((Option (List Int)) × (Option (List Int)))) => sd_law_is_told (p.1) (p.2)) (fun _ => rfl)))) (fun _ => q_truB _))) (t_retL (w := Fl.rt) (j_vf (j_c (.bool false) eB false rfl)) (fun _ => ⟨_, rfl⟩)) (t_nx (t_end (s := Fl.nx ()) ⟨_, .inl rfl, rfl⟩))))))))))))))))))))⟩) (fun s_72 => (t_end (s := Fl.nx ()) ⟨_, .inl rfl, rfl⟩)) hr_l))⟩) (fun s_75 => (t_seq (t_asg 14 (j_vf (j_v (j_o2 (o_f (j_v (j_b1 (o_f (j_v (j_o2 (o_f (j_n 3 (eL eI) parts_16 rfl)) (o_f (j_c (.int 0) eI 0 rfl)) (fun _ _ _ _ => q_ixL _ _)))) (fun _ _ => q_intI _)))) (o_f (j_n 4 eI states_19 rfl)) (fun _ _ _ _ => q_mod _ _)))) (fun at_76 => (t_seq (t_if (j_or (j_not (j_bo (o_f (j_v (j_call (M := (fun (p : ((Int × Int × (List (List (Int × Int)))) × Int × Int)) => M_law_refuses (p.1) (p.2.1) (p.2.2))) (f_c (j_n 2 (eP (nc eI (nc eI (n1 (eT (eT (eP (nc eI (n1 eI))))))))) table_5 rfl) (f_c (j_v (j_o2 (o_f (j_n 4 eI states_19 rfl)) (o_f (j_v (j_o2 (o_f (j_n 3 (eL eI) parts_16 rfl)) (o_f (j_c (.int 2) eI 2 rfl)) (fun _ _ _ _ => q_ixL _ _)))) (fun _ _ _ _ => q_add _ _))) (f_1 (j_n 14 eI at_76 rfl)))) (fun (p : ((Int × Int × (List (List (Int × Int)))) × Int × Int)) => sd_law_refuses (p.1) (p.2.1) (p.2.2)) (fun _ => rfl)))) (fun _ => q_truB _))) (j_not (j_bo (o_f (j_v (j_call (M := (fun (p : ((Int × Int × (List (List (Int × Int)))) × Int × Int)) => M_law_refuses (p.1) (p.2.1) (p.2.2))) (f_c (j_n 2 (eP (nc eI (nc eI (n1 (eT (eT (eP (nc eI (n1 eI))))))))) table_5 rfl) (f_c (j_n 14 eI at_76 rfl) (f_1 (j_v (j_o2 (o_f (j_n 4 eI states_19 rfl)) (o_f (j_v (j_o2 (o_f (j_n 3 (eL eI) parts_16 rfl)) (o_f (j_c (.int 2) eI 2 rfl)) (fun _ _ _ _ => q_ixL _ _)))) (fun _ _ _ _ => q_add _ _)))))) (fun (p : ((Int × Int × (List (List (Int × Int)))) × Int × Int)) => sd_law_refuses (p.1) (p.2.1) (p.2.2)) (fun _ => rfl)))) (fun _ => q_truB _)))) (t_ret (j_vf (j_c (.bool false) eB false rfl))) (t_nx (t_ret (j_vf (j_v (j_vand (j_v (j_call (M := (fun (p : ((Int × Int × (List (List (Int × Int)))) × Int × Int)) => M_law_refuses (p.1) (p.2.1) (p.2.2))) (f_c (j_n 2 (eP (nc eI (nc eI (n1 (eT (eT (eP (nc eI (n1 eI))))))))) table_5 rfl) (f_c (j_v (j_o2 (o_f (j_neg (j_c (.int 1) eI 1 rfl))) (o_f (j_v (j_o2 (o_f (j_n 3 (eL eI) parts_16 rfl)) (o_f (j_c (.int 2) eI 2 rfl)) (fun _ _ _ _ => q_ixL _ _)))) (fun _ _ _ _ => q_sub _ _))) (f_1 (j_n 14 eI at_76 rfl)))) (fun (p : ((Int × Int × (List (List (Int × Int)))) × Int × Int)) => sd_law_refuses (p.1) (p.2.1) (p.2.2)) (fun _ => rfl))) (j_call (M := (fun (p : ((Int × Int × (List (List (Int × Int)))) × Int × Int)) => M_law_refuses (p.1) (p.2.1) (p.2.2))) (f_c (j_n 2 (eP (nc eI (nc eI (n1 (eT (eT (eP (nc eI (n1 eI))))))))) table_5 rfl) (f_c (j_n 14 eI at_76 rfl) (f_1 (j_v (j_o2 (o_f (j_neg (j_c (.int 1) eI 1 rfl))) (o_f (j_v (j_o2 (o_f (j_n 3 (eL eI) parts_16 rfl)) (o_f (j_c (.int 2) eI 2 rfl)) (fun _ _ _ _ => q_ixL _ _)))) (fun _ _ _ _ => q_sub _ _)))))) (fun (p : ((Int × Int × (List (List (Int × Int)))) × Int × Int)) => sd_law_refuses (p.1) (p.2.1) (p.2.2)) (fun _ => rfl))))))))))))) hr_f))))))))))))))))))))))))))))))) (by unfold M_law; delta B_law_2; delta B_law_1; simp only [TM.bind_assoc, ok_bind, bind_ok_r, nex_ok])
end K62
namespace K62
open PySem PV TM
theorem far_ok (ns : List Int) (k : Int) (h : 0 ≤ k) : ∃ x, M_law_far ns k = .ok x := by
  unfold M_law_far
  by_cases c : (ns.length : Int) = 0
  · exact ⟨_, by simp only [c, decide_true, if_true]; rfl⟩
  · by_cases c2 : k < ns.length
    · exact ⟨_, by simp only [c, c2, decide_true, decide_false, if_true, Bool.false_eq_true, if_false]; exact ixE_lt h c2⟩
    · have h1 := Int.emod_nonneg k (b := (ns.length : Int)) (by omega)
      have h2 := Int.emod_lt_of_pos k (b := (ns.length : Int)) (by omega)
      exact ⟨_, by
        simp only [c, c2, decide_false, Bool.false_eq_true, if_false, modE_ok (show (0 : Int) < ns.length by omega), ok_bind, ixE_lt h1 h2]
        rfl⟩
theorem parts_ok (cell : Int) (sizes : List Int) (hl : sizes.length ≤ 100000) (hs : ∀ s ∈ sizes, 0 < s ∧ s < 2 ^ 62) : ∃ ps, M_law_parts cell sizes = .ok ps ∧ All2 (fun p s => 0 ≤ p ∧ p < s) ps sizes := by
  obtain ⟨⟨ps, r⟩, e, q⟩ := forE_inv0 (fun j (s : List Int × Int) => All2 (fun p s => 0 ≤ p ∧ p < s) s.1 (sizes.take j)) (f := B_law_parts_1 sizes cell) (xs := nats sizes.length) (s := ([], cell - 10 ^ Int.toNat 18)) .nil (by
      rintro i x ⟨ps, rest⟩ hx hI
      obtain ⟨hi, rfl⟩ := nats_at hx
      have hg : sizes[i]? = some sizes[i] := List.getElem?_eq_getElem hi
      have hs' := hs _ (List.getElem_mem hi)
      have hpl := hI.length
      rw [List.length_take] at hpl
      have hpl : ps.length < 16777216 := by dsimp only at hpl; omega
      have ht : sizes.take (i + 1) = sizes.take i ++ [sizes[i]] := by rw [List.take_succ, hg]; rfl
      have fin : ∀ y : Int, All2 (fun p s => 0 ≤ p ∧ p < s) (ps ++ [y % sizes[i]]) (sizes.take (i + 1)) := fun y => by
        rw [ht]
        exact hI.append (.cons ⟨Int.emod_nonneg _ (by omega), Int.emod_lt_of_pos _ (by omega)⟩ .nil)
      unfold B_law_parts_1
      by_cases c : rest ≥ 0
      · refine ⟨(ps ++ [rest % sizes[i]], rest / sizes[i]), ?_, fin _⟩
        simp (disch := omega) only [c, decide_true, if_true, ixE_nat hg, ok_bind, modE_ok, divE_ok, appE_ok]
      · have m1 : ∀ x : Int, mulE (x % 2147483647) (x % 2147483647) = .ok (x % 2147483647 * (x % 2147483647)) := fun x => mulE_l (by omega) (by omega)
        refine ⟨(ps ++ [?_ % sizes[i]], rest), ?_, fin _⟩
        rotate_left
        · simp (disch := omega) only [c, decide_false, Bool.false_eq_true, if_false, ixE_nat hg, ok_bind, modE_ok, m1, appE_ok]
          rfl)
  rw [nats_len, List.take_length] at q
  refine ⟨ps, ?_, q⟩
  unfold M_law_parts
  simp only [ok_bind, rg1_nat (show (sizes.length : Int) < 2 ^ 62 by omega), e]
abbrev Tb := Int × Int × List (List (Int × Int))
abbrev LI := List Int
def gi (xs : LI) (i : Int) : Int := (xs[i.toNat]?).getD 0
theorem gix {xs : LI} {i : Int} (h0 : 0 ≤ i) (h1 : i < xs.length) : ixE xs i = .ok (gi xs i) := by
  unfold gi
  have := List.getElem?_eq_getElem (l := xs) (i := i.toNat) (by omega)
  rw [ixE_at h0 this, this]; rfl
theorem gi_map {f : Int → Int} {n : Nat} {s : Int} (h0 : 0 ≤ s) (h1 : s < n) : gi ((nats n).map f) s = f s := by
  unfold gi
  rw [List.getElem?_map, nats_get (show s.toNat < n by omega), Int.toNat_of_nonneg h0]; rfl
/-! the first thing alike -/
section
variable {κ : Type} [DecidableEq κ]
def fs (f : Int → κ) (n : Nat) (s : Int) : Int := ((nats n).find? fun z => decide (f z = f s)).getD 0
theorem fs_in {f : Int → κ} {n : Nat} {s : Int} (h0 : 0 ≤ s) (h1 : s < n) : ∃ z, (nats n).find? (fun z => decide (f z = f s)) = some z ∧ fs f n s = z ∧ 0 ≤ z ∧ z < n ∧ f z = f s := by
  unfold fs
  cases hf : (nats n).find? fun z => decide (f z = f s) with
  | none =>
    rw [List.find?_eq_none] at hf
    have := hf s (nats_mem.mpr ⟨h0, h1⟩)
    simp at this
  | some z =>
    have h2 := List.mem_of_find?_eq_some hf
    have h3 := List.find?_some hf
    have h4 := nats_mem.mp h2
    exact ⟨z, rfl, rfl, h4.1, h4.2, of_decide_eq_true h3⟩
theorem fs_eq {f : Int → κ} {n : Nat} {s s' : Int} (h0 : 0 ≤ s) (h1 : s < n) (h0' : 0 ≤ s') (h1' : s' < n) : fs f n s = fs f n s' ↔ f s = f s' := by
  constructor
  · intro h
    obtain ⟨z, _, e1, _, _, e2⟩ := fs_in (f := f) h0 h1
    obtain ⟨z', _, e3, _, _, e4⟩ := fs_in (f := f) h0' h1'
    rw [← e2, ← e4, ← e1, ← e3, h]
  · intro h
    unfold fs
    rw [h]
theorem fs_congr {κ' : Type} [DecidableEq κ'] {f : Int → κ} {g : Int → κ'} {n : Nat} {s : Int} (h0 : 0 ≤ s) (h1 : s < n) (h : ∀ a b : Int, 0 ≤ a → a < n → 0 ≤ b → b < n → (f a = f b ↔ g a = g b)) : fs f n s = fs g n s := by
  unfold fs
  have : ∀ xs : LI, (∀ x ∈ xs, 0 ≤ x ∧ x < n) → xs.find? (fun z => decide (f z = f s)) = xs.find? fun z => decide (g z = g s) := fun xs => by
    induction xs with
    | nil => intro _; rfl
    | cons x xs ih =>
      intro hx
      have hx' := hx x List.mem_cons_self
      rw [List.find?_cons, List.find?_cons, ih fun y hy => hx y (List.mem_cons_of_mem _ hy), decide_eq_decide.mpr (h x s hx'.1 hx'.2 h0 h1)]
  rw [this _ fun x hx => nats_mem.mp hx]
theorem find_nats_le {p : Int → Bool} {i n : Nat} (hi : i ≤ n) {z : Int} (h : (nats i).find? p = some z) : (nats n).find? p = some z := by
  induction n with
  | zero => have : i = 0 := by omega
            subst this; exact h
  | succ n ih =>
    by_cases c : i = n + 1
    · subst c; exact h
    · rw [nats_succ, List.find?_append, ih (by omega)]; rfl
theorem findIdx_nats {p : Int → Bool} (n : Nat) {z : Int} (h : (nats n).find? p = some z) : ∃ j : Nat, (nats n).findIdx? p = some j ∧ (j : Int) = z := by
  induction n with
  | zero => cases h
  | succ n ih =>
    rw [nats_succ, List.find?_append] at h
    rw [nats_succ, List.findIdx?_append]
    cases hf : (nats n).find? p with
    | some y =>
      rw [hf] at h
      cases h
      obtain ⟨j, e1, e2⟩ := ih hf
      exact ⟨j, by rw [e1]; rfl, e2⟩
    | none =>
      rw [hf] at h
      have hn : (nats n).findIdx? p = none := by
        rw [List.findIdx?_eq_none_iff]
        rw [List.find?_eq_none] at hf
        exact fun x hx => Bool.eq_false_iff.mpr (hf x hx)
      rw [hn, nats_len]
      simp only [Option.none_or, List.find?_cons] at h
      cases hp : p (n : Int) with
      | true =>
        rw [hp] at h
        cases h
        exact ⟨n, by simp [List.findIdx?_cons, hp], rfl⟩
      | false =>
        rw [hp] at h
        cases h
/-- the law's: the index in the list of all -/
theorem idx_fs {f : Int → κ} {n : Nat} {s : Int} (h0 : 0 ≤ s) (h1 : s < n) : idxE ((nats n).map f) (f s) = .ok (fs f n s) := by
  obtain ⟨z, e1, e2, _⟩ := fs_in (f := f) h0 h1
  obtain ⟨j, e3, e4⟩ := findIdx_nats n e1
  unfold idxE
  rw [List.findIdx?_map]
  have : (nats n).findIdx? ((fun z => decide (z = f s)) ∘ f) = some j := e3
  rw [this, e2, ← e4]
/-- the program's: what was there first -/
theorem look_app {kvs : List (κ × Int)} {k k' : κ} {v : Int} : lookD (kvs ++ [(k', v)]) k = (lookD kvs k).or (if k' = k then some v else none) := by
  induction kvs with
  | nil => unfold lookD lookD; rfl
  | cons p kvs ih =>
    rw [List.cons_append]
    unfold lookD
    by_cases c : p.1 = k
    · rw [if_pos c, if_pos c]; rfl
    · rw [if_neg c, if_neg c, ih]
theorem setd_step {f : Int → κ} {kvs : List (κ × Int)} {i : Nat} (hi : ∀ k, lookD kvs k = (nats i).find? fun z => decide (f z = k)) (hl : kvs.length ≤ i) (hb : i < 1000) :
    ∃ kvs', setdTE kvs (f i) (i : Int) = .ok (fs f (i + 1) i, kvs') ∧ (∀ k, lookD kvs' k = (nats (i + 1)).find? fun z => decide (f z = k)) ∧ kvs'.length ≤ i + 1 := by
  unfold setdTE
  rw [chk_ok (by omega)]
  have hfs : fs f (i + 1) i = (((nats i).find? fun z => decide (f z = f i)).or (some (i : Int))).getD 0 := by
    unfold fs
    rw [nats_succ, List.find?_append]
    simp [List.find?_cons]
  cases hl' : lookD kvs (f i) with
  | some y =>
    refine ⟨kvs, ?_, fun k => ?_, by omega⟩
    · rw [hfs, ← hi, hl']; rfl
    · rw [nats_succ, List.find?_append, ← hi]
      cases hk : lookD kvs k with
      | some z => rfl
      | none =>
        have : ¬ f i = k := fun z => by rw [z] at hl'; rw [hl'] at hk; cases hk
        simp [List.find?_cons, this]
  | none =>
    refine ⟨kvs ++ [(f i, (i : Int))], ?_, fun k => ?_, by rw [List.length_append]; simp; omega⟩
    · rw [hfs, ← hi, hl']; rfl
    · rw [look_app, nats_succ, List.find?_append, ← hi]
      cases lookD kvs k with
      | some z => rfl
      | none => by_cases c : f i = k <;> simp [List.find?_cons, c]
theorem fs_up {f : Int → κ} {i n : Nat} (h : i < n) : fs f (i + 1) i = fs f n i := by
  obtain ⟨z, e1, e2, _⟩ := fs_in (f := f) (n := i + 1) (s := (i : Int)) (by omega) (by omega)
  rw [e2]
  unfold fs
  rw [find_nats_le (by omega) e1]; rfl
end
structure WF (t : Tb) (n L : Nat) : Prop where
  hn : t.2.2.length = n
  n1 : 1 ≤ n
  n2 : n ≤ 32
  L1 : 1 ≤ L
  L4 : L ≤ 4
  pw : L ^ n ≤ 1024
  row : ∀ (k : Nat) (r : List (Int × Int)), t.2.2[k]? = some r → r.length = L ∧ ∀ p ∈ r, 0 ≤ p.1 ∧ p.1 < n
def rwt (t : Tb) (s : Int) : List (Int × Int) := (t.2.2[s.toNat]?).getD []
def mark (t : Tb) (cls : LI) (s : Int) : List (Int × Int) := (rwt t s).map fun p => (p.2, gi cls p.1)
def nx (t : Tb) (n : Nat) (cls : LI) : LI := (nats n).map (fs (mark t cls) n)
def st (t : Tb) (s a : Int) : Int × Int := ((rwt t s)[a.toNat]?).getD (0, 0)
def ans (t : Tb) : LI → Int → LI
  | [], _ => []
  | a :: w, s => (st t s a).2 :: ans t w (st t s a).1
def wd (L : Nat) : Nat → List LI
  | 0 => [[]]
  | r + 1 => (wd L r).flatMap fun w => (nats L).map fun i => w ++ [i]
def told (t : Tb) (L r : Nat) (s : Int) : List LI := (wd L r).map fun w => ans t w s
def CL (t : Tb) (n L r : Nat) : LI := (nats n).map (fs (told t L r) n)
theorem enum_at {α : Type} {xs : List α} {i : Nat} {p : Int × α} (h : (enum xs)[i]? = some p) : p.1 = i ∧ xs[i]? = some p.2 := by
  unfold enum at h
  rw [List.getElem?_map, List.getElem?_zipIdx] at h
  cases hx : xs[i]? with
  | none => rw [hx] at h; cases h
  | some x => rw [hx] at h; cases h; exact ⟨by simp, rfl⟩
theorem enum_len {α : Type} (xs : List α) : (enum xs).length = xs.length := by unfold enum; rw [List.length_map, List.length_zipIdx]
section
variable {t : Tb} {n L : Nat} (w : WF t n L)
include w
theorem WF.rowAt {s : Int} (h0 : 0 ≤ s) (h1 : s < n) : t.2.2[s.toNat]? = some (rwt t s) ∧ (rwt t s).length = L ∧ ∀ p ∈ rwt t s, 0 ≤ p.1 ∧ p.1 < n := by
  have hl : s.toNat < t.2.2.length := by rw [w.hn]; omega
  have e := List.getElem?_eq_getElem hl
  have : rwt t s = t.2.2[s.toNat] := by unfold rwt; rw [e]; rfl
  rw [this]
  exact ⟨e, w.row _ _ e⟩
theorem next_ok {cls : LI} (hl : cls.length = n) : M_next_round t cls = .ok (nx t n cls) := by
  have n2 := w.n2
  unfold M_next_round
  simp only [ok_bind]
  obtain ⟨⟨kvs, fol⟩, e, i1, i2, i3⟩ := forE_inv0 (fun i (s : List (List (Int × Int) × Int) × LI) => (∀ k, lookD s.1 k = (nats i).find? fun z => decide (mark t cls z = k)) ∧ s.1.length ≤ i ∧ s.2 = (nats i).map (fs (mark t cls) n)) (f := B_next_round_1 cls) (xs := enum t.2.2) (s := ([], [])) ⟨fun k => rfl, Nat.zero_le _, rfl⟩ (by
    rintro i p ⟨kvs, fol⟩ hp ⟨i1, i2, i3⟩
    dsimp only at i1 i2 i3
    obtain ⟨e1, e2⟩ := enum_at hp
    have hi : i < n := by rw [← w.hn]; exact (List.getElem?_eq_some_iff.mp e2).1
    obtain ⟨q1, q2, q3⟩ := w.rowAt (s := (i : Int)) (by omega) (by omega)
    rw [Int.toNat_natCast, e2] at q1
    have e3 : p.2 = rwt t i := Option.some.inj q1
    obtain ⟨kvs', s1, s2, s3⟩ := setd_step (f := mark t cls) i1 i2 (by omega)
    refine ⟨(kvs', fol ++ [fs (mark t cls) n i]), ?_, s2, s3, ?_⟩
    · unfold B_next_round_1
      rw [e1, e3, comE_ok (g := fun p => (p.2, gi cls p.1)) (by rw [q2]; have := w.L4; omega) fun p hp => ?_]
      · simp only [ok_bind]
        show (E.bind (setdTE kvs (mark t cls i) (i : Int)) _) = _
        rw [s1, ok_bind, fs_up hi, appE_ok (by rw [i3, List.length_map, nats_len]; omega), ok_bind]
      · rw [gix (q3 p hp).1 (by rw [hl]; exact (q3 p hp).2)]; rfl
    · dsimp only
      rw [i3, nats_succ, List.map_append]; rfl)
  rw [enum_len, w.hn] at i3
  rw [e, ok_bind]
  dsimp only at i3 ⊢
  rw [i3]; rfl
theorem st_in {s a : Int} (h0 : 0 ≤ s) (h1 : s < n) (a0 : 0 ≤ a) (a1 : a < L) : 0 ≤ (st t s a).1 ∧ (st t s a).1 < n := by
  obtain ⟨q1, q2, q3⟩ := w.rowAt h0 h1
  unfold st
  have hl : a.toNat < (rwt t s).length := by omega
  rw [List.getElem?_eq_getElem hl]
  exact q3 _ (List.getElem_mem hl)
theorem ans_go : ∀ (ws : LI) (s : Int) (acc : LI), 0 ≤ s → s < n → (∀ x ∈ ws, 0 ≤ x ∧ x < L) → acc.length + ws.length ≤ 1000 → ∃ s', forE (B_law_answers_1 t) ws (s, acc) = .ok (s', acc ++ ans t ws s)
  | [], s, acc, _, _, _, _ => ⟨s, by unfold ans; rw [List.append_nil]; rfl⟩
  | a :: ws, s, acc, h0, h1, hw, hb => by
    rw [List.length_cons] at hb
    have ha := hw a List.mem_cons_self
    obtain ⟨q1, q2, q3⟩ := w.rowAt h0 h1
    have hs := st_in w h0 h1 ha.1 ha.2
    obtain ⟨s', e⟩ := ans_go ws (st t s a).1 (acc ++ [(st t s a).2]) hs.1 hs.2 (fun x hx => hw x (List.mem_cons_of_mem _ hx)) (by rw [List.length_append]; simp; omega)
    refine ⟨s', ?_⟩
    have hl : a.toNat < (rwt t s).length := by omega
    have hst : (rwt t s)[a.toNat]? = some (st t s a) := by unfold st; rw [List.getElem?_eq_getElem hl]; rfl
    unfold forE
    have hB : B_law_answers_1 t (s, acc) a = .ok ((st t s a).1, acc ++ [(st t s a).2]) := by
      unfold B_law_answers_1
      rw [ixE_at h0 q1, ok_bind, ixE_at ha.1 hst, ok_bind, appE_ok (by dsimp only; omega), ok_bind]
    rw [hB, ok_bind, e, show ans t (a :: ws) s = (st t s a).2 :: ans t ws (st t s a).1 from rfl, List.append_assoc]; rfl
theorem ans_ok {ws : LI} {s : Int} (h0 : 0 ≤ s) (h1 : s < n) (hw : ∀ x ∈ ws, 0 ≤ x ∧ x < L) (hb : ws.length ≤ 1000) : M_law_answers t s ws = .ok (ans t ws s) := by
  unfold M_law_answers
  obtain ⟨s', e⟩ := ans_go w ws s [] h0 h1 hw (by simpa using hb)
  rw [ok_bind, e]; rfl
omit w in
theorem mem_wd : ∀ (r : Nat) (x : LI), x ∈ wd L r ↔ x.length = r ∧ ∀ a ∈ x, 0 ≤ a ∧ a < L
  | 0, x => by
    unfold wd
    rw [List.mem_singleton, List.length_eq_zero_iff]
    constructor
    · intro h; subst h; exact ⟨rfl, fun a ha => by cases ha⟩
    · exact fun h => h.1
  | r + 1, x => by
    unfold wd
    rw [List.mem_flatMap]
    constructor
    · rintro ⟨y, hy, hx⟩
      obtain ⟨i, hi, rfl⟩ := List.mem_map.mp hx
      obtain ⟨h1, h2⟩ := (mem_wd r y).mp hy
      refine ⟨by rw [List.length_append, h1]; rfl, fun a ha => ?_⟩
      rcases List.mem_append.mp ha with ha | ha
      · exact h2 a ha
      · rw [List.mem_singleton.mp ha]; exact nats_mem.mp hi
    · rintro ⟨h1, h2⟩
      have hne : x ≠ [] := by intro z; subst z; cases h1
      have e := List.dropLast_concat_getLast hne
      refine ⟨x.dropLast, (mem_wd r _).mpr ⟨by rw [List.length_dropLast, h1]; rfl, fun a ha => h2 a ((List.dropLast_sublist _).mem ha)⟩, ?_⟩
      exact List.mem_map.mpr ⟨x.getLast hne, nats_mem.mpr (h2 _ (List.getLast_mem hne)), e⟩
omit w in
theorem wd_len : ∀ r, (wd L r).length = L ^ r
  | 0 => rfl
  | r + 1 => by
    unfold wd
    rw [List.length_flatMap]
    have : ∀ xs : List LI, (xs.map fun w => ((nats L).map fun i => w ++ [i]).length).sum = xs.length * L := fun xs => by
      induction xs with
      | nil => simp
      | cons x xs ih => rw [List.map_cons, List.sum_cons, ih, List.length_map, nats_len, List.length_cons, Nat.succ_mul, Nat.add_comm]
    rw [this, wd_len r, Nat.pow_succ]
theorem told_eq {r : Nat} {s s' : Int} : told t L r s = told t L r s' ↔ ∀ x ∈ wd L r, ans t x s = ans t x s' := by
  unfold told
  exact List.map_inj_left
theorem told_succ {r : Nat} {s s' : Int} (h0 : 0 ≤ s) (h1 : s < n) (h0' : 0 ≤ s') (h1' : s' < n) : told t L (r + 1) s = told t L (r + 1) s' ↔ mark t (CL t n L r) s = mark t (CL t n L r) s' := by
  obtain ⟨_, q2, q3⟩ := w.rowAt h0 h1
  obtain ⟨_, q2', q3'⟩ := w.rowAt h0' h1'
  have hrow : ∀ {z : Int}, 0 ≤ z → z < n → ∀ i : Nat, i < L → (rwt t z)[i]? = some (st t z i) := fun {z} z0 z1 i hi => by
    obtain ⟨_, p2, _⟩ := w.rowAt z0 z1
    unfold st
    rw [Int.toNat_natCast, List.getElem?_eq_getElem (by omega)]; rfl
  have hcl : ∀ {a b : Int}, 0 ≤ a → a < n → 0 ≤ b → b < n → (gi (CL t n L r) a = gi (CL t n L r) b ↔ told t L r a = told t L r b) := fun {a b} a0 a1 b0 b1 => by
    unfold CL
    rw [gi_map a0 a1, gi_map b0 b1]
    exact fs_eq a0 a1 b0 b1
  rw [told_eq w]
  constructor
  · intro h
    unfold mark
    refine List.ext_getElem? fun i => ?_
    rw [List.getElem?_map, List.getElem?_map]
    by_cases hi : i < L
    · rw [hrow h0 h1 i hi, hrow h0' h1' i hi]
      have a := st_in w h0 h1 (a := (i : Int)) (by omega) (by omega)
      have b := st_in w h0' h1' (a := (i : Int)) (by omega) (by omega)
      have hx : ∀ x ∈ wd L r, (st t s i).2 = (st t s' i).2 ∧ ans t x (st t s i).1 = ans t x (st t s' i).1 := fun x hx => by
        obtain ⟨x1, x2⟩ := (mem_wd r x).mp hx
        have := h ((i : Int) :: x) ((mem_wd (r + 1) _).mpr ⟨by rw [List.length_cons, x1], fun a ha => by
          rcases List.mem_cons.mp ha with z | z
          · rw [z]; omega
          · exact x2 a z⟩)
        unfold ans at this
        injection this with z1 z2
        exact ⟨z1, z2⟩
      have hne : List.replicate r (0 : Int) ∈ wd L r := (mem_wd r _).mpr ⟨List.length_replicate, fun a ha => by
        rw [(List.mem_replicate.mp ha).2]; have := w.L1; omega⟩
      refine congrArg some ?_
      show ((st t s i).2, gi (CL t n L r) (st t s i).1) = ((st t s' i).2, gi (CL t n L r) (st t s' i).1)
      rw [(hx _ hne).1, (hcl a.1 a.2 b.1 b.2).mpr ((told_eq w).mpr fun x q => (hx x q).2)]
    · rw [List.getElem?_eq_none (by omega), List.getElem?_eq_none (by omega)]
  · intro h x hx
    obtain ⟨x1, x2⟩ := (mem_wd (r + 1) x).mp hx
    cases x with
    | nil => cases x1
    | cons a x =>
      have ha := x2 a List.mem_cons_self
      have hm : x ∈ wd L r := (mem_wd r x).mpr ⟨by simpa using x1, fun b hb => x2 b (List.mem_cons_of_mem _ hb)⟩
      obtain ⟨i, rfl⟩ := Int.eq_ofNat_of_zero_le ha.1
      have hi : i < L := by omega
      have := congrArg (fun l : List (Int × Int) => l[i]?) h
      unfold mark at this
      try dsimp only at this
      rw [List.getElem?_map, List.getElem?_map, hrow h0 h1 i hi, hrow h0' h1' i hi] at this
      injection this with this
      injection this with z1 z2
      have a := st_in w h0 h1 (a := (i : Int)) (by omega) (by omega)
      have b := st_in w h0' h1' (a := (i : Int)) (by omega) (by omega)
      unfold ans
      rw [z1, (told_eq w).mp ((hcl a.1 a.2 b.1 b.2).mp z2) x hm]
theorem CL_next (r : Nat) : nx t n (CL t n L r) = CL t n L (r + 1) := by
  unfold nx CL
  refine List.map_congr_left fun s hs => ?_
  have hs := nats_mem.mp hs
  exact fs_congr hs.1 hs.2 fun a b a0 a1 b0 b1 => (told_succ w a0 a1 b0 b1).symm
end
end K62
namespace K62
open PySem PV TM
theorem ix_last {α : Type} (xs : List α) (x : α) : ixE (xs ++ [x]) (-1) = .ok x := by
  have : L2.ixN (xs ++ [x]).length (-1) = some xs.length := by
    unfold L2.ixN
    rw [List.length_append, if_neg (by omega), if_pos (by simp only [List.length_cons, List.length_nil]; omega)]
    simp only [List.length_cons, List.length_nil]
    congr 1
    omega
  unfold ixE L2.atI
  rw [this]
  show (match (xs ++ [x])[xs.length]? with | some a => E.ok a | none => .st) = _
  rw [List.getElem?_append_right (Nat.le_refl _), Nat.sub_self]; rfl
def DU (t : Tb) (n L k : Nat) : List LI := (List.range k).map (CL t n L)
theorem DU_s {t : Tb} {n L k : Nat} : DU t n L (k + 1) = DU t n L k ++ [CL t n L k] := by unfold DU; rw [List.range_succ, List.map_append]; rfl
theorem DU_len {t : Tb} {n L k : Nat} : (DU t n L k).length = k := by unfold DU; rw [List.length_map, List.length_range]
theorem ans_len (t : Tb) : ∀ (x : LI) (s : Int), (ans t x s).length = x.length
  | [], _ => rfl
  | a :: x, s => by show (_ :: ans t x _).length = _; rw [List.length_cons, ans_len t x, List.length_cons]
theorem ans_app (t : Tb) : ∀ (x y : LI) (s : Int), ∃ s', ans t (x ++ y) s = ans t x s ++ ans t y s'
  | [], y, s => ⟨s, rfl⟩
  | a :: x, y, s => by
    obtain ⟨s', e⟩ := ans_app t x y (st t s a).1
    exact ⟨s', by show _ :: ans t (x ++ y) _ = _; rw [e]; rfl⟩
theorem longer_in (w : LI) (hw : w.length ≤ 100) (L : Nat) (acc : List LI) (hb : acc.length + L ≤ 16777216) : forE (B_law_longer_1 w) (nats L) acc = .ok (acc ++ (nats L).map fun i => w ++ [i]) :=
  forE_app (by rw [nats_len]; omega) fun s i _ => by
    unfold B_law_longer_1
    rw [catE_ok (by simp; omega), ok_bind, bind_ok_r]
theorem longer_go (L : Nat) (hL : L ≤ 4) : ∀ (ws acc : List LI), (∀ x ∈ ws, x.length ≤ 100) → acc.length + ws.length * L ≤ 100000 → forE (B_law_longer_2 (L : Int)) ws acc = .ok (acc ++ ws.flatMap fun w => (nats L).map fun i => w ++ [i])
  | [], acc, _, _ => by simp [forE]
  | x :: ws, acc, hw, hb => by
    rw [List.length_cons, Nat.succ_mul] at hb
    unfold forE
    have hB : B_law_longer_2 (L : Int) acc x = .ok (acc ++ (nats L).map fun i => x ++ [i]) := by
      unfold B_law_longer_2
      rw [rg1_nat (by omega), ok_bind, longer_in x (hw x List.mem_cons_self) L acc (by omega), ok_bind]
    rw [hB, ok_bind, longer_go L hL ws _ (fun y hy => hw y (List.mem_cons_of_mem _ hy)) (by rw [List.length_append, List.length_map, nats_len]; omega), List.flatMap_cons, List.append_assoc]
section
variable {t : Tb} {n L : Nat} (w : WF t n L)
include w
theorem WF.small {r : Nat} (hr : r ≤ n) : L ^ r ≤ 1024 := Nat.le_trans (Nat.pow_le_pow_right w.L1 hr) w.pw
theorem longer_ok {r : Nat} (hr : r ≤ n) : M_law_longer (wd L r) (L : Int) = .ok (wd L (r + 1)) := by
  have h1 := w.small hr
  have h4 := w.L4
  unfold M_law_longer
  rw [ok_bind, longer_go L h4 (wd L r) [] (fun x hx => by rw [((mem_wd r x).mp hx).1]; have := w.n2; omega) (by rw [wd_len]; have := Nat.mul_le_mul h1 h4; simp; omega)]
  rfl
theorem CL_len {r : Nat} : (CL t n L r).length = n := by unfold CL; rw [List.length_map, nats_len]
theorem told_pre {r : Nat} {s s' : Int} (h : told t L (r + 1) s = told t L (r + 1) s') : told t L r s = told t L r s' := by
  rw [told_eq w] at h ⊢
  intro x hx
  obtain ⟨x1, x2⟩ := (mem_wd r x).mp hx
  have := h (x ++ [0]) ((mem_wd (r + 1) _).mpr ⟨by rw [List.length_append, x1]; rfl, fun a ha => by
    rcases List.mem_append.mp ha with z | z
    · exact x2 a z
    · rw [List.mem_singleton.mp z]; have := w.L1; omega⟩)
  obtain ⟨q, e⟩ := ans_app t x [0] s
  obtain ⟨q', e'⟩ := ans_app t x [0] s'
  rw [e, e'] at this
  exact List.append_inj_left this (by rw [ans_len, ans_len])
/-- the first of each class -/
def rep (t : Tb) (n L r : Nat) : LI := (nats n).filter fun s => decide (fs (told t L r) n s = s)
theorem fs_self {r : Nat} {s : Int} (h0 : 0 ≤ s) (h1 : s < n) : fs (told t L r) n (fs (told t L r) n s) = fs (told t L r) n s := by
  obtain ⟨z, _, e1, z0, z1, e2⟩ := fs_in (f := told t L r) h0 h1
  rw [e1]
  rw [← e1]
  exact (fs_eq (by rw [e1]; exact z0) (by rw [e1]; exact z1) h0 h1).mpr (by rw [e1]; exact e2)
omit w in
theorem fs_le {κ : Type} [DecidableEq κ] {f : Int → κ} {s z : Int} (h0 : 0 ≤ s) (h1 : s < n) (z0 : 0 ≤ z) (hz : z < n) (e : f z = f s) : fs f n s ≤ z := by
  obtain ⟨y, e1, e2, _⟩ := fs_in (f := f) h0 h1
  rw [e2]
  rcases (show z < y ∨ y ≤ z by omega) with c | c
  · exfalso
    have : (nats (z.toNat + 1)).find? (fun q => decide (f q = f s)) ≠ none := by
      rw [Ne, List.find?_eq_none]
      intro h
      exact h z (nats_mem.mpr ⟨z0, by omega⟩) (decide_eq_true e)
    cases hf : (nats (z.toNat + 1)).find? fun q => decide (f q = f s) with
    | none => exact this hf
    | some q =>
      have h2 := find_nats_le (n := n) (by omega) hf
      rw [e1] at h2
      cases h2
      have := nats_mem.mp (List.mem_of_find?_eq_some hf)
      omega
  · exact c
theorem rep_sub {r : Nat} {s : Int} (h : s ∈ rep t n L r) : s ∈ rep t n L (r + 1) := by
  obtain ⟨h1, h2⟩ := List.mem_filter.mp h
  have hs := nats_mem.mp h1
  have h2 := of_decide_eq_true h2
  refine List.mem_filter.mpr ⟨h1, decide_eq_true ?_⟩
  obtain ⟨z, _, e1, z0, z1, e2⟩ := fs_in (f := told t L (r + 1)) hs.1 hs.2
  have a := fs_le hs.1 hs.2 hs.1 hs.2 (f := told t L (r + 1)) rfl
  have b := fs_le (f := told t L r) hs.1 hs.2 z0 z1 (told_pre w e2)
  rw [h2] at b
  rw [e1] at a ⊢
  omega
theorem rep_more {r : Nat} (h : CL t n L (r + 1) ≠ CL t n L r) : (rep t n L r).length < (rep t n L (r + 1)).length := by
  have : ∃ s : Int, (0 ≤ s ∧ s < n) ∧ fs (told t L (r + 1)) n s ≠ fs (told t L r) n s := by
    refine Classical.byContradiction fun c => h ?_
    unfold CL
    refine List.map_congr_left fun s hs => ?_
    refine Classical.byContradiction fun q => c ⟨s, nats_mem.mp hs, q⟩
  obtain ⟨s, hs, hne⟩ := this
  obtain ⟨z, _, e1, z0, z1, e2⟩ := fs_in (f := told t L (r + 1)) hs.1 hs.2
  have m1 : z ∈ rep t n L (r + 1) := List.mem_filter.mpr ⟨nats_mem.mpr ⟨z0, z1⟩, decide_eq_true (by rw [← e1]; exact fs_self w hs.1 hs.2)⟩
  have m2 : ¬ z ∈ rep t n L r := fun m => by
    have q := of_decide_eq_true (List.mem_filter.mp m).2
    have := (fs_eq (f := told t L r) (n := n) z0 z1 hs.1 hs.2).mpr (told_pre w e2)
    exact hne (by rw [e1, ← this, q])
  have sub : (rep t n L r).Sublist (rep t n L (r + 1)) := by
    have : rep t n L r = (rep t n L (r + 1)).filter fun s => decide (fs (told t L r) n s = s) := by
      unfold rep
      rw [List.filter_filter]
      refine List.filter_congr fun s hs => ?_
      by_cases c : fs (told t L r) n s = s
      · have := of_decide_eq_true (List.mem_filter.mp (rep_sub w (List.mem_filter.mpr ⟨hs, decide_eq_true c⟩))).2
        rw [decide_eq_true c, decide_eq_true this]; rfl
      · rw [decide_eq_false c]; rfl
    rw [this]
    exact List.filter_sublist
  refine Nat.lt_of_le_of_ne sub.length_le fun e => ?_
  have := sub.eq_of_length e
  rw [this] at m2
  exact m2 m1
theorem CL_end : ∃ K, K + 1 ≤ n ∧ CL t n L (K + 1) = CL t n L K ∧ ∀ k, k < K → CL t n L (k + 1) ≠ CL t n L k := by
  have n1 := w.n1
  have key : ∀ k, (∃ K, K < k ∧ CL t n L (K + 1) = CL t n L K ∧ ∀ j, j < K → CL t n L (j + 1) ≠ CL t n L j) ∨ ((∀ j, j < k → CL t n L (j + 1) ≠ CL t n L j) ∧ k + 1 ≤ (rep t n L k).length) := by
    intro k
    induction k with
    | zero =>
      refine .inr ⟨fun j hj => by omega, ?_⟩
      have : (0 : Int) ∈ rep t n L 0 := by
        refine List.mem_filter.mpr ⟨nats_mem.mpr ⟨by omega, by omega⟩, decide_eq_true ?_⟩
        have a := fs_le (f := told t L 0) (n := n) (s := 0) (z := 0) (by omega) (by omega) (by omega) (by omega) rfl
        obtain ⟨z, _, e1, z0, _⟩ := fs_in (f := told t L 0) (n := n) (s := 0) (by omega) (by omega)
        rw [e1] at a ⊢
        omega
      exact List.length_pos_of_mem this
    | succ k ih =>
      rcases ih with ⟨K, h1, h2⟩ | ⟨h1, h2⟩
      · exact .inl ⟨K, by omega, h2⟩
      · by_cases c : CL t n L (k + 1) = CL t n L k
        · exact .inl ⟨k, by omega, c, h1⟩
        · have := rep_more w c
          refine .inr ⟨fun j hj => ?_, by omega⟩
          by_cases e : j = k
          · subst e; exact c
          · exact h1 j (by omega)
  rcases key n with ⟨K, h1, h2⟩ | ⟨_, h⟩
  · exact ⟨K, by omega, h2⟩
  · have : (rep t n L n).length ≤ (nats n).length := List.length_filter_le _ _
    rw [nats_len] at this
    omega
end
end K62
namespace K62
open PySem PV TM
section
variable {t : Tb} {n L : Nat} (w : WF t n L)
include w
/-! the law's list -/
/-! the program's -/
theorem CL_0 : CL t n L 0 = (nats n).map fun _ => 0 := by
  have n1 := w.n1
  unfold CL
  refine List.map_congr_left fun s hs => ?_
  have hs := nats_mem.mp hs
  have a := fs_le (f := told t L 0) (n := n) (s := s) (z := 0) hs.1 hs.2 (by omega) (by omega) rfl
  obtain ⟨z, _, e1, z0, _⟩ := fs_in (f := told t L 0) (n := n) (s := s) hs.1 hs.2
  rw [e1] at a ⊢
  omega
theorem loop_go {K : Nat} (hK : K + 1 ≤ n) (h1 : CL t n L (K + 1) = CL t n L K) (h2 : ∀ k, k < K → CL t n L (k + 1) ≠ CL t n L k) (f m : Nat) : ∀ k, k + m = K → whileE C_class_rounds_1 (B_class_rounds_1 t) (f + m + 1) (DU t n L (k + 1), CL t n L (k + 1)) = .ok (DU t n L (K + 1), CL t n L (K + 1)) := by
  induction m with
  | zero =>
    intro k e
    have e : k = K := by omega
    subst e
    rw [Nat.add_zero]
    unfold whileE C_class_rounds_1
    have hx : ixE (DU t n L (k + 1)) (-1) = .ok (CL t n L k) := by rw [DU_s]; exact ix_last _ _
    simp only [hx, ok_bind, h1, decide_true, Bool.not_true, Bool.false_eq_true, if_false]
  | succ m ih =>
    intro k e
    have ih := ih (k + 1) (by omega)
    rw [show f + (m + 1) + 1 = f + m + 1 + 1 by omega]
    unfold whileE
    have hx : ixE (DU t n L (k + 1)) (-1) = .ok (CL t n L k) := by rw [DU_s]; exact ix_last _ _
    have hne := h2 k (by omega)
    have hC : C_class_rounds_1 (DU t n L (k + 1), CL t n L (k + 1)) = .ok true := by
      unfold C_class_rounds_1
      simp only [hx, ok_bind, hne, decide_false, Bool.not_false]
    have hB : B_class_rounds_1 t (DU t n L (k + 1), CL t n L (k + 1)) = .ok (DU t n L (k + 2), CL t n L (k + 2)) := by
      unfold B_class_rounds_1
      rw [appE_ok (by rw [DU_len]; have := w.n2; omega), ok_bind, next_ok w (CL_len w), CL_next w]
      show E.ok (DU t n L (k + 1) ++ [CL t n L (k + 1)], CL t n L (k + 1 + 1)) = _
      rw [← DU_s]
    rw [hC, ok_bind, if_pos rfl, hB, ok_bind]
    exact ih
theorem rounds_ok {K : Nat} (hK : K + 1 ≤ n) (h1 : CL t n L (K + 1) = CL t n L K) (h2 : ∀ k, k < K → CL t n L (k + 1) ≠ CL t n L k) : M_class_rounds t = .ok (DU t n L (K + 1)) := by
  have n2 := w.n2
  have h0 : (t.2.2.map fun _ => (0 : Int)) = CL t n L 0 := by
    rw [CL_0 w]
    refine List.ext_getElem? fun i => ?_
    rw [List.getElem?_map, List.getElem?_map]
    by_cases c : i < n
    · rw [nats_get c, List.getElem?_eq_getElem (by rw [w.hn]; exact c)]; rfl
    · rw [List.getElem?_eq_none (by rw [w.hn]; omega), List.getElem?_eq_none (by rw [nats_len]; omega)]; rfl
  have hf : K + 1 ≤ fuel := by unfold fuel; omega
  obtain ⟨f, hf⟩ := Nat.exists_eq_add_of_le hf
  have e := loop_go w hK h1 h2 f K 0 (by omega)
  rw [show f + K + 1 = fuel by omega] at e
  unfold M_class_rounds
  rw [mapE_ok (by rw [w.hn]; omega), h0]
  simp only [ok_bind]
  rw [ixE_0, ok_bind, next_ok w (CL_len w), CL_next w]
  try simp only [nex_ok]
  rw [ok_bind]
  have e' : whileE C_class_rounds_1 (B_class_rounds_1 t) fuel ([CL t n L 0], CL t n L (0 + 1)) = .ok (DU t n L (K + 1), CL t n L (K + 1)) := e
  rw [e']
  rfl
/-! alike for every word -/
theorem CL_stable {K : Nat} (h1 : CL t n L (K + 1) = CL t n L K) : ∀ j, CL t n L (K + j) = CL t n L K
  | 0 => rfl
  | j + 1 => by
    have := CL_stable h1 j
    rw [← Nat.add_assoc, ← CL_next w, this, CL_next w, h1]
theorem alike {K : Nat} (h1 : CL t n L (K + 1) = CL t n L K) {s s' : Int} (h0 : 0 ≤ s) (hs : s < n) (h0' : 0 ≤ s') (hs' : s' < n) (e : gi (CL t n L K) s = gi (CL t n L K) s') (x : LI) (hx : ∀ a ∈ x, 0 ≤ a ∧ a < L) : ans t x s = ans t x s' := by
  have up : ∀ j, told t L (K + j) s = told t L (K + j) s' := fun j => by
    have q := CL_stable w h1 j
    rw [← q] at e
    unfold CL at e
    rw [gi_map h0 hs, gi_map h0' hs'] at e
    exact (fs_eq h0 hs h0' hs').mp e
  have down : ∀ r, told t L r s = told t L r s' := fun r => by
    by_cases c : K ≤ r
    · have := up (r - K)
      rw [show K + (r - K) = r by omega] at this
      exact this
    · have : ∀ d, d ≤ K → told t L (K - d) s = told t L (K - d) s' := fun d => by
        induction d with
        | zero => intro _; exact up 0
        | succ d ih =>
          intro hd
          have := ih (by omega)
          rw [show K - d = (K - (d + 1)) + 1 by omega] at this
          exact told_pre w this
      have := this (K - r) (by omega)
      rw [show K - (K - r) = r by omega] at this
      exact this
  exact (told_eq w).mp (down x.length) x ((mem_wd _ _).mpr ⟨rfl, hx⟩)
theorem num_alike {K : Nat} (h1 : CL t n L (K + 1) = CL t n L K) {s : Int} (h0 : 0 ≤ s) (hs : s < n) (x : LI) (hx : ∀ a ∈ x, 0 ≤ a ∧ a < L) : (0 ≤ gi (CL t n L K) s ∧ gi (CL t n L K) s < n) ∧ ans t x s = ans t x (gi (CL t n L K) s) := by
  obtain ⟨z, _, e1, z0, z1, e2⟩ := fs_in (f := told t L K) h0 hs
  have hg : gi (CL t n L K) s = z := by unfold CL; rw [gi_map h0 hs, e1]
  rw [hg]
  refine ⟨⟨z0, z1⟩, alike w h1 h0 hs z0 z1 ?_ x hx⟩
  unfold CL
  rw [gi_map h0 hs, gi_map z0 z1]
  exact (fs_eq h0 hs z0 z1).mpr e2.symm
end
end K62
namespace K62
open PySem PV TM
def RowOk (L n : Nat) (r : List (Int × Int)) : Prop := r.length = L ∧ ∀ p ∈ r, 0 ≤ p.1 ∧ p.1 < n
theorem rep2 (a b : Int) (k : Nat) : ((List.replicate k [a, b]).flatten).length = 2 * k ∧ ∀ s ∈ (List.replicate k [a, b]).flatten, s = a ∨ s = b := by
  constructor
  · induction k with
    | zero => rfl
    | succ k ih => rw [List.replicate_succ, List.flatten_cons, List.length_append, ih]; simp only [List.length_cons, List.length_nil]; omega
  · intro s hs
    obtain ⟨l, hl, hs⟩ := List.mem_flatten.mp hs
    rw [List.mem_replicate] at hl
    rw [hl.2] at hs
    simpa using hs
theorem parts2 (cell : Int) (k : Nat) (hk : k ≤ 8) : ∃ ps, (E.bind (repE [32, 64] (k : Int)) fun t => M_law_parts cell t) = .ok ps ∧ ps.length = 2 * k ∧ ∀ i : Int, 0 ≤ i → i < 2 * k → 0 ≤ gi ps i ∧ gi ps i < 64 := by
  obtain ⟨h1, h2⟩ := rep2 32 64 k
  obtain ⟨ps, e, q⟩ := parts_ok cell ((List.replicate k [32, 64]).flatten) (by rw [h1]; omega) (fun s hs => by rcases h2 s hs with rfl | rfl <;> omega)
  refine ⟨ps, ?_, by rw [q.length, h1], fun i i0 i1 => ?_⟩
  · rw [repE_ok (by omega) (by omega) (by simp; omega), ok_bind, Int.toNat_natCast]
    exact e
  · have hl : i.toNat < ((List.replicate k [(32 : Int), 64]).flatten).length := by rw [h1]; omega
    obtain ⟨a, e1, e2⟩ := q.get (List.getElem?_eq_getElem hl)
    have h3 := h2 _ (List.getElem_mem hl)
    unfold gi
    rw [e1]
    simp only [Option.getD_some]
    omega
theorem answer_ok (mode top part : Int) (ht : 0 ≤ top ∧ top ≤ 63) (hp : 0 ≤ part ∧ part < 64) : ∃ x, M_law_answer mode top part = .ok x := by
  unfold M_law_answer
  by_cases c : mode = 0
  · rw [decide_eq_true c, if_pos rfl, modE_ok (by omega)]; exact ⟨_, rfl⟩
  · rw [decide_eq_false c, if_neg Bool.false_ne_true]
    by_cases c : mode = 1
    · rw [decide_eq_true c, if_pos rfl]; exact ⟨_, rfl⟩
    · rw [decide_eq_false c, if_neg Bool.false_ne_true, mulE_l (by omega) (by omega)]; exact ⟨_, rfl⟩
theorem table_ok (ns : List Int) (h0 h1 h3 : Int) (m L : Nat) (hL : ixE [1, 2, 4] h0 = .ok (L : Int)) (L1 : 1 ≤ L) (L4 : L ≤ 4) (b1 : 0 ≤ h1 ∧ h1 < 6) (hm : 1 + m ≤ 32) (pw : L ^ (1 + m) ≤ 1024) : ∃ t, M_law_table ns 2 [h0, h1, (m : Int), h3] = .ok t ∧ t.1 = h0 ∧ WF t (1 + m) L := by
  have ht : ∃ top : Int, ixE [1, 3, 7, 15, 31, 63] h1 = .ok top ∧ 0 ≤ top ∧ top ≤ 63 := by
    have : h1 = 0 ∨ h1 = 1 ∨ h1 = 2 ∨ h1 = 3 ∨ h1 = 4 ∨ h1 = 5 := by omega
    rcases this with rfl | rfl | rfl | rfl | rfl | rfl
    · exact ⟨1, ixE_0, by omega⟩
    · exact ⟨3, ixE_1, by omega⟩
    · exact ⟨7, ixE_2, by omega⟩
    · exact ⟨15, ixE_3, by omega⟩
    · exact ⟨31, ixE_4, by omega⟩
    · exact ⟨63, ixE_5, by omega⟩
  obtain ⟨top, etop, t0, t1⟩ := ht
  have i0 : ixE [h0, h1, (m : Int), h3] 0 = .ok h0 := ixE_0
  have i1 : ixE [h0, h1, (m : Int), h3] 1 = .ok h1 := ixE_1
  have i2 : ixE [h0, h1, (m : Int), h3] 2 = .ok (m : Int) := ixE_2
  have i3 : ixE [h0, h1, (m : Int), h3] 3 = .ok h3 := ixE_3
  unfold M_law_table
  rw [i1, ok_bind, etop, ok_bind, ok_bind, i2, ok_bind, ok_bind, show (1 : Int) + (m : Int) = ((1 + m : Nat) : Int) by omega, rg1_nat (by omega), ok_bind]
  generalize hhd : [h0, h1, (m : Int), h3] = hd at i0 i1 i2 i3
  obtain ⟨rows, e, q1, q2⟩ := forE_inv0 (fun i (s : List (List (Int × Int))) => s.length = i ∧ ∀ r ∈ s, RowOk L (1 + m) r) (f := B_law_table_2 ns 2 hd top) (xs := nats (1 + m)) (s := []) ⟨rfl, fun r hr => by cases hr⟩ (by
    rintro i x s hx ⟨q1, q2⟩
    obtain ⟨hi, rfl⟩ := nats_at hx
    obtain ⟨y, e0⟩ := far_ok ns (2 + (i : Int)) (by omega)
    obtain ⟨ps, e1, hl, hp⟩ := parts2 y L (by omega)
    obtain ⟨r, e2, z1, z2⟩ := forE_inv0 (fun j (r : List (Int × Int)) => r.length = j ∧ ∀ p ∈ r, 0 ≤ p.1 ∧ p.1 < ((1 + m : Nat) : Int)) (f := B_law_table_1 ps hd top) (xs := nats L) (s := []) ⟨rfl, fun p hp => by cases hp⟩ (by
      rintro j x r hx ⟨z1, z2⟩
      obtain ⟨hj, rfl⟩ := nats_at hx
      obtain ⟨v, ev⟩ := answer_ok h3 top (gi ps (2 * (j : Int) + 1)) ⟨t0, t1⟩ (hp _ (by omega) (by omega))
      refine ⟨r ++ [(gi ps (2 * (j : Int)) % ((1 + m : Nat) : Int), v)], ?_, by rw [List.length_append, z1]; rfl, fun p hp => ?_⟩
      · unfold B_law_table_1
        rw [gix (xs := ps) (i := 2 * (j : Int)) (by omega) (by omega), gix (xs := ps) (i := 2 * (j : Int) + 1) (by omega) (by omega), i2, i3]
        simp only [ok_bind]
        rw [show (1 : Int) + (m : Int) = ((1 + m : Nat) : Int) by omega, modE_ok (by omega)]
        simp only [ok_bind]
        rw [ev]
        simp only [ok_bind]
        rw [appE_ok (by omega), ok_bind]
      · rcases List.mem_append.mp hp with hp | hp
        · exact z2 p hp
        · rw [List.mem_singleton] at hp
          rw [hp]
          exact ⟨Int.emod_nonneg _ (by omega), Int.emod_lt_of_pos _ (by omega)⟩)
    rw [nats_len] at z1
    refine ⟨s ++ [r], ?_, by rw [List.length_append, q1]; rfl, fun r' hr => ?_⟩
    · unfold B_law_table_2
      rw [e0, ok_bind, i0, ok_bind, hL, ok_bind, e1, ok_bind, ok_bind, hl, show ((2 * L : Nat) : Int) / 2 = (L : Int) by omega, rg1_nat (by omega), ok_bind, e2, ok_bind, appE_ok (by omega), ok_bind]
    · rcases List.mem_append.mp hr with hr | hr
      · exact q2 r' hr
      · rw [List.mem_singleton.mp hr]
        exact ⟨z1, z2⟩)
  rw [nats_len] at q1
  rw [e, ok_bind, i0, ok_bind]
  simp only [i1, ok_bind]
  exact ⟨_, rfl, rfl, q1, by omega, hm, L1, L4, pw, fun k r hr => q2 r (List.mem_of_getElem? hr)⟩
end K62
namespace K62
open PySem PV TM
/-! words in their order -/
def cd (L : Nat) (w : LI) : Nat := w.foldl (fun c l => L * c + l.toNat + 1) 0
theorem cd_app (L : Nat) (w : LI) (x : Int) : cd L (w ++ [x]) = L * cd L w + x.toNat + 1 := by unfold cd; rw [List.foldl_append]; rfl
def InL (L : Nat) (w : LI) : Prop := ∀ a ∈ w, 0 ≤ a ∧ a < L
theorem InL.app {L : Nat} {w : LI} {x : Int} (h : InL L w) (h0 : 0 ≤ x) (h1 : x < L) : InL L (w ++ [x]) := fun a ha => by
  rcases List.mem_append.mp ha with z | z
  · exact h a z
  · rw [List.mem_singleton.mp z]; exact ⟨h0, h1⟩
theorem InL.init {L : Nat} {w : LI} {x : Int} (h : InL L (w ++ [x])) : InL L w ∧ 0 ≤ x ∧ x < L :=
  ⟨fun a ha => h a (List.mem_append.mpr (.inl ha)), h x (List.mem_append.mpr (.inr (List.mem_singleton.mpr rfl)))⟩
theorem snoc_cases (w : LI) : w = [] ∨ ∃ u x, w = u ++ [x] := by
  by_cases c : w = []
  · exact .inl c
  · exact .inr ⟨w.dropLast, w.getLast c, (List.dropLast_concat_getLast c).symm⟩
def offs (L : Nat) : Nat → Nat
  | 0 => 0
  | r + 1 => L * offs L r + 1
theorem cd_bd {L : Nat} : ∀ (r : Nat) (w : LI), w.length = r → InL L w → offs L r ≤ cd L w ∧ cd L w < offs L (r + 1)
  | 0, w, h, _ => by
    have : w = [] := List.length_eq_zero_iff.mp h
    subst this
    exact ⟨Nat.le_refl _, by show 0 < L * offs L 0 + 1; omega⟩
  | r + 1, w, h, hi => by
    rcases snoc_cases w with rfl | ⟨u, x, rfl⟩
    · cases h
    · rw [List.length_append] at h
      obtain ⟨h1, h2, h3⟩ := hi.init
      obtain ⟨i1, i2⟩ := cd_bd r u (by simpa using h) h1
      have e1 := Nat.mul_le_mul_left L i1
      have e2 := Nat.mul_le_mul_left L (show cd L u + 1 ≤ offs L (r + 1) from i2)
      rw [cd_app]
      rw [Nat.mul_succ] at e2
      constructor
      · show L * offs L r + 1 ≤ _
        omega
      · show _ < L * offs L (r + 1) + 1
        omega
theorem offs_mono {L : Nat} (hL : 1 ≤ L) : ∀ (r d : Nat), offs L r ≤ offs L (r + d)
  | r, 0 => Nat.le_refl _
  | r, d + 1 => by
    have := offs_mono hL r d
    have h : 1 * offs L (r + d) ≤ L * offs L (r + d) := Nat.mul_le_mul_right _ hL
    show _ ≤ L * offs L (r + d) + 1
    omega
theorem cd_short {L : Nat} (hL : 1 ≤ L) {u w : LI} (hu : InL L u) (hw : InL L w) (h : u.length < w.length) : cd L u < cd L w := by
  have a := cd_bd _ u rfl hu
  have b := cd_bd _ w rfl hw
  have c := offs_mono hL (u.length + 1) (w.length - (u.length + 1))
  rw [show u.length + 1 + (w.length - (u.length + 1)) = w.length by omega] at c
  omega
theorem cd_len {L : Nat} (hL : 1 ≤ L) {u w : LI} (hu : InL L u) (hw : InL L w) (h : cd L u ≤ cd L w) : u.length ≤ w.length := by
  rcases Nat.lt_or_ge w.length u.length with c | c
  · have := cd_short hL hw hu c; omega
  · exact c
def go (t : Tb) : LI → Int → Int
  | [], s => s
  | a :: w, s => go t w (st t s a).1
theorem go_app (t : Tb) : ∀ (w : LI) (x s : Int), go t (w ++ [x]) s = (st t (go t w s) x).1
  | [], _, _ => rfl
  | a :: w, x, s => go_app t w x (st t s a).1
theorem ans_snoc (t : Tb) : ∀ (w : LI) (x s : Int), ans t (w ++ [x]) s = ans t w s ++ [(st t (go t w s) x).2]
  | [], _, _ => rfl
  | a :: w, x, s => by
    show _ :: ans t (w ++ [x]) _ = _
    rw [ans_snoc t w x]; rfl
/-! generic -/
theorem nodup_le {α : Type} [DecidableEq α] : ∀ {xs ys : List α}, xs.Nodup → (∀ x ∈ xs, x ∈ ys) → xs.length ≤ ys.length
  | [], ys, _, _ => Nat.zero_le _
  | x :: xs, ys, h, hs => by
    have hx := hs x List.mem_cons_self
    have hn := List.nodup_cons.mp h
    have ih := nodup_le (xs := xs) (ys := ys.erase x) hn.2 (fun y hy => (List.mem_erase_of_ne (fun e => hn.1 (by rw [← e]; exact hy))).mpr (hs y (List.mem_cons_of_mem _ hy)))
    rw [List.length_erase_of_mem hx] at ih
    have := List.length_pos_of_mem hx
    rw [List.length_cons]; omega
theorem pairs_le {n n' : Nat} {ps : List (Int × Int)} (h : ps.Nodup) (hs : ∀ p ∈ ps, (0 ≤ p.1 ∧ p.1 < n) ∧ 0 ≤ p.2 ∧ p.2 < n') : ps.length ≤ n * n' := by
  have := nodup_le (ys := (nats n).flatMap fun i => (nats n').map fun j => (i, j)) h fun p hp => by
    obtain ⟨h1, h2⟩ := hs p hp
    exact List.mem_flatMap.mpr ⟨p.1, nats_mem.mpr h1, List.mem_map.mpr ⟨p.2, nats_mem.mpr h2, rfl⟩⟩
  have e : ∀ xs : LI, (xs.flatMap fun i => (nats n').map fun j => (i, j)).length = xs.length * n' := fun xs => by
    induction xs with
    | nil => simp
    | cons x xs ih => rw [List.flatMap_cons, List.length_append, ih, List.length_map, nats_len, List.length_cons, Nat.succ_mul, Nat.add_comm]
  rw [e, nats_len] at this
  exact this
section
variable {κ β : Type} [DecidableEq κ]
theorem lookD_mem : ∀ {kvs : List (κ × β)} {k : κ} {x : β}, (kvs.map (·.1)).Nodup → (k, x) ∈ kvs → lookD kvs k = some x
  | (k', x') :: kvs, k, x, h, hm => by
    rw [List.map_cons, List.nodup_cons] at h
    unfold lookD
    rcases List.mem_cons.mp hm with e | e
    · cases e; rw [if_pos rfl]
    · have : ¬ k' = k := fun z => h.1 (List.mem_map.mpr ⟨(k, x), e, z.symm⟩)
      rw [if_neg this]
      exact lookD_mem h.2 e
theorem lookD_none : ∀ {kvs : List (κ × β)} {k : κ}, k ∉ kvs.map (·.1) → lookD kvs k = none
  | [], _, _ => rfl
  | (k', x') :: kvs, k, h => by
    rw [List.map_cons, List.mem_cons] at h
    unfold lookD
    rw [if_neg fun z => h (.inl z.symm)]
    exact lookD_none fun z => h (.inr z)
theorem putD_new {kvs : List (κ × β)} {k : κ} {x : β} (h : k ∉ kvs.map (·.1)) : putD kvs k x = kvs ++ [(k, x)] := by
  unfold putD
  have : ¬ (kvs.any fun p => decide (p.1 = k)) = true := fun z => by
    obtain ⟨p, hp, e⟩ := List.any_eq_true.mp z
    exact h (List.mem_map.mpr ⟨p, hp, of_decide_eq_true e⟩)
  rw [if_neg this]
end
section
variable {α σ ρ : Type}
theorem forR_or {f : σ → α → E (Fl σ ρ)} (I : Nat → σ → Prop) (P : ρ → Prop) : ∀ (xs : List α) (j : Nat) (s : σ), I j s → (∀ i x s, xs[i]? = some x → I (j + i) s → (∃ s', f s x = .ok (.nx s') ∧ I (j + i + 1) s') ∨ ∃ r, f s x = .ok (.rt r) ∧ P r) → (∃ s', forR f xs s = .ok (.inl s') ∧ I (j + xs.length) s') ∨ ∃ r, forR f xs s = .ok (.inr r) ∧ P r
  | [], j, s, h, _ => .inl ⟨s, rfl, h⟩
  | x :: xs, j, s, h, hs => by
    unfold forR
    rcases hs 0 x s rfl h with ⟨s1, h1, h2⟩ | ⟨r, h1, h2⟩
    · rw [h1, ok_bind]
      have := forR_or I P xs (j + 1) s1 h2 fun i y s2 hy hi => by
        have := hs (i + 1) y s2 (by simpa using hy) (by rw [show j + (i + 1) = j + 1 + i by omega]; exact hi)
        rw [show j + (i + 1) = j + 1 + i by omega] at this
        exact this
      rw [show j + 1 + xs.length = j + (x :: xs).length by rw [List.length_cons]; omega] at this
      exact this
    · rw [h1, ok_bind]
      exact .inr ⟨r, rfl, h2⟩
theorem whileR_or {c : σ → E Bool} {f : σ → E (Fl σ ρ)} (I : Nat → σ → Prop) (P : ρ → Prop) (R : σ → Prop) (N : Nat) (hb : ∀ k s, I k s → k ≤ N)
    (hs : ∀ k s, I k s → (c s = .ok false ∧ R s) ∨ (c s = .ok true ∧ ((∃ s', f s = .ok (.nx s') ∧ I (k + 1) s') ∨ ∃ r, f s = .ok (.rt r) ∧ P r))) :
    ∀ (m k fu : Nat) (s : σ), k + m = N + 1 → m < fu → I k s → (∃ s', whileR c f fu s = .ok (.inl s') ∧ R s') ∨ ∃ r, whileR c f fu s = .ok (.inr r) ∧ P r
  | 0, k, fu, s, e, _, h => by have := hb k s h; omega
  | m + 1, k, fu, s, e, hf, h => by
    cases fu with
    | zero => exact absurd hf (Nat.not_lt_zero _)
    | succ fu =>
      unfold whileR
      rcases hs k s h with ⟨h1, h2⟩ | ⟨h1, h2⟩
      · rw [h1, ok_bind]
        exact .inl ⟨s, rfl, h2⟩
      · rw [h1, ok_bind, if_pos rfl]
        rcases h2 with ⟨s', h3, h4⟩ | ⟨r, h3, h4⟩
        · rw [h3, ok_bind]
          exact whileR_or I P R N hb hs m (k + 1) fu s' (by omega) (by omega) h4
        · rw [h3, ok_bind]
          exact .inr ⟨r, rfl, h4⟩
theorem find_first {xs : List α} {c : α → Nat} {p : α → Bool} {w : α} : xs.Pairwise (fun a b => c a < c b) → w ∈ xs → p w = true → (∀ v ∈ xs, c v < c w → p v = false) → xs.find? p = some w := by
  induction xs with
  | nil => intro _ h; cases h
  | cons x xs ih =>
    intro hp hm hw hv
    rw [List.pairwise_cons] at hp
    rw [List.find?_cons]
    rcases List.mem_cons.mp hm with e | e
    · subst e; rw [hw]
    · rw [hv x List.mem_cons_self (hp.1 w e)]
      exact ih hp.2 e hw fun v h => hv v (List.mem_cons_of_mem _ h)
end
end K62
namespace K62
open PySem PV TM
structure WT (t : Tb) (n L : Nat) : Prop where
  hn : t.2.2.length = n
  n2 : n ≤ 100
  L1 : 1 ≤ L
  L4 : L ≤ 64
  lt : M_letter_count t = .ok (L : Int)
  row : ∀ (k : Nat) (r : List (Int × Int)), t.2.2[k]? = some r → r.length = L ∧ ∀ p ∈ r, 0 ≤ p.1 ∧ p.1 < n
section
variable {t : Tb} {n L : Nat} (w : WT t n L)
include w
theorem WT.rowAt {s : Int} (h0 : 0 ≤ s) (h1 : s < n) : t.2.2[s.toNat]? = some (rwt t s) ∧ (rwt t s).length = L ∧ ∀ p ∈ rwt t s, 0 ≤ p.1 ∧ p.1 < n := by
  have hl : s.toNat < t.2.2.length := by rw [w.hn]; omega
  have e := List.getElem?_eq_getElem hl
  have : rwt t s = t.2.2[s.toNat] := by unfold rwt; rw [e]; rfl
  rw [this]
  exact ⟨e, w.row _ _ e⟩
theorem WT.step {s a : Int} (h0 : 0 ≤ s) (h1 : s < n) (a0 : 0 ≤ a) (a1 : a < L) : M_step t s a = .ok (st t s a) ∧ 0 ≤ (st t s a).1 ∧ (st t s a).1 < n := by
  obtain ⟨q1, q2, q3⟩ := w.rowAt h0 h1
  have hl : a.toNat < (rwt t s).length := by omega
  have e := List.getElem?_eq_getElem hl
  have hst : (rwt t s)[a.toNat]? = some (st t s a) := by unfold st; rw [e]; rfl
  refine ⟨?_, q3 _ (List.mem_of_getElem? hst)⟩
  unfold M_step
  rw [ixE_at h0 q1, ok_bind, ixE_at a0 hst]
theorem WT.go_in : ∀ (v : LI) (s : Int), 0 ≤ s → s < n → InL L v → 0 ≤ go t v s ∧ go t v s < n
  | [], s, h0, h1, _ => ⟨h0, h1⟩
  | a :: v, s, h0, h1, hv => by
    have ha := hv a List.mem_cons_self
    have := w.step h0 h1 ha.1 ha.2
    exact WT.go_in v _ this.2.1 this.2.2 fun x hx => hv x (List.mem_cons_of_mem _ hx)
end
abbrev PW := (Int × Int) × LI
def good (t t' : Tb) (a b : Int) (v : LI) : Prop := ans t v a = ans t' v b
theorem good_snoc {t t' : Tb} {a b : Int} {v : LI} {x : Int} : good t t' a b (v ++ [x]) ↔ good t t' a b v ∧ (st t (go t v a) x).2 = (st t' (go t' v b) x).2 := by
  unfold good
  rw [ans_snoc, ans_snoc]
  constructor
  · intro h
    have := List.append_inj h (by rw [ans_len, ans_len])
    exact ⟨this.1, by simpa using this.2⟩
  · rintro ⟨h1, h2⟩
    rw [h1, h2]
structure Q (t t' : Tb) (L : Nat) (a b : Int) (ws : List PW) (at' l : Nat) : Prop where
  key : ∀ (i : Nat) (p : Int × Int) (v : LI), ws[i]? = some (p, v) → go t v a = p.1 ∧ go t' v b = p.2 ∧ good t t' a b v ∧ InL L v ∧ v.length ≤ i
  inc : ∀ (i j : Nat) (p q : Int × Int) (v u : LI), ws[i]? = some (p, v) → ws[j]? = some (q, u) → i < j → cd L v < cd L u
  nod : (ws.map (·.1)).Nodup
  cur : ∀ (p : Int × Int) (v : LI), ws[at']? = some (p, v) → ∀ (q : Int × Int) (u : LI), (q, u) ∈ ws → cd L u < L * cd L v + l + 1
  don : ∀ (i : Nat) (p : Int × Int) (v : LI), ws[i]? = some (p, v) → ∀ x : Int, 0 ≤ x → x < L → (i < at' ∨ (i = at' ∧ x < l)) → (st t p.1 x).2 = (st t' p.2 x).2 ∧ ∃ u, (((st t p.1 x).1, (st t' p.2 x).1), u) ∈ ws ∧ cd L u ≤ L * cd L v + x.toNat + 1
  fst : ws[0]? = some ((a, b), [])
  lL : l ≤ L
theorem Q.canon {t t' : Tb} {L : Nat} {a b : Int} {ws : List PW} {c l : Nat} (h : Q t t' L a b ws c l) : ∀ (k : Nat) (v : LI), v.length = k → InL L v → (∀ p u, ws[c]? = some (p, u) → cd L v < L * cd L u + l + 1) → good t t' a b v ∧ ∃ u, ((go t v a, go t' v b), u) ∈ ws ∧ cd L u ≤ cd L v
  | 0, v, hl, _, _ => by
    have : v = [] := List.length_eq_zero_iff.mp hl
    subst this
    exact ⟨rfl, [], List.mem_of_getElem? h.fst, Nat.le_refl _⟩
  | k + 1, v, hl, hi, hb => by
    rcases snoc_cases v with rfl | ⟨y, x, rfl⟩
    · cases hl
    · obtain ⟨i1, i2, i3⟩ := hi.init
      rw [List.length_append] at hl
      have hlt : cd L y < cd L (y ++ [x]) := by
        rw [cd_app]
        have : 1 * cd L y ≤ L * cd L y := Nat.mul_le_mul_right _ (by omega)
        omega
      obtain ⟨g, u, hu, hc⟩ := h.canon k y (by simpa using hl) i1 fun p q e => Nat.lt_trans hlt (hb p q e)
      obtain ⟨i, hiu⟩ := List.mem_iff_getElem?.mp hu
      have hle := Nat.mul_le_mul_left L hc
      have hpos : i < c ∨ (i = c ∧ x < l) := by
        rcases Nat.lt_trichotomy i c with z | z | z
        · exact .inl z
        · subst z
          refine .inr ⟨rfl, ?_⟩
          have := hb _ _ hiu
          rw [cd_app] at this
          omega
        · exfalso
          have hlen : i < ws.length := (List.getElem?_eq_some_iff.mp hiu).1
          obtain ⟨⟨p, q⟩, hq⟩ : ∃ z, ws[c]? = some z := ⟨_, List.getElem?_eq_getElem (show c < ws.length by omega)⟩
          have h1 := h.inc _ _ _ _ _ _ hq hiu z
          have h2 := hb _ _ hq
          have h3 := Nat.mul_le_mul_left L (show cd L q + 1 ≤ cd L y by omega)
          rw [Nat.mul_succ] at h3
          rw [cd_app] at h2
          have := h.lL
          omega
      obtain ⟨e1, u', e2, e3⟩ := h.don i _ _ hiu x i2 i3 hpos
      refine ⟨good_snoc.mpr ⟨g, e1⟩, u', ?_, ?_⟩
      · rw [go_app, go_app]; exact e2
      · rw [cd_app]
        omega
theorem Q.init {t t' : Tb} {L : Nat} {a b : Int} : Q t t' L a b [((a, b), [])] 0 0 := by
  have hat : ∀ {i : Nat} {p : Int × Int} {v : LI}, [((a, b), ([] : LI))][i]? = some (p, v) → i = 0 ∧ p = (a, b) ∧ v = [] := fun {i p v} e => by
    cases i with
    | zero => cases e; exact ⟨rfl, rfl, rfl⟩
    | succ i => cases e
  refine ⟨fun i p v e => ?_, fun i j p q v u e e' hij => ?_, by simp, fun p v e q u hm => ?_, fun i p v e x x0 x1 hx => ?_, rfl, by omega⟩
  · obtain ⟨rfl, rfl, rfl⟩ := hat e
    exact ⟨rfl, rfl, rfl, (fun x hx => by cases hx), Nat.le_refl _⟩
  · have := (hat e).1
    have := (hat e').1
    omega
  · rw [List.mem_singleton] at hm
    obtain ⟨_, _, rfl⟩ := hat e
    cases hm
    show 0 < L * 0 + 0 + 1
    omega
  · have := (hat e).1
    omega
def FB (t t' : Tb) (L : Nat) (a b : Int) (v : LI) : Prop := InL L v ∧ ¬ good t t' a b v ∧ ∀ u, InL L u → cd L u < cd L v → good t t' a b u
section
variable {t t' : Tb} {n n' L : Nat} (w : WT t n L) (w' : WT t' n' L) {a b : Int} (ha : 0 ≤ a ∧ a < n) (hb : 0 ≤ b ∧ b < n')
include w w' ha hb
theorem Q.small {ws : List PW} {c l : Nat} (h : Q t t' L a b ws c l) : ws.length ≤ n * n' := by
  have := pairs_le (n := n) (n' := n') h.nod fun p hp => by
    obtain ⟨⟨q, v⟩, hq, rfl⟩ := List.mem_map.mp hp
    obtain ⟨i, hi⟩ := List.mem_iff_getElem?.mp hq
    obtain ⟨k1, k2, _, k4, _⟩ := h.key _ _ _ hi
    dsimp only
    rw [← k1, ← k2]
    exact ⟨w.go_in v a ha.1 ha.2 k4, w'.go_in v b hb.1 hb.2 k4⟩
  rwa [List.length_map] at this
theorem big : n * n' ≤ 10000 := Nat.mul_le_mul w.n2 w'.n2
theorem Q.step {ws : List PW} {c l : Nat} (h : Q t t' L a b ws c l) (hl : l < L) {p : Int × Int} {v : LI} (hc : ws[c]? = some (p, v)) :
    (∃ ws', B_search_1 t p t' (ws, ws.map (·.1)) (l : Int) = .ok (.nx (ws', ws'.map (·.1))) ∧ Q t t' L a b ws' c (l + 1) ∧ ws'[c]? = some (p, v)) ∨
    (∃ r, B_search_1 t p t' (ws, ws.map (·.1)) (l : Int) = .ok (.rt r) ∧ ∃ u, r.2 = some u ∧ FB t t' L a b u) := by
  have hsm := h.small w w' ha hb
  have hbig := big w w' ha hb
  obtain ⟨k1, k2, k3, k4, k5⟩ := h.key _ _ _ hc
  have r1 := w.go_in v a ha.1 ha.2 k4
  have r2 := w'.go_in v b hb.1 hb.2 k4
  rw [k1] at r1
  rw [k2] at r2
  obtain ⟨s1, s2⟩ := w.step r1.1 r1.2 (a := (l : Int)) (by omega) (by omega)
  obtain ⟨s3, s4⟩ := w'.step r2.1 r2.2 (a := (l : Int)) (by omega) (by omega)
  have hci : c < ws.length := (List.getElem?_eq_some_iff.mp hc).1
  have hL : lookD ws (p.1, p.2) = some v := lookD_mem h.nod (List.mem_of_getElem? hc)
  have hcat : catE v [(l : Int)] = .ok (v ++ [(l : Int)]) := catE_ok (by simp only [List.length_cons, List.length_nil]; omega)
  have hcode : cd L (v ++ [(l : Int)]) = L * cd L v + l + 1 := by rw [cd_app, Int.toNat_natCast]
  have hin : InL L (v ++ [(l : Int)]) := k4.app (by omega) (by omega)
  unfold B_search_1
  rw [s1, ok_bind, s3, ok_bind]
  simp only [hL, ofO_some, ok_bind, hcat]
  by_cases c1 : (st t p.1 l).2 = (st t' p.2 l).2
  · simp only [c1, decide_true, Bool.not_true, Bool.false_eq_true, if_false]
    refine .inl ?_
    by_cases c2 : ((st t p.1 l).1, (st t' p.2 l).1) ∈ ws.map (·.1)
    · obtain ⟨⟨q, u⟩, hq, e⟩ := List.mem_map.mp c2
      have hlk : lookD ws ((st t p.1 l).1, (st t' p.2 l).1) = some u := lookD_mem h.nod (by rw [← e]; exact hq)
      refine ⟨ws, by rw [hlk]; rfl, ⟨h.key, h.inc, h.nod, fun p' v' e' q' u' hm => by have := h.cur p' v' e' q' u' hm; omega, ?_, h.fst, by omega⟩, hc⟩
      intro i p' v' e' x x0 x1 hx
      by_cases z : i < c ∨ (i = c ∧ x < l)
      · exact h.don i p' v' e' x x0 x1 z
      · have hi : i = c := by omega
        subst hi
        rw [hc] at e'
        cases e'
        have hxl : x = (l : Int) := by omega
        subst hxl
        refine ⟨c1, u, by rw [← e]; exact hq, ?_⟩
        have := h.cur _ _ hc _ _ hq
        rw [Int.toNat_natCast]; omega
    · have hlk : lookD ws ((st t p.1 l).1, (st t' p.2 l).1) = none := lookD_none c2
      have hput : putDE ws ((st t p.1 l).1, (st t' p.2 l).1) (v ++ [(l : Int)]) = .ok (ws ++ [(((st t p.1 l).1, (st t' p.2 l).1), v ++ [(l : Int)])]) := by
        unfold putDE
        rw [putD_new c2, chk_ok (by omega)]
      have hc' : (ws ++ [(((st t p.1 l).1, (st t' p.2 l).1), v ++ [(l : Int)])])[c]? = some (p, v) := by rw [List.getElem?_append_left hci]; exact hc
      have hat : ∀ {i : Nat} {q : Int × Int} {u : LI}, (ws ++ [(((st t p.1 l).1, (st t' p.2 l).1), v ++ [(l : Int)])])[i]? = some (q, u) → (ws[i]? = some (q, u) ∧ i < ws.length) ∨ (i = ws.length ∧ q = ((st t p.1 l).1, (st t' p.2 l).1) ∧ u = v ++ [(l : Int)]) := fun {i q u} e => by
        by_cases z : i < ws.length
        · rw [List.getElem?_append_left z] at e; exact .inl ⟨e, z⟩
        · rw [List.getElem?_append_right (by omega)] at e
          by_cases z2 : i - ws.length = 0
          · rw [z2] at e; cases e; exact .inr ⟨by omega, rfl, rfl⟩
          · rw [List.getElem?_eq_none (by simp only [List.length_cons, List.length_nil]; omega)] at e; cases e
      refine ⟨ws ++ [(((st t p.1 l).1, (st t' p.2 l).1), v ++ [(l : Int)])], ?_, ⟨?_, ?_, ?_, ?_, ?_, ?_, by omega⟩, hc'⟩
      · rw [hlk]
        simp only [Option.isSome_none, Bool.not_false, if_true]
        rw [hput, ok_bind, appE_ok (by rw [List.length_map]; omega), ok_bind, List.map_append]; rfl
      · intro i q u e
        rcases hat e with ⟨e, _⟩ | ⟨e, rfl, rfl⟩
        · exact h.key i q u e
        · refine ⟨by rw [go_app, k1], by rw [go_app, k2], good_snoc.mpr ⟨k3, by rw [k1, k2]; exact c1⟩, hin, ?_⟩
          rw [List.length_append]; simp only [List.length_cons, List.length_nil]; omega
      · intro i j q q' u u' e e' hij
        rcases hat e with ⟨e, z⟩ | ⟨e, rfl, rfl⟩
        · rcases hat e' with ⟨e', _⟩ | ⟨e', rfl, rfl⟩
          · exact h.inc i j q q' u u' e e' hij
          · have := h.cur _ _ hc _ _ (List.mem_of_getElem? e)
            rw [hcode]; omega
        · have := (List.getElem?_eq_some_iff.mp e').1
          rw [List.length_append] at this
          simp only [List.length_cons, List.length_nil] at this
          omega
      · rw [List.map_append, List.nodup_append]
        refine ⟨h.nod, by simp, fun x hx y hy => ?_⟩
        simp only [List.map_cons, List.map_nil, List.mem_singleton] at hy
        subst hy
        exact fun z => c2 (z ▸ hx)
      · intro p' v' e' q u hm
        rw [hc'] at e'
        cases e'
        rcases List.mem_append.mp hm with z | z
        · have := h.cur _ _ hc _ _ z; omega
        · rw [List.mem_singleton] at z
          cases z
          rw [hcode]; omega
      · intro i p' v' e' x x0 x1 hx
        have hic : i < ws.length := by omega
        rcases hat e' with ⟨e', _⟩ | ⟨e', _, _⟩
        · by_cases z : i < c ∨ (i = c ∧ x < l)
          · obtain ⟨y1, u, y2, y3⟩ := h.don i p' v' e' x x0 x1 z
            exact ⟨y1, u, List.mem_append.mpr (.inl y2), y3⟩
          · have hi : i = c := by omega
            subst hi
            rw [hc] at e'
            cases e'
            have hxl : x = (l : Int) := by omega
            subst hxl
            refine ⟨c1, _, List.mem_append.mpr (.inr (List.mem_singleton.mpr rfl)), ?_⟩
            rw [hcode, Int.toNat_natCast]; omega
        · omega
      · rw [List.getElem?_append_left (by omega)]; exact h.fst
  · simp only [c1, decide_false, Bool.not_false, if_true]
    refine .inr ⟨_, rfl, _, rfl, hin, fun z => c1 ?_, fun u hu hcu => ?_⟩
    · have := (good_snoc.mp z).2
      rwa [k1, k2] at this
    · refine (h.canon _ u rfl hu fun p' u' e' => ?_).1
      rw [hc] at e'
      cases e'
      rw [hcode] at hcu
      exact hcu
theorem Q.next {ws : List PW} {c : Nat} (h : Q t t' L a b ws c L) (hc : c < ws.length) : Q t t' L a b ws (c + 1) 0 := by
  obtain ⟨⟨p, v⟩, hv⟩ : ∃ z, ws[c]? = some z := ⟨_, List.getElem?_eq_getElem hc⟩
  refine ⟨h.key, h.inc, h.nod, fun q u e q' u' hm => ?_, fun i p' v' e x x0 x1 hx => h.don i p' v' e x x0 x1 (by omega), h.fst, by omega⟩
  have h1 := h.cur _ _ hv _ _ hm
  have h2 := Nat.mul_le_mul_left L (h.inc _ _ _ _ _ _ hv e (by omega))
  rw [Nat.mul_succ] at h2
  omega
/-- what the search tells -/
theorem search_ok : (∃ ps v, M_search t a t' b = .ok (ps, some v) ∧ FB t t' L a b v) ∨
    (∃ ps, M_search t a t' b = .ok (ps, none) ∧ (∀ v, InL L v → good t t' a b v) ∧ ps.Nodup ∧ ps.length ≤ n * n' ∧ (∀ p ∈ ps, ∃ v, InL L v ∧ p = (go t v a, go t' v b)) ∧ ∀ v, InL L v → (go t v a, go t' v b) ∈ ps) := by
  have hbig := big w w' ha hb
  have key := whileR_or (c := C_search_1) (f := B_search_2 t t') (fun k (s : List PW × List (Int × Int) × Int) => ∃ ws, s = (ws, ws.map (·.1), (k : Int)) ∧ Q t t' L a b ws k 0 ∧ k ≤ ws.length)
    (fun r => ∃ u, r.2 = some u ∧ FB t t' L a b u) (fun s => ∃ (ws : List PW) (c : Nat), s = (ws, ws.map (·.1), (c : Int)) ∧ Q t t' L a b ws c 0 ∧ ws.length ≤ c) (n * n')
    (by
      rintro k s ⟨ws, rfl, h, hk⟩
      have := h.small w w' ha hb
      omega)
    (by
      rintro k s ⟨ws, rfl, h, hk⟩
      unfold C_search_1
      rw [List.length_map]
      by_cases c1 : k < ws.length
      · have hc1 : (k : Int) < (ws.length : Int) := by omega
        simp only [hc1, decide_true]
        refine .inr ⟨trivial, ?_⟩
        obtain ⟨⟨p, v⟩, hv⟩ : ∃ z, ws[k]? = some z := ⟨_, List.getElem?_eq_getElem c1⟩
        have hp : (ws.map (·.1))[k]? = some p := by rw [List.getElem?_map, hv]; rfl
        have loop := forR_or (f := B_search_1 t p t') (fun l (s : List PW × List (Int × Int)) => ∃ ws, s = (ws, ws.map (·.1)) ∧ Q t t' L a b ws k l ∧ ws[k]? = some (p, v)) (fun r => ∃ u, r.2 = some u ∧ FB t t' L a b u) (nats L) 0 (ws, ws.map (·.1)) ⟨ws, rfl, h, hv⟩ (by
          rintro i x s hx ⟨ws, rfl, h, hv⟩
          obtain ⟨hi, rfl⟩ := nats_at hx
          rw [Nat.zero_add] at h ⊢
          rcases h.step w w' ha hb hi hv with ⟨ws', e1, e2, e3⟩ | ⟨r, e1, e2⟩
          · exact .inl ⟨_, e1, ws', rfl, e2, e3⟩
          · exact .inr ⟨r, e1, e2⟩)
        rw [nats_len, Nat.zero_add] at loop
        unfold B_search_2
        simp only [ixE_nat hp, ok_bind, w.lt]
        rw [rg1_nat (by have := w.L4; omega), ok_bind]
        rcases loop with ⟨s', e1, ws', rfl, e2, e3⟩ | ⟨r, e1, e2⟩
        · refine .inl ⟨(ws', ws'.map (·.1), ((k + 1 : Nat) : Int)), ?_, ws', rfl, e2.next w w' ha hb (List.getElem?_eq_some_iff.mp e3).1, (List.getElem?_eq_some_iff.mp e3).1⟩
          rw [e1, ok_bind]
          rfl
        · refine .inr ⟨r, ?_, e2⟩
          rw [e1, ok_bind]
          rfl
      · have hc1 : ¬ (k : Int) < (ws.length : Int) := by omega
        simp only [hc1, decide_false]
        exact .inl ⟨trivial, ws, k, rfl, h, by omega⟩) (n * n' + 1) 0 fuel ([((a, b), [])], [(a, b)], 0) (by omega) (by unfold fuel; omega)
    ⟨[((a, b), [])], rfl, Q.init, by simp⟩
  unfold M_search
  simp only [ok_bind]
  rcases key with ⟨s', e1, ws, c, rfl, h, hc⟩ | ⟨r, e1, u, hu, hf⟩
  · refine .inr ⟨ws.map (·.1), by rw [e1, ok_bind]; rfl, fun v hv => (h.canon _ v rfl hv fun p u e => ?_).1, h.nod, by rw [List.length_map]; exact h.small w w' ha hb, fun p hp => ?_, fun v hv => ?_⟩
    · have := (List.getElem?_eq_some_iff.mp e).1; omega
    · obtain ⟨⟨q, v⟩, hq, rfl⟩ := List.mem_map.mp hp
      obtain ⟨i, hi⟩ := List.mem_iff_getElem?.mp hq
      obtain ⟨k1, k2, _, k4, _⟩ := h.key _ _ _ hi
      exact ⟨v, k4, by rw [k1, k2]⟩
    · obtain ⟨u, hu, _⟩ := (h.canon _ v rfl hv fun p u e => by have := (List.getElem?_eq_some_iff.mp e).1; omega).2
      exact List.mem_map.mpr ⟨_, hu, rfl⟩
  · refine .inl ⟨r.1, u, by rw [e1, ok_bind, ← hu]; rfl, hf⟩
end
end K62
namespace K62
open PySem PV TM
/-! the law's words -/
def WS (L : Nat) : Nat → List LI
  | 0 => []
  | k + 1 => WS L k ++ wd L k
theorem mem_WS {L : Nat} : ∀ (k : Nat) (v : LI), v ∈ WS L k ↔ v.length < k ∧ InL L v
  | 0, v => ⟨fun h => (by cases h), fun h => absurd h.1 (Nat.not_lt_zero _)⟩
  | k + 1, v => by
    show v ∈ WS L k ++ wd L k ↔ _
    rw [List.mem_append, mem_WS k v, mem_wd]
    constructor
    · rintro (⟨h1, h2⟩ | ⟨h1, h2⟩)
      · exact ⟨by omega, h2⟩
      · exact ⟨by omega, h2⟩
    · rintro ⟨h1, h2⟩
      by_cases c : v.length < k
      · exact .inl ⟨c, h2⟩
      · exact .inr ⟨by omega, h2⟩
theorem nats_pair (n : Nat) : (nats n).Pairwise (· < ·) := by
  induction n with
  | zero => exact List.Pairwise.nil
  | succ n ih =>
    rw [nats_succ, List.pairwise_append]
    refine ⟨ih, List.pairwise_singleton _ _, fun a ha b hb => ?_⟩
    rw [List.mem_singleton.mp hb]
    exact (nats_mem.mp ha).2
theorem wd_sorted {L : Nat} : ∀ r, (wd L r).Pairwise fun a b => cd L a < cd L b
  | 0 => List.pairwise_singleton _ _
  | r + 1 => by
    unfold wd
    rw [List.pairwise_flatMap]
    refine ⟨fun u _ => ?_, (wd_sorted r).imp fun {u v} h x hx y hy => ?_⟩
    · rw [List.pairwise_map]
      refine (nats_pair L).imp_of_mem fun {i j} hi hj hij => ?_
      have := nats_mem.mp hi
      rw [cd_app, cd_app]
      omega
    · obtain ⟨i, hi, rfl⟩ := List.mem_map.mp hx
      obtain ⟨j, hj, rfl⟩ := List.mem_map.mp hy
      have := nats_mem.mp hi
      have h2 := Nat.mul_le_mul_left L (show cd L u + 1 ≤ cd L v from h)
      rw [Nat.mul_succ] at h2
      rw [cd_app, cd_app]
      omega
theorem WS_sorted {L : Nat} (hL : 1 ≤ L) : ∀ k, (WS L k).Pairwise fun a b => cd L a < cd L b
  | 0 => List.Pairwise.nil
  | k + 1 => by
    show (WS L k ++ wd L k).Pairwise _
    rw [List.pairwise_append]
    refine ⟨WS_sorted hL k, wd_sorted k, fun a ha b hb => ?_⟩
    have h1 := (mem_WS k a).mp ha
    have h2 := (mem_wd k b).mp hb
    exact cd_short hL h1.2 h2.2 (by omega)
/-- what is due: the first word that tells -/
def duew (t t' : Tb) (L n : Nat) (a b : Int) : Option LI := (WS L n).find? fun v => !decide (ans t v a = ans t' v b)
theorem duew_some {t t' : Tb} {L n : Nat} {a b : Int} (hL : 1 ≤ L) {v : LI} (h : FB t t' L a b v) (hl : v.length < n) : duew t t' L n a b = some v := by
  refine find_first (WS_sorted hL n) ((mem_WS n v).mpr ⟨hl, h.1⟩) ?_ fun u hu hc => ?_
  · rw [decide_eq_false (show ¬ ans t v a = ans t' v b from h.2.1)]; rfl
  · rw [decide_eq_true (show ans t u a = ans t' u b from h.2.2 u ((mem_WS n u).mp hu).2 hc)]; rfl
theorem duew_none {t t' : Tb} {L n : Nat} {a b : Int} (h : ∀ v, InL L v → good t t' a b v) : duew t t' L n a b = none := by
  unfold duew
  rw [List.find?_eq_none]
  intro v hv
  rw [decide_eq_true (show ans t v a = ans t' v b from h v ((mem_WS n v).mp hv).2)]
  exact Bool.false_ne_true
theorem duew_swap {t t' : Tb} {L n : Nat} {a b : Int} : duew t' t L n b a = duew t t' L n a b := by
  unfold duew
  congr 1
  funext v
  congr 1
  exact decide_eq_decide.mpr eq_comm
end K62
namespace K62
open PySem PV TM
section
variable {t : Tb} {n L : Nat} (w : WF t n L)
include w
theorem WF.wt (hlt : M_letter_count t = .ok (L : Int)) : WT t n L := ⟨w.hn, by have := w.n2; omega, w.L1, by have := w.L4; omega, hlt, w.row⟩
theorem wd_len4 (r : Nat) (hr : r ≤ n) : (wd L r).length ≤ 1024 := by rw [wd_len]; exact w.small hr
theorem WS_len : ∀ k, k ≤ n → (WS L k).length ≤ 1024 * k
  | 0, _ => Nat.le_refl _
  | k + 1, h => by
    show (WS L k ++ wd L k).length ≤ _
    rw [List.length_append]
    have := WS_len k (by omega)
    have := wd_len4 w k (by omega)
    omega
theorem words_ok : M_law_words (L : Int) ((n : Int) - 1) = .ok (WS L n) := by
  have n1 := w.n1
  have n2 := w.n2
  unfold M_law_words
  simp only [ok_bind]
  rw [show (n : Int) - 1 = ((n - 1 : Nat) : Int) by omega, rg1_nat (by omega), ok_bind]
  obtain ⟨s, e, i1, i2⟩ := forE_inv0 (fun i (s : List LI × List LI) => s.1 = WS L (i + 1) ∧ s.2 = wd L i) (f := B_law_words_1 (L : Int)) (xs := nats (n - 1)) (s := ([[]], [[]])) ⟨rfl, rfl⟩ (by
    rintro i x ⟨s1, s2⟩ hx ⟨i1, i2⟩
    obtain ⟨hi, rfl⟩ := nats_at hx
    dsimp only at i1 i2
    subst i1
    subst i2
    refine ⟨(WS L (i + 1 + 1), wd L (i + 1)), ?_, rfl, rfl⟩
    unfold B_law_words_1
    have a := WS_len w (i + 1) (by omega)
    have b := wd_len4 w (i + 1) (by omega)
    dsimp only
    rw [longer_ok w (by omega), ok_bind, catE_ok (by omega), ok_bind]
    rfl)
  rw [nats_len, show n - 1 + 1 = n by omega] at i1
  rw [e, ok_bind, i1]
def tl (t : Tb) (L n : Nat) (s : Int) : List LI := (WS L n).map fun v => ans t v s
theorem tl_ok {s : Int} (h0 : 0 ≤ s) (h1 : s < n) : comE (fun word_26 => M_law_answers t s word_26) (WS L n) = .ok (tl t L n s) := by
  have a := WS_len w n (Nat.le_refl _)
  have n2 := w.n2
  refine comE_ok (by omega) fun v hv => ?_
  obtain ⟨h2, h3⟩ := (mem_WS n v).mp hv
  exact ans_ok w h0 h1 h3 (by omega)
theorem first_go (ws : List LI) (f g : LI → LI) (hl : ws.length < 100000) : M_law_first ws (ws.map f) (ws.map g) = .ok (ws.find? fun v => !decide (f v = g v)) := by
  unfold M_law_first
  rw [rg1_nat (by omega), ok_bind]
  have : ∀ (xs pre : List LI), ws = pre ++ xs → (∀ v ∈ pre, f v = g v) → (E.bind (forR (B_law_first_1 (ws.map f) (ws.map g) ws) ((List.range' pre.length xs.length).map fun k => ((k : Nat) : Int)) ()) (Sum.elim (fun _ => E.ok none) (fun r => E.ok r))) = .ok (xs.find? fun v => !decide (f v = g v)) := by
    intro xs
    induction xs with
    | nil => intro pre _ _; rfl
    | cons x xs ih =>
      intro pre e hp
      rw [List.length_cons, List.range'_succ, List.map_cons]
      unfold forR
      have hx : ws[pre.length]? = some x := by rw [e]; simp
      have hf : (ws.map f)[pre.length]? = some (f x) := by rw [List.getElem?_map, hx]; rfl
      have hg : (ws.map g)[pre.length]? = some (g x) := by rw [List.getElem?_map, hx]; rfl
      unfold B_law_first_1
      rw [ixE_nat hf, ok_bind, ixE_nat hg]
      simp only [ok_bind]
      by_cases c : f x = g x
      · simp only [c, decide_true, Bool.not_true, Bool.false_eq_true, if_false, ok_bind, flow, List.find?_cons]
        have := ih (pre ++ [x]) (by rw [e, List.append_assoc]; rfl) (fun v hv => by
          rcases List.mem_append.mp hv with z | z
          · exact hp v z
          · rw [List.mem_singleton.mp z]; exact c)
        rw [List.length_append] at this
        exact this
      · simp only [c, decide_false, Bool.not_false, if_true, ixE_nat hx, ok_bind, flow, List.find?_cons]
        rfl
  have h := this ws [] rfl (fun v hv => by cases hv)
  rw [show nats ws.length = (List.range' ([] : List LI).length ws.length).map fun k => ((k : Nat) : Int) by unfold nats; rw [List.range_eq_range']; rfl]
  exact h
theorem due_ok {a b : Int} : M_law_first (WS L n) (tl t L n a) (tl t L n b) = .ok (duew t t L n a b) := by
  have := WS_len w n (Nat.le_refl _)
  have n2 := w.n2
  exact first_go w _ _ _ (by omega)
end
theorem told_same (o : Option LI) (h : ∀ x, o = some x → x.length ≤ 100) : M_law_is_told o o = .ok true := by
  unfold M_law_is_told
  cases o with
  | none => rfl
  | some x =>
    have e : comE (fun item_3 => M_law_is_integer item_3) x = .ok (x.map fun _ => true) := comE_ok (by have := h x rfl; omega) fun x _ => rfl
    have : (List.map (fun _ : Int => true) x).all id = true := by
      rw [List.all_eq_true]
      intro b hb
      obtain ⟨_, _, rfl⟩ := List.mem_map.mp hb
      rfl
    simp only [Option.isNone_some, Bool.false_eq_true, if_false, Option.isSome_some, Bool.and_true, if_true, ofO_some, ok_bind, e, this, decide_true]
section
variable {t : Tb} {n L : Nat} (w : WF t n L) (hlt : M_letter_count t = .ok (L : Int))
include w hlt
/-- the two orders, and what follows of them -/
theorem cases_ok {K : Nat} (hK : K + 1 ≤ n) (k1 : CL t n L (K + 1) = CL t n L K) {a b : Int} (ha : 0 ≤ a ∧ a < n) (hb : 0 ≤ b ∧ b < n) :
    ∃ ps, M_search t a t b = .ok (ps, duew t t L n a b) ∧ ((duew t t L n a b = none ∧ ∀ k, told t L k a = told t L k b) ∨ ∃ v, duew t t L n a b = some v ∧ v.length ≤ K ∧ told t L v.length a ≠ told t L v.length b ∧ ∀ k, k < v.length → told t L k a = told t L k b) := by
  have wt := w.wt hlt
  rcases search_ok wt wt ha hb with ⟨ps, v, e, f⟩ | ⟨ps, e, f, _⟩
  · have hgood : ∀ k, k < v.length → told t L k a = told t L k b := fun k hk => by
      rw [told_eq w]
      intro x hx
      obtain ⟨x1, x2⟩ := (mem_wd k x).mp hx
      exact f.2.2 x x2 (cd_short w.L1 x2 f.1 (by omega))
    have hbad : told t L v.length a ≠ told t L v.length b := fun z => by
      rw [told_eq w] at z
      exact f.2.1 (z v ((mem_wd _ v).mpr ⟨rfl, f.1⟩))
    have hlen : v.length ≤ K := by
      refine Nat.le_of_not_lt fun c => f.2.1 (alike w k1 ha.1 ha.2 hb.1 hb.2 ?_ v f.1)
      unfold CL
      rw [gi_map ha.1 ha.2, gi_map hb.1 hb.2]
      exact (fs_eq ha.1 ha.2 hb.1 hb.2).mpr (hgood K c)
    have hd := duew_some w.L1 (n := n) f (by omega)
    exact ⟨ps, by rw [e, hd], .inr ⟨v, hd, hlen, hbad, hgood⟩⟩
  · have hd : duew t t L n a b = none := duew_none f
    exact ⟨ps, by rw [e, hd], .inl ⟨hd, fun k => (told_eq w).mpr fun x hx => f x ((mem_wd k x).mp hx).2⟩⟩
omit hlt in
theorem check_ok {a b : Int} (ha : 0 ≤ a ∧ a < n) (hb : 0 ≤ b ∧ b < n) : M_check_states t [a, b] = .ok () := by
  have one : ∀ {x : Int}, 0 ≤ x ∧ x < n → B_check_states_1 t () x = .ok () := fun {x} hx => by
    unfold B_check_states_1 M_state_count
    rw [w.hn]
    simp only [hx.1, hx.2, decide_true, if_true, ok_bind, Bool.not_true, Bool.false_eq_true, if_false]
  unfold M_check_states forE
  rw [one ha, ok_bind]
  unfold forE
  rw [one hb]
  rfl
omit hlt in
theorem check_bad {a b : Int} (h : ¬ (0 ≤ a ∧ a < n) ∨ (0 ≤ a ∧ a < n) ∧ ¬ (0 ≤ b ∧ b < n)) : M_check_states t [a, b] = .ex ⟨S "NoSuchThing", []⟩ := by
  have one : ∀ {x : Int}, 0 ≤ x ∧ x < n → B_check_states_1 t () x = .ok () := fun {x} hx => by
    unfold B_check_states_1 M_state_count
    rw [w.hn]
    simp only [hx.1, hx.2, decide_true, if_true, ok_bind, Bool.not_true, Bool.false_eq_true, if_false]
  have bad : ∀ {x : Int}, ¬ (0 ≤ x ∧ x < n) → B_check_states_1 t () x = .ex ⟨S "NoSuchThing", []⟩ := fun {x} hx => by
    unfold B_check_states_1 M_state_count
    rw [w.hn]
    by_cases c : 0 ≤ x
    · have c2 : ¬ x < n := fun z => hx ⟨c, z⟩
      simp only [c, c2, decide_true, decide_false, if_true, ok_bind, Bool.not_false, Bool.false_eq_true, if_false]
    · simp only [c, decide_false, ok_bind, Bool.not_false, Bool.false_eq_true, if_false, if_true]
  unfold M_check_states
  rcases h with h | ⟨h1, h2⟩
  · unfold forE
    rw [bad h]
    rfl
  · unfold forE
    rw [one h1, ok_bind]
    unfold forE
    rw [bad h2]
    rfl
theorem telling_ok {K : Nat} (hK : K + 1 ≤ n) (k1 : CL t n L (K + 1) = CL t n L K) {a b : Int} (ha : 0 ≤ a ∧ a < n) (hb : 0 ≤ b ∧ b < n) : M_telling_word t a b = .ok (duew t t L n a b) := by
  obtain ⟨ps, e, _⟩ := cases_ok w hlt hK k1 ha hb
  unfold M_telling_word
  rw [check_ok w ha hb, ok_bind, e, ok_bind]
omit hlt in
theorem refuses_ok {a b : Int} (h : ¬ (0 ≤ a ∧ a < n) ∨ (0 ≤ a ∧ a < n) ∧ ¬ (0 ≤ b ∧ b < n)) : M_law_refuses t a b = .ok true := by
  unfold M_law_refuses M_telling_word
  dsimp only
  rw [check_bad w h]
  rfl
omit hlt in
theorem round_go (K : Nat) {a b : Int} (ha : 0 ≤ a ∧ a < n) (hb : 0 ≤ b ∧ b < n) : ∀ (m k : Nat), k + m = K + 1 →
    ((∀ j, k ≤ j → j ≤ K → told t L j a = told t L j b) → (E.bind (forR (B_law_round_1 (DU t n L (K + 1)) a b) ((List.range' k m).map fun k => ((k : Nat) : Int)) ()) (Sum.elim (fun _ => E.ok none) (fun r => E.ok r))) = .ok none) ∧
    (∀ l, k ≤ l → l ≤ K → told t L l a ≠ told t L l b → (∀ j, j < l → told t L j a = told t L j b) → (E.bind (forR (B_law_round_1 (DU t n L (K + 1)) a b) ((List.range' k m).map fun k => ((k : Nat) : Int)) ()) (Sum.elim (fun _ => E.ok none) (fun r => E.ok r))) = .ok (some (l : Int)))
  | 0, k, e => ⟨fun _ => rfl, fun l h1 h2 => by omega⟩
  | m + 1, k, e => by
    obtain ⟨ih1, ih2⟩ := round_go K ha hb m (k + 1) (by omega)
    rw [List.range'_succ, List.map_cons]
    have hD : (DU t n L (K + 1))[k]? = some (CL t n L k) := by
      unfold DU
      rw [List.getElem?_map, List.getElem?_range (by omega)]; rfl
    have hB : B_law_round_1 (DU t n L (K + 1)) a b () (k : Int) = if told t L k a = told t L k b then .ok (.nx ()) else .ok (.rt (some (k : Int))) := by
      unfold B_law_round_1
      rw [ixE_nat hD, ok_bind, gix ha.1 (by rw [CL_len w]; exact ha.2), ok_bind, ok_bind, gix hb.1 (by rw [CL_len w]; exact hb.2)]
      have hcl : (gi (CL t n L k) a = gi (CL t n L k) b) = (told t L k a = told t L k b) := by
        unfold CL
        rw [gi_map ha.1 ha.2, gi_map hb.1 hb.2]
        exact propext (fs_eq ha.1 ha.2 hb.1 hb.2)
      simp only [ok_bind]
      by_cases c : told t L k a = told t L k b
      · rw [if_pos c, decide_eq_true (hcl.mpr c)]; rfl
      · rw [if_neg c, decide_eq_false (fun z => c (hcl.mp z))]; rfl
    constructor
    · intro h
      unfold forR
      rw [hB, if_pos (h k (Nat.le_refl _) (by omega))]
      exact ih1 fun j h1 h2 => h j (by omega) h2
    · intro l h1 h2 h3 h4
      unfold forR
      rw [hB]
      by_cases c : k = l
      · subst c
        rw [if_neg h3]
        rfl
      · rw [if_pos (h4 k (by omega))]
        exact ih2 l (by omega) h2 h3 h4
omit hlt in
theorem round_ok {K : Nat} (hK : K + 1 ≤ n) {a b : Int} (ha : 0 ≤ a ∧ a < n) (hb : 0 ≤ b ∧ b < n) :
    ((∀ k, told t L k a = told t L k b) → M_law_round (DU t n L (K + 1)) a b = .ok none) ∧
    (∀ l, l ≤ K → told t L l a ≠ told t L l b → (∀ j, j < l → told t L j a = told t L j b) → M_law_round (DU t n L (K + 1)) a b = .ok (some (l : Int))) := by
  have n2 := w.n2
  obtain ⟨h1, h2⟩ := round_go w K ha hb (K + 1) 0 (by omega)
  unfold M_law_round
  rw [DU_len, rg1_nat (by omega), ok_bind]
  rw [show nats (K + 1) = (List.range' 0 (K + 1)).map fun k => ((k : Nat) : Int) by unfold nats; rw [List.range_eq_range']]
  exact ⟨fun h => h1 fun j _ _ => h j, fun l h3 h4 h5 => h2 l (by omega) h3 h4 h5⟩
theorem one_ok {K : Nat} (hK : K + 1 ≤ n) (k1 : CL t n L (K + 1) = CL t n L K) {a b : Int} (ha : 0 ≤ a ∧ a < n) (hb : 0 ≤ b ∧ b < n) :
    B_law_1 ((nats n).map (tl t L n)) a (WS L n) t (DU t n L (K + 1)) () b = .ok (.nx ()) := by
  have n2 := w.n2
  have gt : ∀ {s : Int}, 0 ≤ s ∧ s < n → ixE ((nats n).map (tl t L n)) s = .ok (tl t L n s) := fun {s} hs => by
    refine ixE_at hs.1 ?_
    rw [List.getElem?_map, nats_get (by omega), Int.toNat_of_nonneg hs.1]; rfl
  obtain ⟨_, _, hc⟩ := cases_ok w hlt hK k1 ha hb
  have e1 := telling_ok w hlt hK k1 ha hb
  have e2 := telling_ok w hlt hK k1 hb ha
  rw [duew_swap] at e2
  have hs : M_law_is_told (duew t t L n a b) (duew t t L n a b) = .ok true := told_same _ fun x hx => by
    rcases hc with ⟨h, _⟩ | ⟨v, h, hv, _⟩
    · rw [h] at hx; cases hx
    · rw [h] at hx; cases hx; omega
  obtain ⟨r1, r2⟩ := round_ok w hK ha hb
  unfold B_law_1
  rw [gt ha, ok_bind, gt hb, ok_bind, due_ok w, ok_bind, e1, ok_bind, e2]
  simp only [hs, ok_bind, decide_true, decide_false, if_true, if_false, ↓reduceIte, Bool.false_eq_true, Bool.not_true, Bool.not_false, Bool.and_true, Bool.true_and, Bool.and_false, Bool.false_and, Bool.or_true, Bool.true_or, Bool.or_false, Bool.false_or, decide_eq_true_eq, nex_ok, ofO_some, Sum.elim_inl, Sum.elim_inr]
  rcases hc with ⟨h, hall⟩ | ⟨v, h, hv, hbad, hg⟩
  · rw [r1 hall, h]; rfl
  · rw [r2 v.length hv hbad hg, h]
    rw [h] at hs
    simp only [ok_bind, decide_true, decide_false, if_true, if_false, ↓reduceIte, Bool.false_eq_true, Bool.not_true, Bool.not_false, Bool.and_true, Bool.true_and, Bool.and_false, Bool.false_and, Bool.or_true, Bool.true_or, Bool.or_false, Bool.false_or, decide_eq_true_eq, nex_ok, ofO_some, Sum.elim_inl, Sum.elim_inr, Option.isNone_some, hs]
    rw [appE_ok (by omega)]
    simp only [ok_bind, decide_true, decide_false, if_true, if_false, ↓reduceIte, Bool.false_eq_true, Bool.not_true, Bool.not_false, Bool.and_true, Bool.true_and, Bool.and_false, Bool.false_and, Bool.or_true, Bool.true_or, Bool.or_false, Bool.false_or, decide_eq_true_eq, nex_ok, ofO_some, Sum.elim_inl, Sum.elim_inr]
end
theorem head_ok (x : Int) : ∃ h0 h1 h2 h3 : Int, M_law_parts x [3, 6, 32, 4] = .ok [h0, h1, h2, h3] ∧ (0 ≤ h0 ∧ h0 < 3) ∧ (0 ≤ h1 ∧ h1 < 6) ∧ (0 ≤ h2 ∧ h2 < 32) ∧ (0 ≤ h3 ∧ h3 < 4) := by
  obtain ⟨ps, e, q⟩ := parts_ok x [3, 6, 32, 4] (by simp) (by intro s hs; simp at hs; omega)
  obtain ⟨h0, _, rfl, b0, q⟩ := q.hd
  obtain ⟨h1, _, rfl, b1, q⟩ := q.hd
  obtain ⟨h2, _, rfl, b2, q⟩ := q.hd
  obtain ⟨h3, _, rfl, b3, q⟩ := q.hd
  have := q.nl
  subst this
  exact ⟨h0, h1, h2, h3, e, b0, b1, b2, b3⟩
theorem parts3_ok (x : Int) : ∃ h0 h1 h2 : Int, M_law_parts x [32, 32, 90] = .ok [h0, h1, h2] ∧ (0 ≤ h0 ∧ h0 < 32) ∧ (0 ≤ h1 ∧ h1 < 32) ∧ (0 ≤ h2 ∧ h2 < 90) := by
  obtain ⟨ps, e, q⟩ := parts_ok x [32, 32, 90] (by simp) (by intro s hs; simp at hs; omega)
  obtain ⟨h0, _, rfl, b0, q⟩ := q.hd
  obtain ⟨h1, _, rfl, b1, q⟩ := q.hd
  obtain ⟨h2, _, rfl, b2, q⟩ := q.hd
  have := q.nl
  subst this
  exact ⟨h0, h1, h2, e, b0, b1, b2⟩
theorem law_M (ns : List Int) : M_law ns = .ok true := by
  obtain ⟨x0, e0⟩ := far_ok ns 0 (by omega)
  obtain ⟨x1, ex1⟩ := far_ok ns 1 (by omega)
  obtain ⟨h0, h1, h2, h3, e1, b0, b1, b2, b3⟩ := head_ok x0
  obtain ⟨p0, p1, p2, ep, c0, c1, c2⟩ := parts3_ok x1
  have i0 : ixE [h0, h1, h2, h3] 0 = .ok h0 := ixE_0
  have i1 : ixE [h0, h1, h2, h3] 1 = .ok h1 := ixE_1
  have i2 : ixE [h0, h1, h2, h3] 2 = .ok h2 := ixE_2
  have i3 : ixE [h0, h1, h2, h3] 3 = .ok h3 := ixE_3
  generalize [h0, h1, h2, h3] = hd at e1 i0 i1 i2 i3
  have j0 : ixE [p0, p1, p2] 0 = .ok p0 := ixE_0
  have j1 : ixE [p0, p1, p2] 1 = .ok p1 := ixE_1
  have j2 : ixE [p0, p1, p2] 2 = .ok p2 := ixE_2
  generalize [p0, p1, p2] = pd at ep j0 j1 j2
  obtain ⟨c, L, hc, hL, q0, L1, L4, pw, hsh⟩ : ∃ (c : Int) (L : Nat), ixE [32, 7, 5] h0 = .ok c ∧ ixE [1, 2, 4] h0 = .ok (L : Int) ∧ (0 < c ∧ c ≤ 32) ∧ 1 ≤ L ∧ L ≤ 4 ∧ (∀ m : Nat, (m : Int) < c → L ^ (1 + m) ≤ 1024) ∧ shlE 1 h0 = .ok (L : Int) := by
    have : h0 = 0 ∨ h0 = 1 ∨ h0 = 2 := by omega
    rcases this with rfl | rfl | rfl
    · exact ⟨32, 1, ixE_0, ixE_0, by omega, by omega, by omega, fun m _ => by rw [Nat.one_pow]; omega, shlE_ok (by omega) (by omega) (by omega) (by omega)⟩
    · exact ⟨7, 2, ixE_1, ixE_1, by omega, by omega, by omega, fun m hm => Nat.le_trans (Nat.pow_le_pow_right (by omega) (show 1 + m ≤ 7 by omega)) (by decide), shlE_ok (by omega) (by omega) (by omega) (by omega)⟩
    · exact ⟨5, 4, ixE_2, ixE_2, by omega, by omega, by omega, fun m hm => Nat.le_trans (Nat.pow_le_pow_right (by omega) (show 1 + m ≤ 5 by omega)) (by decide), shlE_ok (by omega) (by omega) (by omega) (by omega)⟩
  have s1 := Int.emod_nonneg h2 (b := c) (by omega)
  have s2 := Int.emod_lt_of_pos h2 (b := c) (by omega)
  obtain ⟨m, hm⟩ := Int.eq_ofNat_of_zero_le s1
  have hmod : modE h2 c = .ok (m : Int) := by rw [modE_ok (by omega), hm]
  obtain ⟨t, et, et1, w⟩ := table_ok ns h0 h1 h3 m L hL L1 L4 b1 (by omega) (pw m (by omega))
  have hlt : M_letter_count t = .ok (L : Int) := by unfold M_letter_count; rw [et1]; exact hsh
  obtain ⟨n, hn, hn'⟩ : ∃ n, n = 1 + m ∧ n ≤ 32 := ⟨1 + m, rfl, by omega⟩
  rw [← hn] at w
  have n1 := w.n1
  obtain ⟨K, hK, k1, k2⟩ := CL_end w
  have eR := rounds_ok w hK k1 k2
  obtain ⟨r1, r2, _⟩ := w.rowAt (s := 0) (by omega) (by omega)
  have eRow : ixE t.2.2 0 = .ok (rwt t 0) := ixE_at (by omega) r1
  have eLen : ((rwt t 0).length : Int) = (L : Int) := by rw [r2]
  have eHn : ((t.2.2).length : Int) = (n : Int) := by rw [w.hn]
  have eWo := words_ok w
  have eG : rg1 (n : Int) = .ok (nats n) := rg1_nat (by omega)
  have eLr : lrE (n : Int) = .ok (nats n) := by rw [lrE_ok (by omega) (by omega), Int.toNat_natCast]
  have eT : comE (fun state_25 => comE (fun word_26 => M_law_answers t state_25 word_26) (WS L n)) (nats n) = .ok ((nats n).map (tl t L n)) := comE_ok (by rw [nats_len]; omega) fun s hs => tl_ok w (nats_mem.mp hs).1 (nats_mem.mp hs).2
  have hmodn : ∀ x : Int, modE x (n : Int) = .ok (x % (n : Int)) := fun x => modE_ok (by omega)
  have hat : ∀ x : Int, 0 ≤ x % (n : Int) ∧ x % (n : Int) < n := fun x => ⟨Int.emod_nonneg _ (by omega), Int.emod_lt_of_pos _ (by omega)⟩
  have eB : ∀ xs : LI, (∀ x ∈ xs, 0 ≤ x ∧ x < n) → forR (B_law_2 (n : Int) ((nats n).map (tl t L n)) (WS L n) t (DU t n L (K + 1))) xs () = .ok (.inl ()) := fun xs hx => by
    rw [forR_nx (g := fun _ _ => ()) fun s a ha => ?_]
    unfold B_law_2
    rw [eG, ok_bind, forR_nx (g := fun _ _ => ()) fun s b hb => one_ok w hlt hK k1 (hx a ha) (nats_mem.mp hb)]
    rfl
  have eB1 := eB (nats n) fun x hx => nats_mem.mp hx
  have eB2 := eB [p0 % (n : Int), p1 % (n : Int)] fun x hx => by
    simp only [List.mem_cons, List.not_mem_nil, or_false] at hx
    rcases hx with rfl | rfl <;> exact hat _
  have f1 : M_law_refuses t ((n : Int) + p2) (p0 % (n : Int)) = .ok true := refuses_ok w (.inl (by omega))
  have f2 : M_law_refuses t (p0 % (n : Int)) ((n : Int) + p2) = .ok true := refuses_ok w (.inr ⟨hat _, by omega⟩)
  have f3 : M_law_refuses t (-1 - p2) (p0 % (n : Int)) = .ok true := refuses_ok w (.inl (by omega))
  have f4 : M_law_refuses t (p0 % (n : Int)) (-1 - p2) = .ok true := refuses_ok w (.inr ⟨hat _, by omega⟩)
  unfold M_law
  simp only [e0, e1, ex1, ep, i0, i1, i2, i3, j0, j1, j2, hc, hmod, et, eHn, eRow, eLen, eWo, eG, eT, eR, eLr, hmodn, ok_bind, decide_true, decide_false, if_true, if_false, ↓reduceIte, Bool.false_eq_true, Bool.not_true, Bool.not_false, Bool.and_true, Bool.true_and, Bool.and_false, Bool.false_and, Bool.or_true, Bool.true_or, Bool.or_false, Bool.false_or, decide_eq_true_eq, nex_ok, ofO_some, Sum.elim_inl, Sum.elim_inr]
  by_cases c7 : (n : Int) > 7
  · simp only [c7, eB2, f1, f2, f3, f4, ok_bind, decide_true, decide_false, if_true, if_false, ↓reduceIte, Bool.false_eq_true, Bool.not_true, Bool.not_false, Bool.and_true, Bool.true_and, Bool.and_false, Bool.false_and, Bool.or_true, Bool.true_or, Bool.or_false, Bool.false_or, decide_eq_true_eq, nex_ok, ofO_some, Sum.elim_inl, Sum.elim_inr]
  · simp only [c7, eB1, f1, f2, f3, f4, ok_bind, decide_true, decide_false, if_true, if_false, ↓reduceIte, Bool.false_eq_true, Bool.not_true, Bool.not_false, Bool.and_true, Bool.true_and, Bool.and_false, Bool.false_and, Bool.or_true, Bool.true_or, Bool.or_false, Bool.false_or, decide_eq_true_eq, nex_ok, ofO_some, Sum.elim_inl, Sum.elim_inr]
end K62
namespace K62
open PySem PV TM
theorem law_true : ∀ ns : List Int, ns.length ≤ 63 → F_law [scr ns] = .ok (.z, .bool true) := fun ns _ => tru_of (sd_law ns) (law_M ns)
end K62
namespace K62
open PySem PySem.Spec PyProof.Rows L2 PV
theorem law_ok {P : Program} {w : World} {K : PySem.W.Frag} {mg : Str → Option Value} {base : Heap} (T : Tx K mg w) : FnOk P w K mg base (L2.CX P w) 5 T.f_law T.fd_law ["script"] (spTop K) := top_ok (ok_law T) law_true
theorem all_mk {P : Program} {w : World} {K : PySem.W.Frag} {h : Heap} {mg : Str → Option Value} {fa : Addr}
    {f_letter_count : Addr} {od_letter_count an_letter_count : Option Addr} {sl_letter_count : Array (Option Value)} {oc_letter_count kV_letter_count dc_letter_count pm_letter_count cd_letter_count ct_letter_count : Value}
    {f_state_count : Addr} {od_state_count an_state_count : Option Addr} {sl_state_count : Array (Option Value)} {oc_state_count kV_state_count dc_state_count pm_state_count cd_state_count ct_state_count : Value}
    {f_check_states : Addr} {od_check_states an_check_states : Option Addr} {sl_check_states : Array (Option Value)} {oc_check_states kV_check_states dc_check_states pm_check_states cd_check_states ct_check_states : Value}
    {f_step : Addr} {od_step an_step : Option Addr} {sl_step : Array (Option Value)} {oc_step kV_step dc_step pm_step cd_step ct_step : Value}
    {f_search : Addr} {od_search an_search : Option Addr} {sl_search : Array (Option Value)} {oc_search kV_search dc_search pm_search cd_search ct_search : Value}
    {f_next_round : Addr} {od_next_round an_next_round : Option Addr} {sl_next_round : Array (Option Value)} {oc_next_round kV_next_round dc_next_round pm_next_round cd_next_round ct_next_round : Value}
    {f_class_rounds : Addr} {od_class_rounds an_class_rounds : Option Addr} {sl_class_rounds : Array (Option Value)} {oc_class_rounds kV_class_rounds dc_class_rounds pm_class_rounds cd_class_rounds ct_class_rounds : Value}
    {f_telling_word : Addr} {od_telling_word an_telling_word : Option Addr} {sl_telling_word : Array (Option Value)} {oc_telling_word kV_telling_word dc_telling_word pm_telling_word cd_telling_word ct_telling_word : Value}
    {f_law_far : Addr} {od_law_far an_law_far : Option Addr} {sl_law_far : Array (Option Value)} {oc_law_far kV_law_far dc_law_far pm_law_far cd_law_far ct_law_far : Value}
    {f_law_parts : Addr} {od_law_parts an_law_parts : Option Addr} {sl_law_parts : Array (Option Value)} {oc_law_parts kV_law_parts dc_law_parts pm_law_parts cd_law_parts ct_law_parts : Value}
    {f_law_is_integer : Addr} {od_law_is_integer an_law_is_integer : Option Addr} {sl_law_is_integer : Array (Option Value)} {oc_law_is_integer kV_law_is_integer dc_law_is_integer pm_law_is_integer cd_law_is_integer ct_law_is_integer : Value}
    {f_law_answer : Addr} {od_law_answer an_law_answer : Option Addr} {sl_law_answer : Array (Option Value)} {oc_law_answer kV_law_answer dc_law_answer pm_law_answer cd_law_answer ct_law_answer : Value}
    {f_law_table : Addr} {od_law_table an_law_table : Option Addr} {sl_law_table : Array (Option Value)} {oc_law_table kV_law_table dc_law_table pm_law_table cd_law_table ct_law_table : Value}
    {f_law_answers : Addr} {od_law_answers an_law_answers : Option Addr} {sl_law_answers : Array (Option Value)} {oc_law_answers kV_law_answers dc_law_answers pm_law_answers cd_law_answers ct_law_answers : Value}
    {f_law_longer : Addr} {od_law_longer an_law_longer : Option Addr} {sl_law_longer : Array (Option Value)} {oc_law_longer kV_law_longer dc_law_longer pm_law_longer cd_law_longer ct_law_longer : Value}
    {f_law_words : Addr} {od_law_words an_law_words : Option Addr} {sl_law_words : Array (Option Value)} {oc_law_words kV_law_words dc_law_words pm_law_words cd_law_words ct_law_words : Value}
    {f_law_first : Addr} {od_law_first an_law_first : Option Addr} {sl_law_first : Array (Option Value)} {oc_law_first kV_law_first dc_law_first pm_law_first cd_law_first ct_law_first : Value}
    {f_law_round : Addr} {od_law_round an_law_round : Option Addr} {sl_law_round : Array (Option Value)} {oc_law_round kV_law_round dc_law_round pm_law_round cd_law_round ct_law_round : Value}
    {f_law_is_told : Addr} {od_law_is_told an_law_is_told : Option Addr} {sl_law_is_told : Array (Option Value)} {oc_law_is_told kV_law_is_told dc_law_is_told pm_law_is_told cd_law_is_told ct_law_is_told : Value}
    {f_law_refuses : Addr} {od_law_refuses an_law_refuses : Option Addr} {sl_law_refuses : Array (Option Value)} {oc_law_refuses kV_law_refuses dc_law_refuses pm_law_refuses cd_law_refuses ct_law_refuses : Value}
    {f_law : Addr} {od_law an_law : Option Addr} {sl_law : Array (Option Value)} {oc_law kV_law dc_law pm_law cd_law ct_law : Value}
    {c_GatesError : Addr}
    {c_NoSuchThing : Addr}
    {u_ROWS : Value} (X : K.In h) (G : h.Ns mainGlobals mg) (hfa : mg "law" = some (.ref fa))
    (a_letter_count : PySem.W.nsIn K mainGlobals "letter_count" = some (some (.ref f_letter_count)))
    (l_letter_count : K.lookup f_letter_count = some ⟨oc_letter_count, od_letter_count, .func (PySem.W.fnOf "letter_count" "letter_count" (defArgs s_letter_count) (defBody s_letter_count) (defScope s_letter_count) .none kV_letter_count dc_letter_count pm_letter_count an_letter_count cd_letter_count ct_letter_count), sl_letter_count⟩)
    (c_letter_count : PySem.W.codeIn K cd_letter_count "letter_count" = true)
    (k_letter_count : PySem.W.keepIn K (.ref f_letter_count) = true)
    (a_state_count : PySem.W.nsIn K mainGlobals "state_count" = some (some (.ref f_state_count)))
    (l_state_count : K.lookup f_state_count = some ⟨oc_state_count, od_state_count, .func (PySem.W.fnOf "state_count" "state_count" (defArgs s_state_count) (defBody s_state_count) (defScope s_state_count) .none kV_state_count dc_state_count pm_state_count an_state_count cd_state_count ct_state_count), sl_state_count⟩)
    (c_state_count : PySem.W.codeIn K cd_state_count "state_count" = true)
    (k_state_count : PySem.W.keepIn K (.ref f_state_count) = true)
    (a_check_states : PySem.W.nsIn K mainGlobals "check_states" = some (some (.ref f_check_states)))
    (l_check_states : K.lookup f_check_states = some ⟨oc_check_states, od_check_states, .func (PySem.W.fnOf "check_states" "check_states" (defArgs s_check_states) (defBody s_check_states) (defScope s_check_states) .none kV_check_states dc_check_states pm_check_states an_check_states cd_check_states ct_check_states), sl_check_states⟩)
    (c_check_states : PySem.W.codeIn K cd_check_states "check_states" = true)
    (k_check_states : PySem.W.keepIn K (.ref f_check_states) = true)
    (a_step : PySem.W.nsIn K mainGlobals "step" = some (some (.ref f_step)))
    (l_step : K.lookup f_step = some ⟨oc_step, od_step, .func (PySem.W.fnOf "step" "step" (defArgs s_step) (defBody s_step) (defScope s_step) .none kV_step dc_step pm_step an_step cd_step ct_step), sl_step⟩)
    (c_step : PySem.W.codeIn K cd_step "step" = true)
    (k_step : PySem.W.keepIn K (.ref f_step) = true)
    (a_search : PySem.W.nsIn K mainGlobals "search" = some (some (.ref f_search)))
    (l_search : K.lookup f_search = some ⟨oc_search, od_search, .func (PySem.W.fnOf "search" "search" (defArgs s_search) (defBody s_search) (defScope s_search) .none kV_search dc_search pm_search an_search cd_search ct_search), sl_search⟩)
    (c_search : PySem.W.codeIn K cd_search "search" = true)
    (k_search : PySem.W.keepIn K (.ref f_search) = true)
    (a_next_round : PySem.W.nsIn K mainGlobals "next_round" = some (some (.ref f_next_round)))
    (l_next_round : K.lookup f_next_round = some ⟨oc_next_round, od_next_round, .func (PySem.W.fnOf "next_round" "next_round" (defArgs s_next_round) (defBody s_next_round) (defScope s_next_round) .none kV_next_round dc_next_round pm_next_round an_next_round cd_next_round ct_next_round), sl_next_round⟩)
    (c_next_round : PySem.W.codeIn K cd_next_round "next_round" = true)
    (k_next_round : PySem.W.keepIn K (.ref f_next_round) = true)
    (a_class_rounds : PySem.W.nsIn K mainGlobals "class_rounds" = some (some (.ref f_class_rounds)))
    (l_class_rounds : K.lookup f_class_rounds = some ⟨oc_class_rounds, od_class_rounds, .func (PySem.W.fnOf "class_rounds" "class_rounds" (defArgs s_class_rounds) (defBody s_class_rounds) (defScope s_class_rounds) .none kV_class_rounds dc_class_rounds pm_class_rounds an_class_rounds cd_class_rounds ct_class_rounds), sl_class_rounds⟩)
    (c_class_rounds : PySem.W.codeIn K cd_class_rounds "class_rounds" = true)
    (k_class_rounds : PySem.W.keepIn K (.ref f_class_rounds) = true)
    (a_telling_word : PySem.W.nsIn K mainGlobals "telling_word" = some (some (.ref f_telling_word)))
    (l_telling_word : K.lookup f_telling_word = some ⟨oc_telling_word, od_telling_word, .func (PySem.W.fnOf "telling_word" "telling_word" (defArgs s_telling_word) (defBody s_telling_word) (defScope s_telling_word) .none kV_telling_word dc_telling_word pm_telling_word an_telling_word cd_telling_word ct_telling_word), sl_telling_word⟩)
    (c_telling_word : PySem.W.codeIn K cd_telling_word "telling_word" = true)
    (k_telling_word : PySem.W.keepIn K (.ref f_telling_word) = true)
    (a_law_far : PySem.W.nsIn K mainGlobals "_law_far" = some (some (.ref f_law_far)))
    (l_law_far : K.lookup f_law_far = some ⟨oc_law_far, od_law_far, .func (PySem.W.fnOf "_law_far" "_law_far" (defArgs s_law_far) (defBody s_law_far) (defScope s_law_far) .none kV_law_far dc_law_far pm_law_far an_law_far cd_law_far ct_law_far), sl_law_far⟩)
    (c_law_far : PySem.W.codeIn K cd_law_far "_law_far" = true)
    (k_law_far : PySem.W.keepIn K (.ref f_law_far) = true)
    (a_law_parts : PySem.W.nsIn K mainGlobals "_law_parts" = some (some (.ref f_law_parts)))
    (l_law_parts : K.lookup f_law_parts = some ⟨oc_law_parts, od_law_parts, .func (PySem.W.fnOf "_law_parts" "_law_parts" (defArgs s_law_parts) (defBody s_law_parts) (defScope s_law_parts) .none kV_law_parts dc_law_parts pm_law_parts an_law_parts cd_law_parts ct_law_parts), sl_law_parts⟩)
    (c_law_parts : PySem.W.codeIn K cd_law_parts "_law_parts" = true)
    (k_law_parts : PySem.W.keepIn K (.ref f_law_parts) = true)
    (a_law_is_integer : PySem.W.nsIn K mainGlobals "_law_is_integer" = some (some (.ref f_law_is_integer)))
    (l_law_is_integer : K.lookup f_law_is_integer = some ⟨oc_law_is_integer, od_law_is_integer, .func (PySem.W.fnOf "_law_is_integer" "_law_is_integer" (defArgs s_law_is_integer) (defBody s_law_is_integer) (defScope s_law_is_integer) .none kV_law_is_integer dc_law_is_integer pm_law_is_integer an_law_is_integer cd_law_is_integer ct_law_is_integer), sl_law_is_integer⟩)
    (c_law_is_integer : PySem.W.codeIn K cd_law_is_integer "_law_is_integer" = true)
    (k_law_is_integer : PySem.W.keepIn K (.ref f_law_is_integer) = true)
    (a_law_answer : PySem.W.nsIn K mainGlobals "_law_answer" = some (some (.ref f_law_answer)))
    (l_law_answer : K.lookup f_law_answer = some ⟨oc_law_answer, od_law_answer, .func (PySem.W.fnOf "_law_answer" "_law_answer" (defArgs s_law_answer) (defBody s_law_answer) (defScope s_law_answer) .none kV_law_answer dc_law_answer pm_law_answer an_law_answer cd_law_answer ct_law_answer), sl_law_answer⟩)
    (c_law_answer : PySem.W.codeIn K cd_law_answer "_law_answer" = true)
    (k_law_answer : PySem.W.keepIn K (.ref f_law_answer) = true)
    (a_law_table : PySem.W.nsIn K mainGlobals "_law_table" = some (some (.ref f_law_table)))
    (l_law_table : K.lookup f_law_table = some ⟨oc_law_table, od_law_table, .func (PySem.W.fnOf "_law_table" "_law_table" (defArgs s_law_table) (defBody s_law_table) (defScope s_law_table) .none kV_law_table dc_law_table pm_law_table an_law_table cd_law_table ct_law_table), sl_law_table⟩)
    (c_law_table : PySem.W.codeIn K cd_law_table "_law_table" = true)
    (k_law_table : PySem.W.keepIn K (.ref f_law_table) = true)
    (a_law_answers : PySem.W.nsIn K mainGlobals "_law_answers" = some (some (.ref f_law_answers)))
    (l_law_answers : K.lookup f_law_answers = some ⟨oc_law_answers, od_law_answers, .func (PySem.W.fnOf "_law_answers" "_law_answers" (defArgs s_law_answers) (defBody s_law_answers) (defScope s_law_answers) .none kV_law_answers dc_law_answers pm_law_answers an_law_answers cd_law_answers ct_law_answers), sl_law_answers⟩)
    (c_law_answers : PySem.W.codeIn K cd_law_answers "_law_answers" = true)
    (k_law_answers : PySem.W.keepIn K (.ref f_law_answers) = true)
    (a_law_longer : PySem.W.nsIn K mainGlobals "_law_longer" = some (some (.ref f_law_longer)))
    (l_law_longer : K.lookup f_law_longer = some ⟨oc_law_longer, od_law_longer, .func (PySem.W.fnOf "_law_longer" "_law_longer" (defArgs s_law_longer) (defBody s_law_longer) (defScope s_law_longer) .none kV_law_longer dc_law_longer pm_law_longer an_law_longer cd_law_longer ct_law_longer), sl_law_longer⟩)
    (c_law_longer : PySem.W.codeIn K cd_law_longer "_law_longer" = true)
    (k_law_longer : PySem.W.keepIn K (.ref f_law_longer) = true)
    (a_law_words : PySem.W.nsIn K mainGlobals "_law_words" = some (some (.ref f_law_words)))
    (l_law_words : K.lookup f_law_words = some ⟨oc_law_words, od_law_words, .func (PySem.W.fnOf "_law_words" "_law_words" (defArgs s_law_words) (defBody s_law_words) (defScope s_law_words) .none kV_law_words dc_law_words pm_law_words an_law_words cd_law_words ct_law_words), sl_law_words⟩)
    (c_law_words : PySem.W.codeIn K cd_law_words "_law_words" = true)
    (k_law_words : PySem.W.keepIn K (.ref f_law_words) = true)
    (a_law_first : PySem.W.nsIn K mainGlobals "_law_first" = some (some (.ref f_law_first)))
    (l_law_first : K.lookup f_law_first = some ⟨oc_law_first, od_law_first, .func (PySem.W.fnOf "_law_first" "_law_first" (defArgs s_law_first) (defBody s_law_first) (defScope s_law_first) .none kV_law_first dc_law_first pm_law_first an_law_first cd_law_first ct_law_first), sl_law_first⟩)
    (c_law_first : PySem.W.codeIn K cd_law_first "_law_first" = true)
    (k_law_first : PySem.W.keepIn K (.ref f_law_first) = true)
    (a_law_round : PySem.W.nsIn K mainGlobals "_law_round" = some (some (.ref f_law_round)))
    (l_law_round : K.lookup f_law_round = some ⟨oc_law_round, od_law_round, .func (PySem.W.fnOf "_law_round" "_law_round" (defArgs s_law_round) (defBody s_law_round) (defScope s_law_round) .none kV_law_round dc_law_round pm_law_round an_law_round cd_law_round ct_law_round), sl_law_round⟩)
    (c_law_round : PySem.W.codeIn K cd_law_round "_law_round" = true)
    (k_law_round : PySem.W.keepIn K (.ref f_law_round) = true)
    (a_law_is_told : PySem.W.nsIn K mainGlobals "_law_is_told" = some (some (.ref f_law_is_told)))
    (l_law_is_told : K.lookup f_law_is_told = some ⟨oc_law_is_told, od_law_is_told, .func (PySem.W.fnOf "_law_is_told" "_law_is_told" (defArgs s_law_is_told) (defBody s_law_is_told) (defScope s_law_is_told) .none kV_law_is_told dc_law_is_told pm_law_is_told an_law_is_told cd_law_is_told ct_law_is_told), sl_law_is_told⟩)
    (c_law_is_told : PySem.W.codeIn K cd_law_is_told "_law_is_told" = true)
    (k_law_is_told : PySem.W.keepIn K (.ref f_law_is_told) = true)
    (a_law_refuses : PySem.W.nsIn K mainGlobals "_law_refuses" = some (some (.ref f_law_refuses)))
    (l_law_refuses : K.lookup f_law_refuses = some ⟨oc_law_refuses, od_law_refuses, .func (PySem.W.fnOf "_law_refuses" "_law_refuses" (defArgs s_law_refuses) (defBody s_law_refuses) (defScope s_law_refuses) .none kV_law_refuses dc_law_refuses pm_law_refuses an_law_refuses cd_law_refuses ct_law_refuses), sl_law_refuses⟩)
    (c_law_refuses : PySem.W.codeIn K cd_law_refuses "_law_refuses" = true)
    (k_law_refuses : PySem.W.keepIn K (.ref f_law_refuses) = true)
    (a_law : PySem.W.nsIn K mainGlobals "law" = some (some (.ref f_law)))
    (l_law : K.lookup f_law = some ⟨oc_law, od_law, .func (PySem.W.fnOf "law" "law" (defArgs s_law) (defBody s_law) (defScope s_law) .none kV_law dc_law pm_law an_law cd_law ct_law), sl_law⟩)
    (c_law : PySem.W.codeIn K cd_law "law" = true)
    (k_law : PySem.W.keepIn K (.ref f_law) = true)
    (z_all : PySem.W.nsIn K mainGlobals "all" = some none)
    (z_bool : PySem.W.nsIn K mainGlobals "bool" = some none)
    (z_enumerate : PySem.W.nsIn K mainGlobals "enumerate" = some none)
    (z_int : PySem.W.nsIn K mainGlobals "int" = some none)
    (z_isinstance : PySem.W.nsIn K mainGlobals "isinstance" = some none)
    (z_len : PySem.W.nsIn K mainGlobals "len" = some none)
    (z_list : PySem.W.nsIn K mainGlobals "list" = some none)
    (z_range : PySem.W.nsIn K mainGlobals "range" = some none)
    (z_tuple : PySem.W.nsIn K mainGlobals "tuple" = some none)
    (e1_GatesError : PySem.W.nsIn K mainGlobals "GatesError" = some (some (.ref c_GatesError)))
    (e3_GatesError : PySem.W.keepIn K (.ref c_GatesError) = true)
    (e4_GatesError : PySem.W.subIn K (.ref c_GatesError) (.type "BaseException") = some true)
    (e5_GatesError : PySem.W.typeIn K (.ref c_GatesError) = some (.type "type"))
    (e6_GatesError : PySem.W.isClsIn K c_GatesError = true)
    (e7_GatesError : PySem.W.subIn K (.ref c_GatesError) (.ref c_GatesError) = some true)
    (e1_NoSuchThing : PySem.W.nsIn K mainGlobals "NoSuchThing" = some (some (.ref c_NoSuchThing)))
    (e2_NoSuchThing : PySem.W.excIn K c_NoSuchThing [.type "ValueError", .type "Exception", .type "BaseException", .type "object"] "ValueError.__new__" = true)
    (e3_NoSuchThing : PySem.W.keepIn K (.ref c_NoSuchThing) = true)
    (e4_NoSuchThing : PySem.W.subIn K (.ref c_NoSuchThing) (.type "BaseException") = some true)
    (e5_NoSuchThing : PySem.W.typeIn K (.ref c_NoSuchThing) = some (.type "type"))
    (e6_NoSuchThing : PySem.W.isClsIn K c_NoSuchThing = true)
    (e7_NoSuchThing : PySem.W.subIn K (.ref c_NoSuchThing) (.ref c_NoSuchThing) = some true)
    (es_GatesError_NoSuchThing : PySem.W.subIn K (.ref c_NoSuchThing) (.ref c_GatesError) = some true)
    (xa_NoSuchThing : PySem.W.findIn K (.ref c_NoSuchThing) "__getattribute__" = some (some (.builtin "BaseException.__getattribute__")))
    (xb_NoSuchThing : PySem.W.findIn K (.ref c_NoSuchThing) "__getattr__" = some none)
    (xd_NoSuchThing : PySem.W.hasDictIn K c_NoSuchThing = true)
    (xe_NoSuchThing : PySem.W.findIn K (.ref c_NoSuchThing) "__class__" = some (some (.builtin "object.__class__")))
    (xm_NoSuchThing : PySem.W.mroIn K c_NoSuchThing (.type "object") = some true)
    (xn : PySem.W.specialIn K (.builtin "object.__class__") "__get__" = some (some (.builtin "getset_descriptor.__get__")))
    (xt : PySem.W.takesIn K (.builtin "object.__class__") = some true)
    (d1_ROWS : PySem.W.nsIn K mainGlobals "ROWS" = some (some u_ROWS))
    (r_dv_ROWS : RelV (.int 2) u_ROWS) :
    ∃ fd : FuncData, (∀ (s : Shared) (v : Value), BindsTo s fd ⟨[v], []⟩ [("script", v)]) ∧ ∀ base : Heap, K.In base → base.Ns mainGlobals mg → FnOk P w K mg base (L2.CX P w) 5 fa fd ["script"] (spTop K) := by
  have e := hfa.symm.trans (PySem.W.mg_of X G a_law)
  cases e
  have F_letter_count := fun_mk (st := s_letter_count) l_letter_count c_letter_count k_letter_count
  have b_letter_count := F_letter_count.binds (ps := ["table"]) fun _ _ _ _ _ _ us hl => match us, hl with | [_], _ => rfl
  have F_state_count := fun_mk (st := s_state_count) l_state_count c_state_count k_state_count
  have b_state_count := F_state_count.binds (ps := ["table"]) fun _ _ _ _ _ _ us hl => match us, hl with | [_], _ => rfl
  have F_check_states := fun_mk (st := s_check_states) l_check_states c_check_states k_check_states
  have b_check_states := F_check_states.binds (ps := ["table", "states"]) fun _ _ _ _ _ _ us hl => match us, hl with | [_, _], _ => rfl
  have F_step := fun_mk (st := s_step) l_step c_step k_step
  have b_step := F_step.binds (ps := ["table", "state", "letter"]) fun _ _ _ _ _ _ us hl => match us, hl with | [_, _, _], _ => rfl
  have F_search := fun_mk (st := s_search) l_search c_search k_search
  have b_search := F_search.binds (ps := ["one", "first", "other", "second"]) fun _ _ _ _ _ _ us hl => match us, hl with | [_, _, _, _], _ => rfl
  have F_next_round := fun_mk (st := s_next_round) l_next_round c_next_round k_next_round
  have b_next_round := F_next_round.binds (ps := ["table", "classes"]) fun _ _ _ _ _ _ us hl => match us, hl with | [_, _], _ => rfl
  have F_class_rounds := fun_mk (st := s_class_rounds) l_class_rounds c_class_rounds k_class_rounds
  have b_class_rounds := F_class_rounds.binds (ps := ["table"]) fun _ _ _ _ _ _ us hl => match us, hl with | [_], _ => rfl
  have F_telling_word := fun_mk (st := s_telling_word) l_telling_word c_telling_word k_telling_word
  have b_telling_word := F_telling_word.binds (ps := ["table", "a", "b"]) fun _ _ _ _ _ _ us hl => match us, hl with | [_, _, _], _ => rfl
  have F_law_far := fun_mk (st := s_law_far) l_law_far c_law_far k_law_far
  have b_law_far := F_law_far.binds (ps := ["script", "k"]) fun _ _ _ _ _ _ us hl => match us, hl with | [_, _], _ => rfl
  have F_law_parts := fun_mk (st := s_law_parts) l_law_parts c_law_parts k_law_parts
  have b_law_parts := F_law_parts.binds (ps := ["cell", "sizes"]) fun _ _ _ _ _ _ us hl => match us, hl with | [_, _], _ => rfl
  have F_law_is_integer := fun_mk (st := s_law_is_integer) l_law_is_integer c_law_is_integer k_law_is_integer
  have b_law_is_integer := F_law_is_integer.binds (ps := ["actual"]) fun _ _ _ _ _ _ us hl => match us, hl with | [_], _ => rfl
  have F_law_answer := fun_mk (st := s_law_answer) l_law_answer c_law_answer k_law_answer
  have b_law_answer := F_law_answer.binds (ps := ["mode", "top", "part"]) fun _ _ _ _ _ _ us hl => match us, hl with | [_, _, _], _ => rfl
  have F_law_table := fun_mk (st := s_law_table) l_law_table c_law_table k_law_table
  have b_law_table := F_law_table.binds (ps := ["script", "at", "head"]) fun _ _ _ _ _ _ us hl => match us, hl with | [_, _, _], _ => rfl
  have F_law_answers := fun_mk (st := s_law_answers) l_law_answers c_law_answers k_law_answers
  have b_law_answers := F_law_answers.binds (ps := ["table", "state", "word"]) fun _ _ _ _ _ _ us hl => match us, hl with | [_, _, _], _ => rfl
  have F_law_longer := fun_mk (st := s_law_longer) l_law_longer c_law_longer k_law_longer
  have b_law_longer := F_law_longer.binds (ps := ["words", "letters"]) fun _ _ _ _ _ _ us hl => match us, hl with | [_, _], _ => rfl
  have F_law_words := fun_mk (st := s_law_words) l_law_words c_law_words k_law_words
  have b_law_words := F_law_words.binds (ps := ["letters", "longest"]) fun _ _ _ _ _ _ us hl => match us, hl with | [_, _], _ => rfl
  have F_law_first := fun_mk (st := s_law_first) l_law_first c_law_first k_law_first
  have b_law_first := F_law_first.binds (ps := ["words", "one", "other"]) fun _ _ _ _ _ _ us hl => match us, hl with | [_, _, _], _ => rfl
  have F_law_round := fun_mk (st := s_law_round) l_law_round c_law_round k_law_round
  have b_law_round := F_law_round.binds (ps := ["rounds", "a", "b"]) fun _ _ _ _ _ _ us hl => match us, hl with | [_, _, _], _ => rfl
  have F_law_is_told := fun_mk (st := s_law_is_told) l_law_is_told c_law_is_told k_law_is_told
  have b_law_is_told := F_law_is_told.binds (ps := ["actual", "due"]) fun _ _ _ _ _ _ us hl => match us, hl with | [_, _], _ => rfl
  have F_law_refuses := fun_mk (st := s_law_refuses) l_law_refuses c_law_refuses k_law_refuses
  have b_law_refuses := F_law_refuses.binds (ps := ["table", "a", "b"]) fun _ _ _ _ _ _ us hl => match us, hl with | [_, _, _], _ => rfl
  have F_law := fun_mk (st := s_law) l_law c_law k_law
  have b_law := F_law.binds (ps := ["script"]) fun _ _ _ _ _ _ us hl => match us, hl with | [_], _ => rfl
  have T : ∃ T : Tx K mg w, T.f_law = fa ∧ T.fd_law = PySem.W.fnOf "law" "law" (defArgs s_law) (defBody s_law) (defScope s_law) .none kV_law dc_law pm_law an_law cd_law ct_law := ⟨{
    f_letter_count := f_letter_count,
    fd_letter_count := _,
    F_letter_count := F_letter_count,
    g_letter_count := PySem.W.mg_of X G a_letter_count,
    kp_letter_count := k_letter_count,
    b_letter_count := b_letter_count,
    f_state_count := f_state_count,
    fd_state_count := _,
    F_state_count := F_state_count,
    g_state_count := PySem.W.mg_of X G a_state_count,
    kp_state_count := k_state_count,
    b_state_count := b_state_count,
    f_check_states := f_check_states,
    fd_check_states := _,
    F_check_states := F_check_states,
    g_check_states := PySem.W.mg_of X G a_check_states,
    kp_check_states := k_check_states,
    b_check_states := b_check_states,
    f_step := f_step,
    fd_step := _,
    F_step := F_step,
    g_step := PySem.W.mg_of X G a_step,
    kp_step := k_step,
    b_step := b_step,
    f_search := f_search,
    fd_search := _,
    F_search := F_search,
    g_search := PySem.W.mg_of X G a_search,
    kp_search := k_search,
    b_search := b_search,
    f_next_round := f_next_round,
    fd_next_round := _,
    F_next_round := F_next_round,
    g_next_round := PySem.W.mg_of X G a_next_round,
    kp_next_round := k_next_round,
    b_next_round := b_next_round,
    f_class_rounds := f_class_rounds,
    fd_class_rounds := _,
    F_class_rounds := F_class_rounds,
    g_class_rounds := PySem.W.mg_of X G a_class_rounds,
    kp_class_rounds := k_class_rounds,
    b_class_rounds := b_class_rounds,
    f_telling_word := f_telling_word,
    fd_telling_word := _,
    F_telling_word := F_telling_word,
    g_telling_word := PySem.W.mg_of X G a_telling_word,
    kp_telling_word := k_telling_word,
    b_telling_word := b_telling_word,
    f_law_far := f_law_far,
    fd_law_far := _,
    F_law_far := F_law_far,
    g_law_far := PySem.W.mg_of X G a_law_far,
    kp_law_far := k_law_far,
    b_law_far := b_law_far,
    f_law_parts := f_law_parts,
    fd_law_parts := _,
    F_law_parts := F_law_parts,
    g_law_parts := PySem.W.mg_of X G a_law_parts,
    kp_law_parts := k_law_parts,
    b_law_parts := b_law_parts,
    f_law_is_integer := f_law_is_integer,
    fd_law_is_integer := _,
    F_law_is_integer := F_law_is_integer,
    g_law_is_integer := PySem.W.mg_of X G a_law_is_integer,
    kp_law_is_integer := k_law_is_integer,
    b_law_is_integer := b_law_is_integer,
    f_law_answer := f_law_answer,
    fd_law_answer := _,
    F_law_answer := F_law_answer,
    g_law_answer := PySem.W.mg_of X G a_law_answer,
    kp_law_answer := k_law_answer,
    b_law_answer := b_law_answer,
    f_law_table := f_law_table,
    fd_law_table := _,
    F_law_table := F_law_table,
    g_law_table := PySem.W.mg_of X G a_law_table,
    kp_law_table := k_law_table,
    b_law_table := b_law_table,
    f_law_answers := f_law_answers,
    fd_law_answers := _,
    F_law_answers := F_law_answers,
    g_law_answers := PySem.W.mg_of X G a_law_answers,
    kp_law_answers := k_law_answers,
    b_law_answers := b_law_answers,
    f_law_longer := f_law_longer,
    fd_law_longer := _,
    F_law_longer := F_law_longer,
    g_law_longer := PySem.W.mg_of X G a_law_longer,
    kp_law_longer := k_law_longer,
    b_law_longer := b_law_longer,
    f_law_words := f_law_words,
    fd_law_words := _,
    F_law_words := F_law_words,
    g_law_words := PySem.W.mg_of X G a_law_words,
    kp_law_words := k_law_words,
    b_law_words := b_law_words,
    f_law_first := f_law_first,
    fd_law_first := _,
    F_law_first := F_law_first,
    g_law_first := PySem.W.mg_of X G a_law_first,
    kp_law_first := k_law_first,
    b_law_first := b_law_first,
    f_law_round := f_law_round,
    fd_law_round := _,
    F_law_round := F_law_round,
    g_law_round := PySem.W.mg_of X G a_law_round,
    kp_law_round := k_law_round,
    b_law_round := b_law_round,
    f_law_is_told := f_law_is_told,
    fd_law_is_told := _,
    F_law_is_told := F_law_is_told,
    g_law_is_told := PySem.W.mg_of X G a_law_is_told,
    kp_law_is_told := k_law_is_told,
    b_law_is_told := b_law_is_told,
    f_law_refuses := f_law_refuses,
    fd_law_refuses := _,
    F_law_refuses := F_law_refuses,
    g_law_refuses := PySem.W.mg_of X G a_law_refuses,
    kp_law_refuses := k_law_refuses,
    b_law_refuses := b_law_refuses,
    f_law := fa,
    fd_law := _,
    F_law := F_law,
    g_law := PySem.W.mg_of X G a_law,
    kp_law := k_law,
    b_law := b_law,
    m_all := PySem.W.mg_none_of X G z_all,
    m_bool := PySem.W.mg_none_of X G z_bool,
    m_enumerate := PySem.W.mg_none_of X G z_enumerate,
    m_int := PySem.W.mg_none_of X G z_int,
    m_isinstance := PySem.W.mg_none_of X G z_isinstance,
    m_len := PySem.W.mg_none_of X G z_len,
    m_list := PySem.W.mg_none_of X G z_list,
    m_range := PySem.W.mg_none_of X G z_range,
    m_tuple := PySem.W.mg_none_of X G z_tuple,
    c_GatesError := c_GatesError,
    g_GatesError := PySem.W.mg_of X G e1_GatesError,
    kp_GatesError := e3_GatesError,
    sb_GatesError := e4_GatesError,
    ty_GatesError := e5_GatesError,
    x_NoSuchThing := e2_NoSuchThing,
    c_NoSuchThing := c_NoSuchThing,
    g_NoSuchThing := PySem.W.mg_of X G e1_NoSuchThing,
    kp_NoSuchThing := e3_NoSuchThing,
    sb_NoSuchThing := e4_NoSuchThing,
    ty_NoSuchThing := e5_NoSuchThing,
    em_GatesError_NoSuchThing := exm_of2 e4_GatesError e6_GatesError e5_GatesError es_GatesError_NoSuchThing,
    ki_NoSuchThing_NoSuchThing := kit_of2 e7_NoSuchThing e6_NoSuchThing e5_NoSuchThing e7_NoSuchThing,
    xc_NoSuchThing := ⟨xa_NoSuchThing, xb_NoSuchThing, e4_NoSuchThing, xd_NoSuchThing, xe_NoSuchThing, xn, xt, xm_NoSuchThing⟩,
    a_ROWS := .int 2,
    u_ROWS := _,
    g_ROWS := PySem.W.mg_of X G d1_ROWS,
    r_ROWS := r_dv_ROWS,
    k_ROWS := fun _ => .int _ }, rfl, rfl⟩
  obtain ⟨T, e1, e2⟩ := T
  refine ⟨PySem.W.fnOf "law" "law" (defArgs s_law) (defBody s_law) (defScope s_law) .none kV_law dc_law pm_law an_law cd_law ct_law, fun s v => .of_eq rfl, fun base _ _ => ?_⟩
  have z := law_ok (P := P) (base := base) T
  rw [e1, e2] at z
  exact z
end K62
open PySem PySem.W PyProof.Rows
set_option maxHeartbeats 0 in
theorem PySem.Challenge.cw_pinsalone_k62_telling_words_of_states_holds : PySem.Challenge.rw_pinsalone_k62_telling_words_of_states.Holds := by
  w_on; o_law; k_head; (case hw => w_witness2)
  k_fill
  refine L2.walk_of (l := PySem.Challenge.rw_pinsalone_k62_telling_words_of_states) (n := 63) (k := 5) (x := "script") (CX := fun w => L2.CX PySem.Challenge.rw_pinsalone_k62_telling_words_of_states.prog w) (sp := fun w => PV.spTop _) rfl (by decide) rfl ⟨rfl, by decide, by decide⟩ (fun w h Y => PySem.W.kIn_of Y) ?F (fun _ _ a ns hl _ hS => ⟨a, ns, rfl, hS, hl, fun _ => rfl⟩) (fun w H s e s' h => PV.cx_false h)
  case F =>
    intro w mg fa h KX G hmg
    refine' K62.all_mk KX G hmg ?a_letter_count ?l_letter_count ?c_letter_count ?k_letter_count ?a_state_count ?l_state_count ?c_state_count ?k_state_count ?a_check_states ?l_check_states ?c_check_states ?k_check_states ?a_step ?l_step ?c_step ?k_step ?a_search ?l_search ?c_search ?k_search ?a_next_round ?l_next_round ?c_next_round ?k_next_round ?a_class_rounds ?l_class_rounds ?c_class_rounds ?k_class_rounds ?a_telling_word ?l_telling_word ?c_telling_word ?k_telling_word ?a_law_far ?l_law_far ?c_law_far ?k_law_far ?a_law_parts ?l_law_parts ?c_law_parts ?k_law_parts ?a_law_is_integer ?l_law_is_integer ?c_law_is_integer ?k_law_is_integer ?a_law_answer ?l_law_answer ?c_law_answer ?k_law_answer ?a_law_table ?l_law_table ?c_law_table ?k_law_table ?a_law_answers ?l_law_answers ?c_law_answers ?k_law_answers ?a_law_longer ?l_law_longer ?c_law_longer ?k_law_longer ?a_law_words ?l_law_words ?c_law_words ?k_law_words ?a_law_first ?l_law_first ?c_law_first ?k_law_first ?a_law_round ?l_law_round ?c_law_round ?k_law_round ?a_law_is_told ?l_law_is_told ?c_law_is_told ?k_law_is_told ?a_law_refuses ?l_law_refuses ?c_law_refuses ?k_law_refuses ?a_law ?l_law ?c_law ?k_law ?z_all ?z_bool ?z_enumerate ?z_int ?z_isinstance ?z_len ?z_list ?z_range ?z_tuple ?e1_GatesError ?e3_GatesError ?e4_GatesError ?e5_GatesError ?e6_GatesError ?e7_GatesError ?e1_NoSuchThing ?e2_NoSuchThing ?e3_NoSuchThing ?e4_NoSuchThing ?e5_NoSuchThing ?e6_NoSuchThing ?e7_NoSuchThing ?es_GatesError_NoSuchThing ?xa_NoSuchThing ?xb_NoSuchThing ?xd_NoSuchThing ?xe_NoSuchThing ?xm_NoSuchThing ?xn ?xt ?d1_ROWS ?r_dv_ROWS
    (case a_letter_count => k_is)
    (case l_letter_count => k_is)
    (case c_letter_count => k_is)
    (case k_letter_count => k_is)
    (case a_state_count => k_is)
    (case l_state_count => k_is)
    (case c_state_count => k_is)
    (case k_state_count => k_is)
    (case a_check_states => k_is)
    (case l_check_states => k_is)
    (case c_check_states => k_is)
    (case k_check_states => k_is)
    (case a_step => k_is)
    (case l_step => k_is)
    (case c_step => k_is)
    (case k_step => k_is)
    (case a_search => k_is)
    (case l_search => k_is)
    (case c_search => k_is)
    (case k_search => k_is)
    (case a_next_round => k_is)
    (case l_next_round => k_is)
    (case c_next_round => k_is)
    (case k_next_round => k_is)
    (case a_class_rounds => k_is)
    (case l_class_rounds => k_is)
    (case c_class_rounds => k_is)
    (case k_class_rounds => k_is)
    (case a_telling_word => k_is)
    (case l_telling_word => k_is)
    (case c_telling_word => k_is)
    (case k_telling_word => k_is)
    (case a_law_far => k_is)
    (case l_law_far => k_is)
    (case c_law_far => k_is)
    (case k_law_far => k_is)
    (case a_law_parts => k_is)
    (case l_law_parts => k_is)
    (case c_law_parts => k_is)
    (case k_law_parts => k_is)
    (case a_law_is_integer => k_is)
    (case l_law_is_integer => k_is)
    (case c_law_is_integer => k_is)
    (case k_law_is_integer => k_is)
    (case a_law_answer => k_is)
    (case l_law_answer => k_is)
    (case c_law_answer => k_is)
    (case k_law_answer => k_is)
    (case a_law_table => k_is)
    (case l_law_table => k_is)
    (case c_law_table => k_is)
    (case k_law_table => k_is)
    (case a_law_answers => k_is)
    (case l_law_answers => k_is)
    (case c_law_answers => k_is)
    (case k_law_answers => k_is)
    (case a_law_longer => k_is)
    (case l_law_longer => k_is)
    (case c_law_longer => k_is)
    (case k_law_longer => k_is)
    (case a_law_words => k_is)
    (case l_law_words => k_is)
    (case c_law_words => k_is)
    (case k_law_words => k_is)
    (case a_law_first => k_is)
    (case l_law_first => k_is)
    (case c_law_first => k_is)
    (case k_law_first => k_is)
    (case a_law_round => k_is)
    (case l_law_round => k_is)
    (case c_law_round => k_is)
    (case k_law_round => k_is)
    (case a_law_is_told => k_is)
    (case l_law_is_told => k_is)
    (case c_law_is_told => k_is)
    (case k_law_is_told => k_is)
    (case a_law_refuses => k_is)
    (case l_law_refuses => k_is)
    (case c_law_refuses => k_is)
    (case k_law_refuses => k_is)
    (case a_law => k_is)
    (case l_law => k_is)
    (case c_law => k_is)
    (case k_law => k_is)
    (case z_all => k_is)
    (case z_bool => k_is)
    (case z_enumerate => k_is)
    (case z_int => k_is)
    (case z_isinstance => k_is)
    (case z_len => k_is)
    (case z_list => k_is)
    (case z_range => k_is)
    (case z_tuple => k_is)
    (case e1_GatesError => k_is)
    (case e3_GatesError => k_is)
    (case e4_GatesError => k_is)
    (case e5_GatesError => k_is)
    (case e6_GatesError => k_is)
    (case e7_GatesError => first | rfl | k_is)
    (case e1_NoSuchThing => k_is)
    (case e2_NoSuchThing => k_exc)
    (case e3_NoSuchThing => k_is)
    (case e4_NoSuchThing => k_is)
    (case e5_NoSuchThing => k_is)
    (case e6_NoSuchThing => k_is)
    (case e7_NoSuchThing => first | rfl | k_is)
    (case es_GatesError_NoSuchThing => first | rfl | k_is)
    (case xa_NoSuchThing => k_is)
    (case xb_NoSuchThing => k_is)
    (case xd_NoSuchThing => k_is)
    (case xe_NoSuchThing => k_is)
    (case xm_NoSuchThing => k_is)
    (case xn => k_is)
    (case xt => k_is)
    (case d1_ROWS => k_is)
    (case r_dv_ROWS => exact ⟨_, rfl⟩)
