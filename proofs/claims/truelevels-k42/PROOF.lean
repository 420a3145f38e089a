import PyProof.Rows.All
import Wide.All
import OpenK.AllK
import Wide.FinOn
import HandS.ForMost
import HandS.WordsExc
import HandS.Defaults
import HandS.Walk
import HandS.Zip
import HandS.TupAny
import HandS.TupMul
import HandS.TupLe
import HandS.Flow
import HandS.Deep
import HandS.IsInst
import HandS.SortInts
import HandS.More
import KE.KStateDown
import HandS.Head0
import HandS.Head1
import HandS.Head2
import HandS.HeadEnd
import HandS.HeadHook1
import HandS.HeadHook2
import PySem.Challenge.RW_truelevels_k42_whole_true_levels
import HandS.SortKw
import KE.GoesEnum
import KE.DataMinMax
import KE.SortKeyHeap
import HandS.Keys
set_option autoImplicit true
set_option maxHeartbeats 200000
set_option maxRecDepth 512
set_option Elab.async false
set_option linter.all false
set_option maxRecDepth 100000
set_option maxHeartbeats 4000000
/-! the layer: data, symbolic state, forward rules -/
namespace TL
open PySem PySem.Spec PyProof.Rows L2

/-- data that never changes -/
inductive Dt where
  | non | bl (b : Bool) | int (i : Int) | str (s : Str) | tup (xs : List Dt)
mutual
def Dt.d : Dt → PyData
  | .non => .none
  | .bl b => .bool b
  | .int i => .int i
  | .str s => .str s
  | .tup xs => .tuple (Dt.ds xs)
def Dt.ds : List Dt → List PyData
  | [] => []
  | x :: xs => x.d :: Dt.ds xs
end
theorem ds_map : ∀ xs : List Dt, Dt.ds xs = xs.map Dt.d
  | [] => by simp [Dt.ds]
  | x :: xs => by simp [Dt.ds, ds_map xs]
abbrev Rp (K : PySem.W.Frag) (H : Hp) (v : V) (x : Dt) : Prop := Dp K H v x.d
abbrev RpL (K : PySem.W.Frag) (H : Hp) (vs : List V) (xs : List Dt) : Prop := DpAll K H vs (Dt.ds xs)
/-- tuples stay -/
def Tp (K : PySem.W.Frag) (H H1 : Hp) : Prop := ∀ a xs, SqT K H a xs → SqT K H1 a xs
section
variable {K : PySem.W.Frag} {H H1 : Hp} {v : V} {vs us : List V} {x : Dt} {xs ys : List Dt}
mutual
theorem Rp.tp (t : Tp K H H1) : ∀ (x : Dt) (v : V), Rp K H v x → Rp K H1 v x
  | .non, _, h => by cases h; exact .non
  | .bl b, _, h => by cases h; exact .bl b
  | .int i, _, h => by cases h; exact .int i
  | .str s, _, h => by cases h; exact .str s
  | .tup xs, v, h => by
    have h' : Dp K H v (.tuple (Dt.ds xs)) := by
      have q : Dp K H v (Dt.tup xs).d := h
      rw [Dt.d] at q; exact q
    show Dp K H1 v (Dt.d (.tup xs))
    rw [Dt.d]
    cases h' with
    | tup a b => exact .tup (t _ _ a) (RpL.tp t xs _ b)
theorem RpL.tp (t : Tp K H H1) : ∀ (xs : List Dt) (vs : List V), RpL K H vs xs → RpL K H1 vs xs
  | [], _, h => by
    have h' : DpAll K H _ (Dt.ds []) := h
    rw [Dt.ds] at h'
    cases h'
    show DpAll K H1 _ (Dt.ds [])
    rw [Dt.ds]
    exact .nil
  | x :: xs, vs, h => by
    have h' : DpAll K H vs (Dt.ds (x :: xs)) := h
    rw [Dt.ds] at h'
    show DpAll K H1 vs (Dt.ds (x :: xs))
    rw [Dt.ds]
    cases h' with
    | cons a b => exact .cons (Rp.tp t x _ a) (RpL.tp t xs _ b)
end
theorem rp_non (h : Rp K H v .non) : v = .non := by
  have h' : Dp K H v Dt.non.d := h
  rw [Dt.d] at h'
  cases h'; rfl
theorem rp_bl {b : Bool} (h : Rp K H v (.bl b)) : v = .bl b := by
  have h' : Dp K H v (Dt.bl b).d := h
  rw [Dt.d] at h'
  cases h'; rfl
theorem rp_int {i : Int} (h : Rp K H v (.int i)) : v = .int i := by
  have h' : Dp K H v (Dt.int i).d := h
  rw [Dt.d] at h'
  cases h'; rfl
theorem rp_str {s : Str} (h : Rp K H v (.str s)) : v = .str s := by
  have h' : Dp K H v (Dt.str s).d := h
  rw [Dt.d] at h'
  cases h'; rfl
theorem rp_tup (h : Rp K H v (.tup xs)) : ∃ a vs, v = .ref a ∧ SqT K H a vs ∧ RpL K H vs xs := by
  have h' : Dp K H v (.tuple (Dt.ds xs)) := by
    have q : Dp K H v (Dt.tup xs).d := h
    rw [Dt.d] at q; exact q
  cases h' with
  | tup a b => exact ⟨_, _, rfl, a, b⟩
theorem mk_non : Rp K H .non .non := by show Dp K H _ _; rw [Dt.d]; exact .non
theorem mk_bl {b : Bool} : Rp K H (.bl b) (.bl b) := by show Dp K H _ _; rw [Dt.d]; exact .bl b
theorem mk_int {i : Int} : Rp K H (.int i) (.int i) := by show Dp K H _ _; rw [Dt.d]; exact .int i
theorem mk_str {s : Str} : Rp K H (.str s) (.str s) := by show Dp K H _ _; rw [Dt.d]; exact .str s
theorem mk_tup {a : Addr} (h : SqT K H a vs) (r : RpL K H vs xs) : Rp K H (.ref a) (.tup xs) := by show Dp K H _ _; rw [Dt.d]; exact .tup h r
theorem rpl_nil : RpL K H [] [] := by show DpAll K H _ _; rw [Dt.ds]; exact .nil
theorem rpl_cons (h : Rp K H v x) (r : RpL K H vs xs) : RpL K H (v :: vs) (x :: xs) := by show DpAll K H _ _; rw [Dt.ds]; exact .cons h r
theorem rpl_inv (h : RpL K H vs (x :: xs)) : ∃ v r, vs = v :: r ∧ Rp K H v x ∧ RpL K H r xs := by
  have h' : DpAll K H vs (Dt.ds (x :: xs)) := h
  rw [Dt.ds] at h'
  cases h' with
  | cons a b => exact ⟨_, _, rfl, a, b⟩
theorem rpl_inv0 (h : RpL K H vs []) : vs = [] := by
  have h' : DpAll K H vs (Dt.ds []) := h
  rw [Dt.ds] at h'
  cases h'; rfl
theorem RpL.length : ∀ {xs : List Dt} {vs : List V}, RpL K H vs xs → vs.length = xs.length
  | [], _, h => by rw [rpl_inv0 h]; rfl
  | x :: xs, vs, h => by
    obtain ⟨v, r, rfl, _, h2⟩ := rpl_inv h
    rw [List.length_cons, List.length_cons, RpL.length h2]
theorem RpL.get : ∀ {xs : List Dt} {vs : List V} {i : Nat} {x : Dt}, RpL K H vs xs → xs[i]? = some x → ∃ v, vs[i]? = some v ∧ Rp K H v x
  | [], _, _, _, _, e => by simp at e
  | y :: ys, vs, 0, x, h, e => by
    obtain ⟨v, r, rfl, h1, _⟩ := rpl_inv h
    simp at e; subst e
    exact ⟨v, rfl, h1⟩
  | y :: ys, vs, i + 1, x, h, e => by
    obtain ⟨v, r, rfl, _, h2⟩ := rpl_inv h
    obtain ⟨w, a, b⟩ := RpL.get (i := i) h2 (by simpa using e)
    exact ⟨w, by simpa using a, b⟩
theorem RpL.back : ∀ {xs : List Dt} {vs : List V} {i : Nat} {v : V}, RpL K H vs xs → vs[i]? = some v → ∃ x, xs[i]? = some x ∧ Rp K H v x := fun {xs vs i v} h e => by
  have hl := h.length
  have hi : i < vs.length := (List.getElem?_eq_some_iff.mp e).1
  have hx : xs[i]? = some (xs[i]'(by omega)) := List.getElem?_eq_getElem (by omega)
  obtain ⟨w, a, b⟩ := h.get hx
  rw [e] at a; cases a
  exact ⟨_, hx, b⟩
theorem RpL.mk : ∀ {xs : List Dt} {vs : List V}, vs.length = xs.length → (∀ (i : Nat) (x : Dt) (v : V), xs[i]? = some x → vs[i]? = some v → Rp K H v x) → RpL K H vs xs
  | [], [], _, _ => rpl_nil
  | [], _ :: _, h, _ => by simp at h
  | _ :: _, [], h, _ => by simp at h
  | x :: xs, v :: vs, h, k => rpl_cons (k 0 x v rfl rfl) (RpL.mk (by simpa using h) fun i y w a b => k (i + 1) y w (by simpa using a) (by simpa using b))
theorem RpL.append : ∀ {xs : List Dt} {vs : List V}, RpL K H vs xs → RpL K H us ys → RpL K H (vs ++ us) (xs ++ ys)
  | [], vs, h, k => by rw [rpl_inv0 h]; exact k
  | x :: xs, vs, h, k => by
    obtain ⟨v, r, rfl, h1, h2⟩ := rpl_inv h
    exact rpl_cons h1 (RpL.append h2 k)
theorem RpL.snoc (h : RpL K H vs xs) (r : Rp K H v x) : RpL K H (vs ++ [v]) (xs ++ [x]) := h.append (rpl_cons r rpl_nil)
theorem RpL.take (n : Nat) (h : RpL K H vs xs) : RpL K H (vs.take n) (xs.take n) := by
  refine RpL.mk (by rw [List.length_take, List.length_take, h.length]) fun i x v a b => ?_
  rw [List.getElem?_take] at a b
  split at a
  · rename_i hi
    rw [if_pos hi] at b
    obtain ⟨w, e, r⟩ := h.get a
    rw [e] at b; cases b; exact r
  · cases a
theorem RpL.drop (n : Nat) (h : RpL K H vs xs) : RpL K H (vs.drop n) (xs.drop n) := by
  refine RpL.mk (by rw [List.length_drop, List.length_drop, h.length]) fun i x v a b => ?_
  rw [List.getElem?_drop] at a b
  obtain ⟨w, e, r⟩ := h.get a
  rw [e] at b; cases b; exact r
theorem RpL.set (n : Nat) (h : RpL K H vs xs) (r : Rp K H v x) : RpL K H (vs.set n v) (xs.set n x) := by
  have hl := h.length
  refine RpL.mk (by simp [hl]) fun i y w a b => ?_
  by_cases e : n = i
  · subst e
    by_cases hn : n < xs.length
    · rw [List.getElem?_set_self hn] at a
      rw [List.getElem?_set_self (by omega)] at b
      cases a; cases b; exact r
    · rw [List.getElem?_eq_none (by simp; omega)] at a; cases a
  · rw [List.getElem?_set_ne e] at a b
    obtain ⟨w', e', r'⟩ := h.get a
    rw [e'] at b; cases b; exact r'
theorem RpL.eraseIdx (n : Nat) (h : RpL K H vs xs) : RpL K H (vs.eraseIdx n) (xs.eraseIdx n) := by
  have e1 : vs.eraseIdx n = vs.take n ++ vs.drop (n + 1) := List.eraseIdx_eq_take_drop_succ ..
  have e2 : xs.eraseIdx n = xs.take n ++ xs.drop (n + 1) := List.eraseIdx_eq_take_drop_succ ..
  rw [e1, e2]
  exact (h.take n).append (h.drop (n + 1))
theorem RpL.replicate (n : Nat) (r : Rp K H v x) : RpL K H (List.replicate n v) (List.replicate n x) := by
  induction n with
  | zero => exact rpl_nil
  | succ n ih => rw [List.replicate_succ, List.replicate_succ]; exact rpl_cons r ih
theorem RpL.flatten_rep (n : Nat) (r : RpL K H vs xs) : RpL K H (List.replicate n vs).flatten (List.replicate n xs).flatten := by
  induction n with
  | zero => exact rpl_nil
  | succ n ih => rw [List.replicate_succ, List.replicate_succ, List.flatten_cons, List.flatten_cons]; exact r.append ih
theorem rpl_ints : ∀ {ns : List Int} {vs : List V}, RpL K H vs (ns.map Dt.int) → vs = ns.map V.int
  | [], _, h => rpl_inv0 h
  | n :: ns, vs, h => by
    obtain ⟨v, r, rfl, h1, h2⟩ := rpl_inv h
    rw [rp_int h1, rpl_ints h2]; rfl
theorem mk_ints : ∀ {ns : List Int}, RpL K H (ns.map V.int) (ns.map Dt.int)
  | [] => rpl_nil
  | n :: ns => rpl_cons mk_int mk_ints
theorem rpl_bls : ∀ {ns : List Bool} {vs : List V}, RpL K H vs (ns.map Dt.bl) → vs = ns.map V.bl
  | [], _, h => rpl_inv0 h
  | n :: ns, vs, h => by
    obtain ⟨v, r, rfl, h1, h2⟩ := rpl_inv h
    rw [rp_bl h1, rpl_bls h2]; rfl
theorem RpL.at {i : Int} (h : RpL K H vs xs) (e : atI xs i = some x) : ∃ v, atI vs i = some v ∧ Rp K H v x := by
  unfold atI at e ⊢
  rw [h.length]
  cases q : ixN xs.length i with
  | none => rw [q] at e; cases e
  | some j =>
    rw [q] at e
    exact h.get e
end
end TL

set_option autoImplicit true
set_option maxHeartbeats 200000
set_option maxRecDepth 512
set_option Elab.async false
set_option linter.all false
set_option maxRecDepth 100000
set_option maxHeartbeats 4000000
/-! the symbolic state and forward rules -/
namespace TL
open PySem PySem.Spec PyProof.Rows L2

/-- a symbolic value: data, or a V as it is -/
inductive RV where
  | im (x : Dt) | ad (v : V) | tu (vs : List V)
def VOk (K : PySem.W.Frag) (H : Hp) : RV → V → Prop
  | .im x, v => Rp K H v x
  | .ad u, v => v = u
  | .tu us, v => ∃ p, v = .ref p ∧ SqT K H p us
abbrev Mem := List (Addr × List Dt)
abbrev Fp := Hp → Prop
/-- where a def was entered: its heap, what of it may change, the lists it was handed -/
structure Cn where
  K : PySem.W.Frag
  H0 : Hp
  B : Addr → Prop
  R : Mem
structure HE (c : Cn) (F : Fp) (M : Mem) (H : Hp) : Prop where
  st : ∀ a o, c.H0 a = some o → ¬ c.B a → H a = some o
  bm : ∀ a, c.B a → Mut (c.H0 a) ∧ Mut (H a)
  fr : ∀ H', (∀ a, c.H0 a ≠ none → H' a = H a) → F H'
  mm : ∀ p ∈ M, c.H0 p.1 = none ∧ ∃ vs, H p.1 = some (.lst vs) ∧ RpL c.K H vs p.2
  nd : (M.map (·.1)).Nodup
  rd : ∀ p ∈ c.R, ¬ c.B p.1 ∧ ∃ vs, SqL c.K c.H0 p.1 vs ∧ RpL c.K c.H0 vs p.2
def Stay (c : Cn) (H H1 : Hp) : Prop := ∀ a o, H a = some o → ¬ c.B a → H1 a = some o
def Slots (K : PySem.W.Frag) (H : Hp) (δ : List (Option RV)) (σ : L2.St) : Prop := σ.length = δ.length ∧ ∀ (i : Nat) (r : RV), δ[i]? = some (some r) → ∃ v, σ[i]? = some (some v) ∧ VOk K H r v
section
variable {c : Cn} {F G : Fp} {M M' : Mem} {H H1 H2 : Hp} {δ : List (Option RV)} {σ : L2.St} {r : RV} {v : V} {p : Addr} {o : HO} {K : PySem.W.Frag}
theorem Stay.refl : Stay c H H := fun _ _ h _ => h
theorem Stay.trans (a : Stay c H H1) (b : Stay c H1 H2) : Stay c H H2 := fun x o h n => b x o (a x o h n) n
theorem HE.tp (h : HE c F M H) (s : Stay c H H1) : Tp c.K H H1 := by
  intro a xs q
  rcases q with (q | ⟨u, q⟩) | q
  · refine .inl (.inl (s _ _ q fun b => ?_))
    have m := (h.bm a b).2
    rw [q] at m; exact m
  · refine .inl (.inr ⟨u, s _ _ q fun b => ?_⟩)
    have m := (h.bm a b).2
    rw [q] at m; exact m
  · exact .inr q
theorem HE.n0 (h : HE c F M H) {a : Addr} (b : c.B a) : c.H0 a ≠ none := fun e => by
  have m := (h.bm a b).1
  rw [e] at m; exact m
theorem HE.tp0 (h : HE c F M H) : Tp c.K c.H0 H := by
  intro a xs q
  rcases q with (q | ⟨u, q⟩) | q
  · refine .inl (.inl (h.st _ _ q fun b => ?_))
    have m := (h.bm a b).1
    rw [q] at m; exact m
  · refine .inl (.inr ⟨u, h.st _ _ q fun b => ?_⟩)
    have m := (h.bm a b).1
    rw [q] at m; exact m
  · exact .inr q
theorem VOk.tp (t : Tp K H H1) (h : VOk K H r v) : VOk K H1 r v := by
  cases r with
  | im x => exact Rp.tp t x v h
  | ad u => exact h
  | tu us =>
    obtain ⟨p, e, q⟩ := h
    exact ⟨p, e, t _ _ q⟩
theorem Slots.tp (t : Tp K H H1) (h : Slots K H δ σ) : Slots K H1 δ σ := ⟨h.1, fun i r e => by
  obtain ⟨v, a, b⟩ := h.2 i r e
  exact ⟨v, a, b.tp t⟩⟩
theorem Slots.set (h : Slots K H δ σ) (i : Nat) (q : VOk K H r v) : Slots K H (δ.set i (some r)) (σ.set i (some v)) := by
  refine ⟨by simp [h.1], fun j s e => ?_⟩
  by_cases ij : i = j
  · subst ij
    have hi : i < δ.length := by
      have := (List.getElem?_eq_some_iff.mp e).1
      simpa using this
    rw [List.getElem?_set_self hi] at e
    cases e
    exact ⟨v, List.getElem?_set_self (by rw [h.1]; exact hi), q⟩
  · rw [List.getElem?_set_ne ij] at e
    obtain ⟨w, a, b⟩ := h.2 j s e
    exact ⟨w, by rw [List.getElem?_set_ne ij]; exact a, b⟩
theorem HE.free (h : HE c F M H) (n : H p = none) : c.H0 p = none := by
  cases q : c.H0 p with
  | none => rfl
  | some o =>
    by_cases b : c.B p
    · have m := (h.bm p b).2
      rw [n] at m; exact m.elim
    · rw [h.st _ _ q b] at n; cases n
theorem Stay.new (n : H p = none) : Stay c H (upd H p o) := fun a u e _ => by rw [upd_ne (ne_of_none e n)]; exact e
/-- a new object -/
theorem HE.alloc (h : HE c F M H) (n : H p = none) : HE c F M (upd H p o) := by
  have n0 := h.free n
  have t : Tp c.K H (upd H p o) := h.tp (Stay.new n)
  refine ⟨fun a u e b => Stay.new (c := c) n a u (h.st a u e b) b, fun a b => ⟨(h.bm a b).1, ?_⟩, fun H' k => h.fr H' fun a ha => ?_, fun q hq => ?_, h.nd, h.rd⟩
  · rw [upd_ne (by intro e; subst e; exact h.n0 b n0)]
    exact (h.bm a b).2
  · rw [k a ha, upd_ne (by intro e; subst e; exact ha n0)]
  · obtain ⟨a, vs, b, d⟩ := h.mm q hq
    refine ⟨a, vs, ?_, RpL.tp t _ _ d⟩
    rw [upd_ne (ne_of_none b n)]; exact b
/-- a new list of one's own -/
theorem HE.allocL (h : HE c F M H) (n : H p = none) {vs : List V} {ds : List Dt} (r : RpL c.K H vs ds) : HE c F ((p, ds) :: M) (upd H p (.lst vs)) := by
  have h1 : HE c F M (upd H p (.lst vs)) := h.alloc n
  refine ⟨h1.st, h1.bm, h1.fr, fun q hq => ?_, ?_, h1.rd⟩
  · rcases List.mem_cons.mp hq with rfl | hq
    · exact ⟨h.free n, vs, upd_same, RpL.tp (h.tp (Stay.new n)) _ _ r⟩
    · exact h1.mm q hq
  · show (p :: M.map (·.1)).Nodup
    refine List.nodup_cons.mpr ⟨fun hm => ?_, h.nd⟩
    obtain ⟨q, hq, rfl⟩ := List.mem_map.mp hm
    obtain ⟨_, _, e, _⟩ := h.mm q hq
    rw [n] at e; cases e
theorem HE.adopt (h : HE c F M H) (n : ∀ q ∈ M, q.1 ≠ p) (n0 : c.H0 p = none) {vs : List V} {ds : List Dt} (e : H p = some (.lst vs)) (r : RpL c.K H vs ds) : HE c F ((p, ds) :: M) H := by
  refine ⟨h.st, h.bm, h.fr, fun q hq => ?_, ?_, h.rd⟩
  · rcases List.mem_cons.mp hq with rfl | hq
    · exact ⟨n0, vs, e, r⟩
    · exact h.mm q hq
  · show (p :: M.map (·.1)).Nodup
    refine List.nodup_cons.mpr ⟨fun hm => ?_, h.nd⟩
    obtain ⟨q, hq, e⟩ := List.mem_map.mp hm
    exact n q hq e
theorem HE.weak (h : HE c F M H) (s : M'.Sublist M) : HE c F M' H :=
  ⟨h.st, h.bm, h.fr, fun q hq => h.mm q (s.subset hq), h.nd.sublist (s.map _), h.rd⟩
/-- an own list is changed -/
theorem HE.write (h : HE c F M H) {k : Nat} {ds ds' : List Dt} {vs' : List V} (e : M[k]? = some (p, ds)) (r : RpL c.K H vs' ds') : HE c F (M.set k (p, ds')) (upd H p (.lst vs')) ∧ Stay c H H ∧ Tp c.K H (upd H p (.lst vs')) := by
  have hm : (p, ds) ∈ M := List.mem_of_getElem? e
  obtain ⟨n0, vs, hp, _⟩ := h.mm _ hm
  have t : Tp c.K H (upd H p (.lst vs')) := by
    intro a xs q
    rcases q with (q | ⟨u, q⟩) | q
    · exact .inl (.inl (by rw [upd_ne (ne_of q hp (by intro z; cases z))]; exact q))
    · exact .inl (.inr ⟨u, by rw [upd_ne (ne_of q hp (by intro z; cases z))]; exact q⟩)
    · exact .inr q
  have hk : k < M.length := (List.getElem?_eq_some_iff.mp e).1
  have e1 : (M.set k (p, ds')).map (·.1) = M.map (·.1) := by
    rw [List.map_set]
    refine List.ext_getElem? fun i => ?_
    by_cases ik : k = i
    · subst ik
      rw [List.getElem?_set_self (by simpa using hk), List.getElem?_map, e]; rfl
    · rw [List.getElem?_set_ne ik]
  refine ⟨⟨fun a o z b => ?_, fun a b => ⟨(h.bm a b).1, ?_⟩, fun H' z => h.fr H' fun a ha => ?_, fun q hq => ?_, by rw [e1]; exact h.nd, h.rd⟩, Stay.refl, t⟩
  · rw [upd_ne (by intro y; subst y; rw [n0] at z; cases z)]; exact h.st a o z b
  · rw [upd_ne (by intro y; subst y; exact h.n0 b n0)]; exact (h.bm a b).2
  · rw [z a ha, upd_ne (by intro y; subst y; exact ha n0)]
  · obtain ⟨i, hi⟩ := List.getElem?_of_mem hq
    by_cases ik : k = i
    · subst ik
      rw [List.getElem?_set_self hk] at hi
      cases hi
      exact ⟨n0, vs', upd_same, RpL.tp t _ _ r⟩
    · rw [List.getElem?_set_ne ik] at hi
      obtain ⟨a, us, b, d⟩ := h.mm q (List.mem_of_getElem? hi)
      refine ⟨a, us, ?_, RpL.tp t _ _ d⟩
      have ne : q.1 ≠ p := by
        intro y
        have h1 : (M.map (·.1))[i]? = some p := by rw [List.getElem?_map, hi]; exact congrArg some y
        have h2 : (M.map (·.1))[k]? = some p := by rw [List.getElem?_map, e]; rfl
        have hi1 : i < (M.map (·.1)).length := (List.getElem?_eq_some_iff.mp h1).1
        exact ik ((List.getElem?_inj hi1 h.nd).mp (h1.trans h2.symm)).symm
      rw [upd_ne ne]; exact b
end

/-! ### forward rules: expressions -/
abbrev PR := RV → Fp → Mem → Prop
def We (c : Cn) (te : TE) (F : Fp) (δ : List (Option RV)) (M : Mem) (Ψ : PR) : Prop := ∀ σ H (Q : VK), HE c F M H → Slots c.K H δ σ →
  (∀ r F' M' v H1, Ψ r F' M' → HE c F' M' H1 → Stay c H H1 → VOk c.K H1 r v → Q v H1) → te σ H Q
def Wt (c : Cn) (tt : TT) (F : Fp) (δ : List (Option RV)) (M : Mem) (Φ : Bool → Fp → Mem → Prop) : Prop := ∀ σ H (Q : Bool → Hp → Prop), HE c F M H → Slots c.K H δ σ →
  (∀ b F' M' H1, Φ b F' M' → HE c F' M' H1 → Stay c H H1 → Q b H1) → tt σ H Q
def Wa (c : Cn) (ta : TA) (F : Fp) (δ : List (Option RV)) (M : Mem) (Φ : List RV → Fp → Mem → Prop) : Prop := ∀ σ H (Q : List V → Hp → Prop), HE c F M H → Slots c.K H δ σ →
  (∀ rs F' M' vs H1, Φ rs F' M' → HE c F' M' H1 → Stay c H H1 → Paired (VOk c.K H1) rs vs → Q vs H1) → ta σ H Q
/-- by values -/
def Rr (c : Cn) (r : R2) (x y : RV) (F : Fp) (M : Mem) (Ψ : PR) : Prop := ∀ H (Q : VK) v u, HE c F M H → VOk c.K H x v → VOk c.K H y u →
  (∀ s F' M' z H1, Ψ s F' M' → HE c F' M' H1 → Stay c H H1 → VOk c.K H1 s z → Q z H1) → r v u H Q
def Rc (c : Cn) (r : List V → Hp → VK → Prop) (xs : List RV) (F : Fp) (M : Mem) (Ψ : PR) : Prop := ∀ H (Q : VK) vs, HE c F M H → Paired (VOk c.K H) xs vs →
  (∀ s F' M' z H1, Ψ s F' M' → HE c F' M' H1 → Stay c H H1 → VOk c.K H1 s z → Q z H1) → r vs H Q
def Wo (c : Cn) (to : TO) (F : Fp) (δ : List (Option RV)) (M : Mem) (Φ : Option Int → Fp → Mem → Prop) : Prop := ∀ σ H (Q : Option Int → Hp → Prop), HE c F M H → Slots c.K H δ σ →
  (∀ o F' M' H1, Φ o F' M' → HE c F' M' H1 → Stay c H H1 → Q o H1) → to σ H Q
/-- the list at a is ds, whatever else -/
def Lk (c : Cn) (F : Fp) (M : Mem) (a : Addr) (ds : List Dt) : Prop := ∀ H, HE c F M H → ∃ vs, SqL c.K H a vs ∧ RpL c.K H vs ds
section
variable {c : Cn} {F G : Fp} {M M' : Mem} {δ : List (Option RV)} {Ψ Ψ' : PR} {te ta tb : TE} {tt t u : TT} {r : RV} {a : Addr} {ds es : List Dt}
theorem lkM (h : (a, ds) ∈ M) : Lk c F M a ds := fun H e => by
  obtain ⟨_, vs, b, d⟩ := e.mm _ h
  exact ⟨vs, .inl (.inl b), d⟩
theorem lkR (h : (a, ds) ∈ c.R) : Lk c F M a ds := fun H e => by
  obtain ⟨nb, vs, b, d⟩ := e.rd _ h
  have t : Tp c.K c.H0 H := e.tp0
  refine ⟨vs, ?_, RpL.tp t _ _ d⟩
  rcases b with (q | ⟨u, q⟩) | q
  · exact .inl (.inl (e.st _ _ q nb))
  · exact .inl (.inr ⟨u, e.st _ _ q nb⟩)
  · exact .inr q
theorem We.mono (h : We c te F δ M Ψ) (k : ∀ r F' M', Ψ r F' M' → Ψ' r F' M') : We c te F δ M Ψ' := fun σ H Q e s q => h σ H Q e s fun r F' M' v H1 p => q r F' M' v H1 (k _ _ _ p)
theorem we_var {i : Nat} (h : δ[i]? = some (some r)) (k : Ψ r F M) : We c (tVar i) F δ M Ψ := fun σ H Q e s q => by
  obtain ⟨v, a, b⟩ := s.2 i r h
  exact ⟨v, a, q r F M v H k e Stay.refl b⟩
theorem we_int {i : Int} (k : Ψ (.im (.int i)) F M) : We c (tC (.int i)) F δ M Ψ := fun σ H Q e s q => q _ _ _ _ _ k e Stay.refl mk_int
theorem we_bl {b : Bool} (k : Ψ (.im (.bl b)) F M) : We c (tC (.bl b)) F δ M Ψ := fun σ H Q e s q => q _ _ _ _ _ k e Stay.refl mk_bl
theorem we_non (k : Ψ (.im .non) F M) : We c (tC .non) F δ M Ψ := fun σ H Q e s q => q _ _ _ _ _ k e Stay.refl mk_non
theorem we_str {x : Str} (k : Ψ (.im (.str x)) F M) : We c (tC (.str x)) F δ M Ψ := fun σ H Q e s q => q _ _ _ _ _ k e Stay.refl mk_str
theorem we_ty {n : String} (k : Ψ (.ad (.ty n)) F M) : We c (tC (.ty n)) F δ M Ψ := fun σ H Q e s q => q _ _ _ _ _ k e Stay.refl rfl
theorem we_op {r : R2} (h : We c ta F δ M fun x F1 M1 => We c tb F1 δ M1 fun y F2 M2 => Rr c r x y F2 M2 Ψ) : We c (tOp r ta tb) F δ M Ψ := fun σ H Q e s q =>
  h σ H _ e s fun x F1 M1 v H1 p1 e1 s1 v1 => p1 σ H1 _ e1 (s.tp (e.tp s1)) fun y F2 M2 u H2 p2 e2 s2 v2 =>
    p2 H2 Q v u e2 (v1.tp (e1.tp s2)) v2 fun z F3 M3 w H3 p3 e3 s3 v3 => q z F3 M3 w H3 p3 e3 ((s1.trans s2).trans s3) v3
theorem we_un {r : V → Hp → VK → Prop} (h : We c ta F δ M fun x F1 M1 => Rc c (fun vs H Q => ∃ v, vs = [v] ∧ r v H Q) [x] F1 M1 Ψ) : We c (tUn r ta) F δ M Ψ := fun σ H Q e s q =>
  h σ H _ e s fun x F1 M1 v H1 p1 e1 s1 v1 => by
    obtain ⟨w, e', k⟩ := p1 H1 Q [v] e1 (.cons v1 .nil) fun z F3 M3 w H3 p3 e3 s3 v3 => q z F3 M3 w H3 p3 e3 (s1.trans s3) v3
    cases e'; exact k
theorem we_neg {i : Int} (k : Ψ (.im (.int (-i))) F M) : Rc c (fun vs H Q => ∃ v, vs = [v] ∧ (rU fun i => .int (-i)) v H Q) [.im (.int i)] F M Ψ := fun H Q vs e p q => by
  cases p with
  | cons a b =>
    cases b
    cases rp_int a
    exact ⟨_, rfl, i, rfl, q _ _ _ _ _ k e Stay.refl mk_int⟩
theorem wa_nil {Φ : List RV → Fp → Mem → Prop} (k : Φ [] F M) : Wa c tNil F δ M Φ := fun σ H Q e s q => q [] F M [] H k e Stay.refl .nil
theorem wa_cons {tr : TA} {Φ : List RV → Fp → Mem → Prop} (h : We c ta F δ M fun x F1 M1 => Wa c tr F1 δ M1 fun xs F2 M2 => Φ (x :: xs) F2 M2) : Wa c (tCons ta tr) F δ M Φ := fun σ H Q e s q =>
  h σ H _ e s fun x F1 M1 v H1 p1 e1 s1 v1 => p1 σ H1 _ e1 (s.tp (e.tp s1)) fun xs F2 M2 vs H2 p2 e2 s2 v2 => q (x :: xs) F2 M2 (v :: vs) H2 p2 e2 (s1.trans s2) (.cons (v1.tp (e1.tp s2)) v2)
theorem we_cb {r : List V → Hp → VK → Prop} {tr : TA} (h : Wa c tr F δ M fun xs F1 M1 => Rc c r xs F1 M1 Ψ) : We c (tCB r tr) F δ M Ψ := fun σ H Q e s q =>
  h σ H _ e s fun xs F1 M1 vs H1 p1 e1 s1 v1 => p1 H1 Q vs e1 v1 fun z F3 M3 w H3 p3 e3 s3 v3 => q z F3 M3 w H3 p3 e3 (s1.trans s3) v3
/-- displays -/
theorem paired_rp : ∀ {rs : List RV} {vs : List V} {xs : List Dt} {K : PySem.W.Frag} {H : Hp}, Paired (VOk K H) rs vs → rs = xs.map RV.im → RpL K H vs xs
  | _, _, [], _, _, .nil, _ => rpl_nil
  | _, _, _ :: _, _, _, .nil, e => by cases e
  | _, _, [], _, _, .cons _ _, e => by cases e
  | _, _, x :: xs, K, H, .cons a b, e => by
    rw [List.map_cons] at e
    injection e with e1 e2
    subst e1
    exact rpl_cons a (paired_rp b e2)
theorem we_tup {tr : TA} (h : Wa c tr F δ M fun rs F1 M1 => ∃ xs, rs = xs.map RV.im ∧ xs.length ≤ 100000 ∧ Ψ (.im (.tup xs)) F1 M1) : We c (tTup tr) F δ M Ψ := fun σ H Q e s q =>
  h σ H _ e s fun rs F1 M1 vs H1 p1 e1 s1 v1 => by
    obtain ⟨xs, rfl, hl, k⟩ := p1
    have r := paired_rp v1 rfl
    refine ⟨by rw [r.length]; exact Nat.le_trans hl (by decide), fun p hp => ?_⟩
    exact q _ F1 M1 _ _ k (e1.alloc hp) (s1.trans (Stay.new hp)) (mk_tup (.inl (.inl upd_same)) (RpL.tp (e1.tp (Stay.new hp)) _ _ r))
theorem we_lst {tr : TA} (h : Wa c tr F δ M fun rs F1 M1 => ∃ xs, rs = xs.map RV.im ∧ xs.length ≤ 100000 ∧ ∀ a, Ψ (.ad (.ref a)) F1 ((a, xs) :: M1)) : We c (tLst tr) F δ M Ψ := fun σ H Q e s q =>
  h σ H _ e s fun rs F1 M1 vs H1 p1 e1 s1 v1 => by
    obtain ⟨xs, rfl, hl, k⟩ := p1
    have r := paired_rp v1 rfl
    refine ⟨by rw [r.length]; exact Nat.le_trans hl (by decide), fun p hp => ?_⟩
    exact q _ F1 _ _ _ (k p) (e1.allocL hp r) (s1.trans (Stay.new hp)) rfl
/-! tests -/
theorem wt_test {Φ : Bool → Fp → Mem → Prop} (h : We c te F δ M fun r F1 M1 => ∃ b, r = .im (.bl b) ∧ Φ b F1 M1) : Wt c (tTest te) F δ M Φ := fun σ H Q e s q =>
  h σ H _ e s fun r F1 M1 v H1 p1 e1 s1 v1 => by
    obtain ⟨b, rfl, k⟩ := p1
    exact ⟨b, rp_bl v1, q b F1 M1 H1 k e1 s1⟩
theorem wt_B {Φ : Bool → Fp → Mem → Prop} (h : We c te F δ M fun r F1 M1 => ∃ b, r = .im (.bl b) ∧ Φ b F1 M1) : Wt c (tB te) F δ M Φ := fun σ H Q e s q =>
  h σ H _ e s fun r F1 M1 v H1 p1 e1 s1 v1 => by
    obtain ⟨b, rfl, k⟩ := p1
    exact ⟨b, rp_bl v1, q b F1 M1 H1 k e1 s1⟩
theorem wt_yes {Φ : Bool → Fp → Mem → Prop} (h : Φ true F M) : Wt c tYes F δ M Φ := fun σ H Q e s q => q true F M H h e Stay.refl
theorem wt_not {Φ : Bool → Fp → Mem → Prop} (h : Wt c tt F δ M fun b F1 M1 => Φ (!b) F1 M1) : Wt c (tNot tt) F δ M Φ := fun σ H Q e s q =>
  h σ H _ e s fun b F1 M1 H1 p1 e1 s1 => q (!b) F1 M1 H1 p1 e1 s1
theorem wt_and {Φ : Bool → Fp → Mem → Prop} (h : Wt c t F δ M fun b F1 M1 => (b = true → Wt c u F1 δ M1 Φ) ∧ (b = false → Φ false F1 M1)) : Wt c (tAnd t u) F δ M Φ := fun σ H Q e s q =>
  h σ H _ e s fun b F1 M1 H1 p1 e1 s1 => by
    cases b with
    | true => exact p1.1 rfl σ H1 _ e1 (s.tp (e.tp s1)) fun b F2 M2 H2 p2 e2 s2 => q b F2 M2 H2 p2 e2 (s1.trans s2)
    | false => exact q false F1 M1 H1 (p1.2 rfl) e1 s1
theorem wt_or {Φ : Bool → Fp → Mem → Prop} (h : Wt c t F δ M fun b F1 M1 => (b = true → Φ true F1 M1) ∧ (b = false → Wt c u F1 δ M1 Φ)) : Wt c (tOr t u) F δ M Φ := fun σ H Q e s q =>
  h σ H _ e s fun b F1 M1 H1 p1 e1 s1 => by
    cases b with
    | false => exact p1.2 rfl σ H1 _ e1 (s.tp (e.tp s1)) fun b F2 M2 H2 p2 e2 s2 => q b F2 M2 H2 p2 e2 (s1.trans s2)
    | true => exact q true F1 M1 H1 (p1.1 rfl) e1 s1
theorem we_andV (h : We c ta F δ M fun r F1 M1 => ∃ b, r = .im (.bl b) ∧ (b = true → We c tb F1 δ M1 Ψ) ∧ (b = false → Ψ (.im (.bl false)) F1 M1)) : We c (tAndV ta tb) F δ M Ψ := fun σ H Q e s q =>
  h σ H _ e s fun r F1 M1 v H1 p1 e1 s1 v1 => by
    obtain ⟨b, rfl, k1, k2⟩ := p1
    refine ⟨b, rp_bl v1, ?_⟩
    cases b with
    | true => exact k1 rfl σ H1 _ e1 (s.tp (e.tp s1)) fun b F2 M2 v2 H2 p2 e2 s2 => q b F2 M2 v2 H2 p2 e2 (s1.trans s2)
    | false => exact q _ F1 M1 _ H1 (k2 rfl) e1 s1 mk_bl
theorem we_orV (h : We c ta F δ M fun r F1 M1 => ∃ b, r = .im (.bl b) ∧ (b = true → Ψ (.im (.bl true)) F1 M1) ∧ (b = false → We c tb F1 δ M1 Ψ)) : We c (tOrV ta tb) F δ M Ψ := fun σ H Q e s q =>
  h σ H _ e s fun r F1 M1 v H1 p1 e1 s1 v1 => by
    obtain ⟨b, rfl, k1, k2⟩ := p1
    refine ⟨b, rp_bl v1, ?_⟩
    cases b with
    | false => exact k2 rfl σ H1 _ e1 (s.tp (e.tp s1)) fun b F2 M2 v2 H2 p2 e2 s2 => q b F2 M2 v2 H2 p2 e2 (s1.trans s2)
    | true => exact q _ F1 M1 _ H1 (k1 rfl) e1 s1 mk_bl
theorem we_chain {r r' : R2} {tc : TE} (h : We c ta F δ M fun x F1 M1 => We c tb F1 δ M1 fun y F2 M2 => Rr c r x y F2 M2 fun z F3 M3 => ∃ b, z = .im (.bl b) ∧ (b = true → We c tc F3 δ M3 fun w F4 M4 => Rr c r' y w F4 M4 Ψ) ∧ (b = false → Ψ (.im (.bl false)) F3 M3)) :
    We c (tChain r r' ta tb tc) F δ M Ψ := fun σ H Q e s q =>
  h σ H _ e s fun x F1 M1 v H1 p1 e1 s1 v1 => p1 σ H1 _ e1 (s.tp (e.tp s1)) fun y F2 M2 u H2 p2 e2 s2 v2 =>
    p2 H2 _ v u e2 (v1.tp (e1.tp s2)) v2 fun z F3 M3 w H3 p3 e3 s3 v3 => by
      obtain ⟨b, rfl, k1, k2⟩ := p3
      refine ⟨b, rp_bl v3, ?_⟩
      cases b with
      | true => exact k1 rfl σ H3 _ e3 (s.tp (e.tp ((s1.trans s2).trans s3))) fun b F4 M4 v4 H4 p4 e4 s4 v4' => p4 H4 Q _ _ e4 (v2.tp (e2.tp (s3.trans s4))) v4' fun z F5 M5 w5 H5 p5 e5 s5 v5 => q z F5 M5 w5 H5 p5 e5 ((((s1.trans s2).trans s3).trans s4).trans s5) v5
      | false => exact q _ F3 M3 _ H3 (k2 rfl) e3 ((s1.trans s2).trans s3) mk_bl
/-! parts of a slice -/
theorem wo_none {Φ : Option Int → Fp → Mem → Prop} (k : Φ none F M) : Wo c tNoPart F δ M Φ := fun σ H Q e s q => q none F M H k e Stay.refl
theorem wo_some {Φ : Option Int → Fp → Mem → Prop} (h : We c te F δ M fun r F1 M1 => ∃ i, r = .im (.int i) ∧ Φ (some i) F1 M1) : Wo c (tPart te) F δ M Φ := fun σ H Q e s q =>
  h σ H _ e s fun r F1 M1 v H1 p1 e1 s1 v1 => by
    obtain ⟨i, rfl, k⟩ := p1
    exact ⟨i, rp_int v1, q (some i) F1 M1 H1 k e1 s1⟩
def Rs (c : Cn) (r : V → Option Int → Option Int → Hp → VK → Prop) (x : RV) (lo hi : Option Int) (F : Fp) (M : Mem) (Ψ : PR) : Prop := ∀ H (Q : VK) v, HE c F M H → VOk c.K H x v →
  (∀ s F' M' z H1, Ψ s F' M' → HE c F' M' H1 → Stay c H H1 → VOk c.K H1 s z → Q z H1) → r v lo hi H Q
theorem we_sl {r : V → Option Int → Option Int → Hp → VK → Prop} {tl th : TO} (h : We c te F δ M fun x F1 M1 => Wo c tl F1 δ M1 fun lo F2 M2 => Wo c th F2 δ M2 fun hi F3 M3 => Rs c r x lo hi F3 M3 Ψ) : We c (tSl r te tl th) F δ M Ψ := fun σ H Q e s q =>
  h σ H _ e s fun x F1 M1 v H1 p1 e1 s1 v1 => p1 σ H1 _ e1 (s.tp (e.tp s1)) fun lo F2 M2 H2 p2 e2 s2 => p2 σ H2 _ e2 (s.tp (e.tp (s1.trans s2))) fun hi F3 M3 H3 p3 e3 s3 =>
    p3 H3 Q v e3 (v1.tp (e1.tp (s2.trans s3))) fun z F4 M4 w H4 p4 e4 s4 v4 => q z F4 M4 w H4 p4 e4 (((s1.trans s2).trans s3).trans s4) v4
end
end TL

set_option autoImplicit true
set_option maxHeartbeats 200000
set_option maxRecDepth 512
set_option Elab.async false
set_option linter.all false
set_option maxRecDepth 100000
set_option maxHeartbeats 4000000
/-! operators and built-ins over data -/
namespace TL
open PySem PySem.Spec PyProof.Rows L2

theorem op_or {X : Cx} {f : Value → Value → Sem Value} {r r' : R2} (a : OpR X f r) (b : OpR X f r') : OpR X f (fun x y H Q => r x y H Q ∨ r' x y H Q) := by
  intro pins s σ H x y v u Q I rx ry h
  rcases h with h | h
  · exact a pins s σ H x y v u Q I rx ry h
  · exact b pins s σ H x y v u Q I rx ry h
def rAddI : R2 := rI0 fun i j => .int (i + j)
def rAddS : R2 := fun x y H Q => ∃ i j, x = .str i ∧ y = .str j ∧ i.length + j.length ≤ sizeLine ∧ Q (.str (i ++ j)) H
def rAddU (K : PySem.W.Frag) : R2 := fun x y H Q => rAddI x y H Q ∨ rAddS x y H Q ∨ rCatA K x y H Q ∨ rCat x y H Q
theorem op_addU {X : Cx} : OpR X (binaryOp .Add) (rAddU X.K) := op_or op_add (op_or op_add_str (op_or op_catA op_cat))
def rSubI : R2 := rI0 fun i j => .int (i - j)
theorem op_subI {X : Cx} : OpR X (binaryOp .Sub) rSubI := op_sub
def rMulI : R2 := rI CMul fun i j => .int (i * j)
def rMulU (K : PySem.W.Frag) (rt : R2) : R2 := fun x y H Q => rMulI x y H Q ∨ rRep x y H Q ∨ rt x y H Q
theorem op_mulU {X : Cx} {rt : R2} (h : OpR X (binaryOp .Mult) rt) : OpR X (binaryOp .Mult) (rMulU X.K rt) := op_or op_mul (op_or op_rep h)
def rModI : R2 := rI (fun _ j => j ≠ 0) fun i j => .int (i.fmod j)
theorem op_modI {X : Cx} : OpR X (binaryOp .Mod) rModI := op_modN
def rDivI : R2 := rI CDivN fun i j => .int (i.fdiv j)
theorem op_divI {X : Cx} : OpR X (binaryOp .FloorDiv) rDivI := op_fdivN
def rPowI : R2 := rI CPow fun i j => .int (i ^ j.toNat)
theorem op_powI {X : Cx} : OpR X (binaryOp .Pow) rPowI := op_pow
def rLtI : R2 := rI0 fun i j => .bl (decide (i < j))
def rLeI : R2 := rI0 fun i j => .bl (decide (i ≤ j))
def rGtI : R2 := rI0 fun i j => .bl (decide (j < i))
def rGeI : R2 := rI0 fun i j => .bl (decide (j ≤ i))
theorem op_ltI {X : Cx} : OpR X (compareOp .Lt) rLtI := op_lt
theorem op_leI {X : Cx} : OpR X (compareOp .LtE) rLeI := op_le
theorem op_gtI {X : Cx} : OpR X (compareOp .Gt) rGtI := op_gt
theorem op_geI {X : Cx} : OpR X (compareOp .GtE) rGeI := op_ge
def rIsN' : R2 := fun x y H Q => y = .non ∧ Q (.bl (decide (x = .non))) H
def rNotN' : R2 := fun x y H Q => y = .non ∧ Q (.bl (!decide (x = .non))) H
theorem op_isNT {X : Cx} : OpR X (compareOp .Is) rIsN' := op_isN
theorem op_notNT {X : Cx} : OpR X (compareOp .IsNot) rNotN' := op_notN
def rIsNotB : R2 := fun x y H Q => ∃ a b, x = .bl a ∧ y = .bl b ∧ Q (.bl (!decide (a = b))) H
theorem op_isNotB {X : Cx} : OpR X (compareOp .IsNot) rIsNotB := op_isnot_bl
def rInU (K : PySem.W.Frag) : R2 := fun x y H Q => rIn K false x y H Q ∨ rInD K x y H Q
def rNotInU (K : PySem.W.Frag) : R2 := fun x y H Q => rIn K true x y H Q ∨ rNotInD K x y H Q
theorem op_inU {X : Cx} (hu : X.A.units + 65 < cLine) : OpR X (compareOp .In) (rInU X.K) := op_or op_in_seq (op_inD hu)
theorem op_notInU {X : Cx} (hu : X.A.units + 65 < cLine) : OpR X (compareOp .NotIn) (rNotInU X.K) := op_or op_notIn_seq (op_notInD hu)

section
variable {c : Cn} {F : Fp} {M : Mem} {δ : List (Option RV)} {Ψ : PR} {i j : Int} {a b : Addr} {xs ys ds es : List Dt} {x y d : Dt}
theorem rI_ {C : Int → Int → Prop} {g : Int → Int → V} {γ : Dt} (hg : ∀ H, Rp c.K H (g i j) γ) (hc : C i j) (k : Ψ (.im γ) F M) : Rr c (rI C g) (.im (.int i)) (.im (.int j)) F M Ψ := fun H Q v u e p q z =>
  ⟨i, j, rp_int p, rp_int q, hc, z _ _ _ _ _ k e Stay.refl (hg H)⟩
theorem rI0_ {g : Int → Int → V} {γ : Dt} (hg : ∀ H, Rp c.K H (g i j) γ) (k : Ψ (.im γ) F M) : Rr c (rI0 g) (.im (.int i)) (.im (.int j)) F M Ψ := fun H Q v u e p q z =>
  ⟨i, j, rp_int p, rp_int q, z _ _ _ _ _ k e Stay.refl (hg H)⟩
theorem rr_add (k : Ψ (.im (.int (i + j))) F M) : Rr c (rAddU c.K) (.im (.int i)) (.im (.int j)) F M Ψ := fun H Q v u e p q z =>
  .inl (rI0_ (fun _ => mk_int) k H Q v u e p q z)
theorem rr_adds {z w : Str} (hl : z.length + w.length ≤ 100000) (k : Ψ (.im (.str (z ++ w))) F M) : Rr c (rAddU c.K) (.im (.str z)) (.im (.str w)) F M Ψ := fun H Q v u e p q f =>
  .inr (.inl ⟨z, w, rp_str p, rp_str q, Nat.le_trans hl (by decide), f _ _ _ _ _ k e Stay.refl mk_str⟩)
theorem rr_addt (hl : xs.length + ys.length ≤ 100000) (k : Ψ (.im (.tup (xs ++ ys))) F M) : Rr c (rAddU c.K) (.im (.tup xs)) (.im (.tup ys)) F M Ψ := fun H Q v u e p q f => by
  obtain ⟨a, vs, rfl, h1, r1⟩ := rp_tup p
  obtain ⟨b, us, rfl, h2, r2⟩ := rp_tup q
  refine .inr (.inr (.inl ⟨a, b, vs, us, rfl, rfl, h1, h2, by rw [r1.length, r2.length]; exact Nat.le_trans hl (by decide), fun z => ?_, fun z z2 => ?_, fun z z2 n hn => ?_⟩))
  · subst z
    have : xs = [] := List.eq_nil_of_length_eq_zero (by rw [← r1.length]; rfl)
    subst this
    exact f _ _ _ _ _ k e Stay.refl q
  · subst z2
    have : ys = [] := List.eq_nil_of_length_eq_zero (by rw [← r2.length]; rfl)
    subst this
    refine f _ _ _ _ _ k e Stay.refl ?_
    rw [List.append_nil]; exact p
  · exact f _ _ _ _ _ k (e.alloc hn) (Stay.new hn) (mk_tup (.inl (.inl upd_same)) (RpL.tp (e.tp (Stay.new hn)) _ _ (r1.append r2)))
theorem rr_addl (h1 : (a, xs) ∈ M) (h2 : (b, ys) ∈ M) (hl : xs.length + ys.length ≤ 100000) (k : ∀ n, Ψ (.ad (.ref n)) F ((n, xs ++ ys) :: M)) : Rr c (rAddU c.K) (.ad (.ref a)) (.ad (.ref b)) F M Ψ := fun H Q v u e p q f => by
  obtain ⟨_, vs, e1, r1⟩ := e.mm _ h1
  obtain ⟨_, us, e2, r2⟩ := e.mm _ h2
  refine .inr (.inr (.inr ⟨a, b, vs, us, p, q, e1, e2, by rw [r1.length, r2.length]; exact Nat.le_trans hl (by decide), fun n hn => ?_⟩))
  exact f _ _ _ _ _ (k n) (e.allocL hn (r1.append r2)) (Stay.new hn) rfl
theorem rr_sub (k : Ψ (.im (.int (i - j))) F M) : Rr c rSubI (.im (.int i)) (.im (.int j)) F M Ψ := rI0_ (fun _ => mk_int) k
theorem rr_mul {rt : R2} (hc : CMul i j) (k : Ψ (.im (.int (i * j))) F M) : Rr c (rMulU c.K rt) (.im (.int i)) (.im (.int j)) F M Ψ := fun H Q v u e p q z =>
  .inl (rI_ (fun _ => mk_int) hc k H Q v u e p q z)
theorem rr_repl {rt : R2} {n : Nat} (h1 : (a, xs) ∈ M) (hj : j = (n : Int)) (hn : n ≤ 100000) (hl : xs.length * n ≤ 100000) (k : ∀ m, Ψ (.ad (.ref m)) F ((m, (List.replicate n xs).flatten) :: M)) : Rr c (rMulU c.K rt) (.ad (.ref a)) (.im (.int j)) F M Ψ := fun H Q v u e p q f => by
  obtain ⟨_, vs, e1, r1⟩ := e.mm _ h1
  subst hj
  refine .inr (.inl ⟨a, (n : Int), vs, p, rp_int q, e1, by omega, by omega, by rw [r1.length, Int.toNat_natCast]; exact Nat.le_trans hl (by decide), fun m hm => ?_⟩)
  rw [Int.toNat_natCast]
  exact f _ _ _ _ _ (k m) (e.allocL hm (r1.flatten_rep n)) (Stay.new hm) rfl
theorem rr_mod (hc : j ≠ 0) (k : Ψ (.im (.int (i.fmod j))) F M) : Rr c rModI (.im (.int i)) (.im (.int j)) F M Ψ := rI_ (fun _ => mk_int) hc k
theorem rr_div (hc : CDivN i j) (k : Ψ (.im (.int (i.fdiv j))) F M) : Rr c rDivI (.im (.int i)) (.im (.int j)) F M Ψ := rI_ (fun _ => mk_int) hc k
theorem rr_pow (hc : CPow i j) (k : Ψ (.im (.int (i ^ j.toNat))) F M) : Rr c rPowI (.im (.int i)) (.im (.int j)) F M Ψ := rI_ (fun _ => mk_int) hc k
theorem rr_lt (k : Ψ (.im (.bl (decide (i < j)))) F M) : Rr c rLtI (.im (.int i)) (.im (.int j)) F M Ψ := rI0_ (fun _ => mk_bl) k
theorem rr_le (k : Ψ (.im (.bl (decide (i ≤ j)))) F M) : Rr c rLeI (.im (.int i)) (.im (.int j)) F M Ψ := rI0_ (fun _ => mk_bl) k
theorem rr_gt (k : Ψ (.im (.bl (decide (j < i)))) F M) : Rr c rGtI (.im (.int i)) (.im (.int j)) F M Ψ := rI0_ (fun _ => mk_bl) k
theorem rr_ge (k : Ψ (.im (.bl (decide (j ≤ i)))) F M) : Rr c rGeI (.im (.int i)) (.im (.int j)) F M Ψ := rI0_ (fun _ => mk_bl) k
def Dt.isN : Dt → Bool
  | .non => true
  | _ => false
theorem isN_iff {K : PySem.W.Frag} {H : Hp} {v : V} (h : Rp K H v x) : decide (v = .non) = x.isN := by
  cases x with
  | non => rw [rp_non h]; rfl
  | bl b => rw [rp_bl h]; rfl
  | int b => rw [rp_int h]; rfl
  | str b => rw [rp_str h]; rfl
  | tup b => obtain ⟨a, vs, rfl, _⟩ := rp_tup h; rfl
theorem rr_isN (k : Ψ (.im (.bl x.isN)) F M) : Rr c rIsN' (.im x) (.im .non) F M Ψ := fun H Q v u e p q f => ⟨rp_non q, by rw [isN_iff p]; exact f _ _ _ _ _ k e Stay.refl mk_bl⟩
theorem rr_notN (k : Ψ (.im (.bl (!x.isN))) F M) : Rr c rNotN' (.im x) (.im .non) F M Ψ := fun H Q v u e p q f => ⟨rp_non q, by rw [isN_iff p]; exact f _ _ _ _ _ k e Stay.refl mk_bl⟩
theorem rr_isNotB {p q : Bool} (k : Ψ (.im (.bl (!decide (p = q)))) F M) : Rr c rIsNotB (.im (.bl p)) (.im (.bl q)) F M Ψ := fun H Q v u e a b f => ⟨p, q, rp_bl a, rp_bl b, f _ _ _ _ _ k e Stay.refl mk_bl⟩
/-! subscripts -/
theorem rr_ixt (h : atI xs i = some d) (k : Ψ (.im d) F M) : Rr c (rIx c.K) (.im (.tup xs)) (.im (.int i)) F M Ψ := fun H Q v u e p q f => by
  obtain ⟨a, vs, rfl, h1, r1⟩ := rp_tup p
  obtain ⟨w, hw, rw_⟩ := r1.at h
  exact .inr (.inl ⟨a, vs, i, w, rfl, rp_int q, h1, hw, f _ _ _ _ _ k e Stay.refl rw_⟩)
theorem rr_ixl (hL : Lk c F M a xs) (h : atI xs i = some d) (k : Ψ (.im d) F M) : Rr c (rIx c.K) (.ad (.ref a)) (.im (.int i)) F M Ψ := fun H Q v u e p q f => by
  obtain ⟨vs, h1, r1⟩ := hL H e
  obtain ⟨w, hw, rw_⟩ := r1.at h
  exact .inl ⟨a, vs, i, w, p, rp_int q, h1, hw, f _ _ _ _ _ k e Stay.refl rw_⟩
theorem rr_ixs {z : Str} {n : Nat} (hz : z.length ≤ 100000) (h : atI z.cps.toList i = some n) (k : Ψ (.im (.str ⟨#[n]⟩)) F M) : Rr c (rIx c.K) (.im (.str z)) (.im (.int i)) F M Ψ := fun H Q v u e p q f =>
  .inr (.inr ⟨z, i, n, rp_str p, rp_int q, Nat.le_trans hz (by decide), h, f _ _ _ _ _ k e Stay.refl mk_str⟩)
/-! == of data -/
mutual
def Dt.nob : Dt → Bool
  | .bl _ => false
  | .tup xs => Dt.nobs xs
  | _ => true
def Dt.nobs : List Dt → Bool
  | [] => true
  | x :: xs => x.nob && Dt.nobs xs
end
def Dt.eqv (x y : Dt) : Bool := PyData.eqv x.d y.d
theorem rr_eq (s1 : SeqAt.shaped x.d = true) (s2 : SeqAt.shaped y.d = true) (k : Ψ (.im (.bl (x.eqv y))) F M) : Rr c (rEqD c.K) (.im x) (.im y) F M Ψ := fun H Q v u e p q f => ⟨_, _, p, q, s1, s2, f _ _ _ _ _ k e Stay.refl mk_bl⟩
theorem rr_ne (s1 : SeqAt.shaped x.d = true) (s2 : SeqAt.shaped y.d = true) (k : Ψ (.im (.bl (!x.eqv y))) F M) : Rr c (rNeD c.K) (.im x) (.im y) F M Ψ := fun H Q v u e p q f => ⟨_, _, p, q, s1, s2, f _ _ _ _ _ k e Stay.refl mk_bl⟩
/-- lists -/
theorem rr_eql (h1 : Lk c F M a xs) (h2 : Lk c F M b ys) (s1 : SeqAt.shaped (.list (Dt.ds xs)) = true) (s2 : SeqAt.shaped (.list (Dt.ds ys)) = true) (k : Ψ (.im (.bl (PyData.eqv (.list (Dt.ds xs)) (.list (Dt.ds ys))))) F M) : Rr c (rEqD c.K) (.ad (.ref a)) (.ad (.ref b)) F M Ψ := fun H Q v u e p q f => by
  obtain ⟨vs, e1, r1⟩ := h1 H e
  obtain ⟨us, e2, r2⟩ := h2 H e
  have p' : v = .ref a := p
  have q' : u = .ref b := q
  subst p' q'
  exact ⟨_, _, .lst e1 r1, .lst e2 r2, s1, s2, f _ _ _ _ _ k e Stay.refl mk_bl⟩
theorem rr_nel (h1 : Lk c F M a xs) (h2 : Lk c F M b ys) (s1 : SeqAt.shaped (.list (Dt.ds xs)) = true) (s2 : SeqAt.shaped (.list (Dt.ds ys)) = true) (k : Ψ (.im (.bl (!PyData.eqv (.list (Dt.ds xs)) (.list (Dt.ds ys))))) F M) : Rr c (rNeD c.K) (.ad (.ref a)) (.ad (.ref b)) F M Ψ := fun H Q v u e p q f => by
  obtain ⟨vs, e1, r1⟩ := h1 H e
  obtain ⟨us, e2, r2⟩ := h2 H e
  have p' : v = .ref a := p
  have q' : u = .ref b := q
  subst p' q'
  exact ⟨_, _, .lst e1 r1, .lst e2 r2, s1, s2, f _ _ _ _ _ k e Stay.refl mk_bl⟩
/-! in -/
theorem eqV_int (i : Int) : ∀ ns : List Int, inV (.int i) (ns.map V.int) = decide (i ∈ ns)
  | [] => rfl
  | n :: ns => by
    have ih := eqV_int i ns
    unfold inV at ih ⊢
    rw [List.map_cons, List.any_cons, ih]
    show (n == i || decide (i ∈ ns)) = decide (i ∈ n :: ns)
    by_cases e : n = i
    · subst e; simp
    · have e2 : ¬ i = n := fun z => e z.symm
      simp [e, e2]
theorem flat_ints (ns : List Int) : (ns.map V.int).all flatV = true := by
  rw [List.all_eq_true]
  intro v hv
  obtain ⟨n, _, rfl⟩ := List.mem_map.mp hv
  rfl
theorem rr_int {ns : List Int} (k : Ψ (.im (.bl (decide (i ∈ ns)))) F M) : Rr c (rInU c.K) (.im (.int i)) (.im (.tup (ns.map Dt.int))) F M Ψ := fun H Q v u e p q f => by
  obtain ⟨a, vs, rfl, h1, r1⟩ := rp_tup q
  cases rpl_ints r1
  cases rp_int p
  refine .inl ⟨a, _, rfl, .inr h1, rfl, flat_ints ns, ?_⟩
  rw [eqV_int]
  exact f _ _ _ _ _ k e Stay.refl mk_bl
theorem rr_inl {ns : List Int} (hL : Lk c F M a (ns.map Dt.int)) (k : Ψ (.im (.bl (decide (i ∈ ns)))) F M) : Rr c (rInU c.K) (.im (.int i)) (.ad (.ref a)) F M Ψ := fun H Q v u e p q f => by
  obtain ⟨vs, h1, r1⟩ := hL H e
  cases rpl_ints r1
  cases rp_int p
  refine .inl ⟨a, _, q, .inl h1, rfl, flat_ints ns, ?_⟩
  rw [eqV_int]
  exact f _ _ _ _ _ k e Stay.refl mk_bl
theorem rr_notinl {ns : List Int} (hL : Lk c F M a (ns.map Dt.int)) (k : Ψ (.im (.bl (!decide (i ∈ ns)))) F M) : Rr c (rNotInU c.K) (.im (.int i)) (.ad (.ref a)) F M Ψ := fun H Q v u e p q f => by
  obtain ⟨vs, h1, r1⟩ := hL H e
  cases rpl_ints r1
  cases rp_int p
  refine .inl ⟨a, _, q, .inl h1, rfl, flat_ints ns, ?_⟩
  rw [eqV_int]
  exact f _ _ _ _ _ k e Stay.refl mk_bl
theorem rr_notind (hL : Lk c F M a xs) (s1 : SeqAt.shaped x.d = true) (s2 : SeqAt.shaped (.list (Dt.ds xs)) = true) (k : Ψ (.im (.bl (!xs.any fun z => z.eqv x))) F M) : Rr c (rNotInU c.K) (.im x) (.ad (.ref a)) F M Ψ := fun H Q v u e p q f => by
  obtain ⟨vs, h1, r1⟩ := hL H e
  have q' : u = .ref a := q
  subst q'
  refine .inr ⟨x.d, Dt.ds xs, p, .lst h1 r1, s1, s2, ?_⟩
  rw [ds_map, List.any_map]
  exact f _ _ _ _ _ k e Stay.refl mk_bl
/-! slices -/
theorem sIx_pos (n d k : Nat) (h : k ≤ n) : HT.sIx n d (some (k : Int)) = k := by rw [HT.sIx_nat]; omega
theorem rs_tup {lo hi : Option Int} {p q : Nat} (h1 : HT.sIx xs.length 0 lo = p) (h2 : HT.sIx xs.length xs.length hi = q) (k : Ψ (.im (.tup ((xs.drop p).take (q - p)))) F M) : Rs c (rSlA c.K) (.im (.tup xs)) lo hi F M Ψ := fun H Q v e p' f => by
  obtain ⟨a, vs, rfl, g1, r1⟩ := rp_tup p'
  have hl := r1.length
  refine ⟨a, vs, rfl, g1, fun z => ?_, fun z n hn => ?_⟩
  · rw [hl, h1, h2] at z
    obtain ⟨rfl, rfl⟩ := z
    have e2 : (xs.drop 0).take (xs.length - 0) = xs := by simp
    rw [e2] at k
    exact f _ _ _ _ _ k e Stay.refl p'
  · refine f _ _ _ _ _ k (e.alloc hn) (Stay.new hn) (mk_tup (.inl (.inl upd_same)) (RpL.tp (e.tp (Stay.new hn)) _ _ ?_))
    unfold cutV
    rw [hl, h1, h2]
    exact (r1.drop p).take (q - p)
theorem rs_lst {lo hi : Option Int} {p q : Nat} (hL : Lk c F M a xs) (h1 : HT.sIx xs.length 0 lo = p) (h2 : HT.sIx xs.length xs.length hi = q) (k : ∀ n, Ψ (.ad (.ref n)) F ((n, (xs.drop p).take (q - p)) :: M)) : Rs c (rSlL c.K) (.ad (.ref a)) lo hi F M Ψ := fun H Q v e p' f => by
  obtain ⟨vs, g1, r1⟩ := hL H e
  have hl := r1.length
  refine ⟨a, vs, p', g1, fun n hn => ?_⟩
  refine f _ _ _ _ _ (k n) (e.allocL hn ?_) (Stay.new hn) rfl
  unfold cutV
  rw [hl, h1, h2]
  exact (r1.drop p).take (q - p)
/-! built-in functions -/
def rLen (K : PySem.W.Frag) : List V → Hp → VK → Prop := fun xs H Q => ∃ p ys, xs = [.ref p] ∧ (SqL K H p ys ∨ SqT K H p ys) ∧ Q (.int ys.length) H
theorem call_lenQ {X : Cx} : CallR X (.builtin "len") (rLen X.K) := call_len_seq
theorem pair1 {α β : Type} {R : α → β → Prop} {x : α} {vs : List β} (h : Paired R [x] vs) : ∃ v, vs = [v] ∧ R x v := by
  cases h with
  | cons a b => cases b; exact ⟨_, rfl, a⟩
theorem pair2 {α β : Type} {R : α → β → Prop} {x y : α} {vs : List β} (h : Paired R [x, y] vs) : ∃ v u, vs = [v, u] ∧ R x v ∧ R y u := by
  cases h with
  | cons a b =>
    obtain ⟨u, rfl, r⟩ := pair1 b
    exact ⟨_, _, rfl, a, r⟩
theorem rc_lent (k : Ψ (.im (.int (xs.length : Int))) F M) : Rc c (rLen c.K) [.im (.tup xs)] F M Ψ := fun H Q vs e p f => by
  obtain ⟨v, rfl, r⟩ := pair1 p
  obtain ⟨a, us, rfl, h1, r1⟩ := rp_tup r
  refine ⟨a, us, rfl, .inr h1, ?_⟩
  rw [r1.length]
  exact f _ _ _ _ _ k e Stay.refl mk_int
theorem rc_lenl (hL : Lk c F M a xs) (k : Ψ (.im (.int (xs.length : Int))) F M) : Rc c (rLen c.K) [.ad (.ref a)] F M Ψ := fun H Q vs e p f => by
  obtain ⟨v, rfl, r⟩ := pair1 p
  obtain ⟨us, h1, r1⟩ := hL H e
  have r' : v = .ref a := r
  subst r'
  refine ⟨a, us, rfl, .inl h1, ?_⟩
  rw [r1.length]
  exact f _ _ _ _ _ k e Stay.refl mk_int
def rAbs : List V → Hp → VK → Prop := fun xs H Q => ∃ i, xs = [.int i] ∧ Q (.int (if i < 0 then -i else i)) H
theorem call_absQ {X : Cx} : CallR X (.builtin "abs") rAbs := call_abs
theorem rc_abs (k : Ψ (.im (.int (if i < 0 then -i else i))) F M) : Rc c rAbs [.im (.int i)] F M Ψ := fun H Q vs e p f => by
  obtain ⟨v, rfl, r⟩ := pair1 p
  cases rp_int r
  exact ⟨i, rfl, f _ _ _ _ _ k e Stay.refl mk_int⟩
def rInt1 : List V → Hp → VK → Prop := fun xs H Q => (∃ i, xs = [.int i] ∧ Q (.int i) H) ∨ ∃ k, xs = [.bl k] ∧ Q (.int (if k then 1 else 0)) H
theorem call_intQ {X : Cx} : CallR X (.type "int") rInt1 := call_int1
theorem rc_inti (k : Ψ (.im (.int i)) F M) : Rc c rInt1 [.im (.int i)] F M Ψ := fun H Q vs e p f => by
  obtain ⟨v, rfl, r⟩ := pair1 p
  cases rp_int r
  exact .inl ⟨i, rfl, f _ _ _ _ _ k e Stay.refl mk_int⟩
theorem rc_intb {b : Bool} (k : Ψ (.im (.int (if b then 1 else 0))) F M) : Rc c rInt1 [.im (.bl b)] F M Ψ := fun H Q vs e p f => by
  obtain ⟨v, rfl, r⟩ := pair1 p
  cases rp_bl r
  exact .inr ⟨b, rfl, f _ _ _ _ _ k e Stay.refl mk_int⟩
theorem rc_sum {ns : List Int} (hL : Lk c F M a (ns.map Dt.int)) (k : Ψ (.im (.int ns.sum)) F M) : Rc c (rSum c.K) [.ad (.ref a)] F M Ψ := fun H Q vs e p f => by
  obtain ⟨v, rfl, r⟩ := pair1 p
  obtain ⟨us, h1, r1⟩ := hL H e
  have r' : v = .ref a := r
  subst r'
  cases rpl_ints r1
  exact ⟨a, ns, rfl, h1, f _ _ _ _ _ k e Stay.refl mk_int⟩
theorem rc_max {ns : List Int} (hL : Lk c F M a (ns.map Dt.int)) (h0 : 0 < ns.length) (k : ∀ m, m ∈ ns → (∀ y, y ∈ ns → y ≤ m) → Ψ (.im (.int m)) F M) : Rc c (rMax c.K) [.ad (.ref a)] F M Ψ := fun H Q vs e p f => by
  obtain ⟨v, rfl, r⟩ := pair1 p
  obtain ⟨us, h1, r1⟩ := hL H e
  have r' : v = .ref a := r
  subst r'
  cases rpl_ints r1
  exact ⟨a, ns, rfl, h1, h0, fun m hm hy => f _ _ _ _ _ (k m hm hy) e Stay.refl mk_int⟩
def rMin2 : List V → Hp → VK → Prop := fun xs H Q => ∃ i j, xs = [.int i, .int j] ∧ Q (.int (if j < i then j else i)) H
theorem call_min2Q {X : Cx} (hc : X.calm = true) : CallR X (.builtin "min") rMin2 := call_min2 hc
theorem rc_min2 (k : Ψ (.im (.int (if j < i then j else i))) F M) : Rc c rMin2 [.im (.int i), .im (.int j)] F M Ψ := fun H Q vs e p f => by
  obtain ⟨v, u, rfl, r1, r2⟩ := pair2 p
  cases rp_int r1; cases rp_int r2
  exact ⟨i, j, rfl, f _ _ _ _ _ k e Stay.refl mk_int⟩
theorem rc_min {ns : List Int} (hL : Lk c F M a (ns.map Dt.int)) (h0 : 0 < ns.length) (k : ∀ m, m ∈ ns → (∀ y, y ∈ ns → m ≤ y) → Ψ (.im (.int m)) F M) : Rc c (rMin c.K) [.ad (.ref a)] F M Ψ := fun H Q vs e p f => by
  obtain ⟨v, rfl, r⟩ := pair1 p
  obtain ⟨us, h1, r1⟩ := hL H e
  have r' : v = .ref a := r
  subst r'
  cases rpl_ints r1
  exact ⟨a, ns, rfl, h1, h0, fun m hm hy => f _ _ _ _ _ (k m hm hy) e Stay.refl mk_int⟩
theorem rc_all {bs : List Bool} (hL : Lk c F M a (bs.map Dt.bl)) (k : Ψ (.im (.bl (bs.all id))) F M) : Rc c (rAll c.K) [.ad (.ref a)] F M Ψ := fun H Q vs e p f => by
  obtain ⟨v, rfl, r⟩ := pair1 p
  obtain ⟨us, h1, r1⟩ := hL H e
  have r' : v = .ref a := r
  subst r'
  cases rpl_bls r1
  exact ⟨a, bs, rfl, h1, f _ _ _ _ _ k e Stay.refl mk_bl⟩
def rTup1 (K : PySem.W.Frag) : List V → Hp → VK → Prop := fun xs H Q => ∃ p ys, xs = [.ref p] ∧ ((SqL K H p ys ∧ ∀ l, H l = none → Q (.ref l) (upd H l (.tup ys))) ∨ (SqT K H p ys ∧ Q (.ref p) H))
theorem call_tupQ {X : Cx} : CallR X (.type "tuple") (rTup1 X.K) := call_tuple_of
theorem rc_tupl (hL : Lk c F M a xs) (k : Ψ (.im (.tup xs)) F M) : Rc c (rTup1 c.K) [.ad (.ref a)] F M Ψ := fun H Q vs e p f => by
  obtain ⟨v, rfl, r⟩ := pair1 p
  obtain ⟨us, h1, r1⟩ := hL H e
  have r' : v = .ref a := r
  subst r'
  exact ⟨a, us, rfl, .inl ⟨h1, fun l hl => f _ _ _ _ _ k (e.alloc hl) (Stay.new hl) (mk_tup (.inl (.inl upd_same)) (RpL.tp (e.tp (Stay.new hl)) _ _ r1))⟩⟩
def rLst1 (K : PySem.W.Frag) : List V → Hp → VK → Prop := fun xs H Q => ∃ p ys, xs = [.ref p] ∧ (SqL K H p ys ∨ SqT K H p ys) ∧ ∀ l, H l = none → Q (.ref l) (upd H l (.lst ys))
theorem call_lstQ {X : Cx} : CallR X (.type "list") (rLst1 X.K) := call_list_of
theorem rc_lstl (hL : Lk c F M a xs) (k : ∀ n, Ψ (.ad (.ref n)) F ((n, xs) :: M)) : Rc c (rLst1 c.K) [.ad (.ref a)] F M Ψ := fun H Q vs e p f => by
  obtain ⟨v, rfl, r⟩ := pair1 p
  obtain ⟨us, h1, r1⟩ := hL H e
  have r' : v = .ref a := r
  subst r'
  exact ⟨a, us, rfl, .inl h1, fun l hl => f _ _ _ _ _ (k l) (e.allocL hl r1) (Stay.new hl) rfl⟩
theorem rc_lstt (k : ∀ n, Ψ (.ad (.ref n)) F ((n, xs) :: M)) : Rc c (rLst1 c.K) [.im (.tup xs)] F M Ψ := fun H Q vs e p f => by
  obtain ⟨v, rfl, r⟩ := pair1 p
  obtain ⟨b, us, rfl, h1, r1⟩ := rp_tup r
  exact ⟨b, us, rfl, .inr h1, fun l hl => f _ _ _ _ _ (k l) (e.allocL hl r1) (Stay.new hl) rfl⟩
theorem rc_sorted {ns : List Int} (hL : Lk c F M a (ns.map Dt.int)) (k : ∀ (n : Addr) (ns' : List Int), ns'.Perm ns → ns'.Pairwise (· ≤ ·) → Ψ (.ad (.ref n)) F ((n, ns'.map Dt.int) :: M)) : Rc c (rSortedI c.K) [.ad (.ref a)] F M Ψ := fun H Q vs e p f => by
  obtain ⟨v, rfl, r⟩ := pair1 p
  obtain ⟨us, h1, r1⟩ := hL H e
  have r' : v = .ref a := r
  subst r'
  cases rpl_ints r1
  exact ⟨a, ns, rfl, h1, fun ns' l h2 h3 hl => f _ _ _ _ _ (k l ns' h2 h3) (e.allocL hl mk_ints) (Stay.new hl) rfl⟩
/-! isinstance of data -/
def Dt.ty : Dt → String
  | .non => "NoneType" | .bl _ => "bool" | .int _ => "int" | .str _ => "str" | .tup _ => "tuple"
theorem tyX_of {K : PySem.W.Frag} {H : Hp} {v : V} (h : Rp K H v x) : TyX K H v (.type x.ty) := by
  cases x with
  | non => rw [rp_non h]; exact .base .non
  | bl b => rw [rp_bl h]; exact .base (.bl b)
  | int b => rw [rp_int h]; exact .base (.int b)
  | str b => rw [rp_str h]; exact .base (.str b)
  | tup b =>
    obtain ⟨a, vs, rfl, q, _⟩ := rp_tup h
    rcases q with (q | ⟨o, q⟩) | ⟨o, its, n, q, hc, _⟩
    · exact .base (.tup q)
    · exact .fTuple q
    · exact .kTuple q hc
theorem rc_isi {n : String} {b : Bool} (hb : PySem.W.kitOne c.K (.type x.ty) (.type n) = some b) (k : Ψ (.im (.bl b)) F M) : Rc c (rIsi c.K) [.im x, .ad (.ty n)] F M Ψ := fun H Q vs e p f => by
  obtain ⟨v, u, rfl, r1, r2⟩ := pair2 p
  have r2' : u = .ty n := r2
  subst r2'
  exact ⟨v, .ty n, _, _, b, rfl, .ty n, tyX_of r1, hb, f _ _ _ _ _ k e Stay.refl mk_bl⟩
/-! methods of lists: x.m(args), the list changed in place -/
def Rm (c : Cn) (r : V → List V → Hp → VK → Prop) (x : RV) (ys : List RV) (F : Fp) (M : Mem) (Ψ : PR) : Prop := ∀ H (Q : VK) v vs, HE c F M H → VOk c.K H x v → Paired (VOk c.K H) ys vs →
  (∀ s F' M' z H1, Ψ s F' M' → HE c F' M' H1 → Tp c.K H H1 → VOk c.K H1 s z → Q z H1) → r v vs H Q
end
end TL

set_option autoImplicit true
set_option maxHeartbeats 200000
set_option maxRecDepth 512
set_option Elab.async false
set_option linter.all false
set_option maxRecDepth 100000
set_option maxHeartbeats 4000000
/-! statements, targets, loops, comprehensions, calls -/
namespace TL
open PySem PySem.Spec PyProof.Rows L2

abbrev PN := Fp → List (Option RV) → Mem → Prop
def Ws (c : Cn) (t : TS) (F : Fp) (δ : List (Option RV)) (M : Mem) (N : PN) (R : PR) : Prop := ∀ σ H (D : Ends), HE c F M H → Slots c.K H δ σ →
  (∀ F' δ' M' σ' H', N F' δ' M' → HE c F' M' H' → Slots c.K H' δ' σ' → Tp c.K H H' → D.nx σ' H') → (∀ r F' M' v H', R r F' M' → HE c F' M' H' → VOk c.K H' r v → D.rt v H') → t D σ H
def Wg (c : Cn) (g : TG) (r : RV) (F : Fp) (δ : List (Option RV)) (M : Mem) (N : PN) : Prop := ∀ v σ H (Q : L2.St → Hp → Prop), HE c F M H → Slots c.K H δ σ → VOk c.K H r v →
  (∀ F' δ' M' σ' H', N F' δ' M' → HE c F' M' H' → Slots c.K H' δ' σ' → Tp c.K H H' → Q σ' H') → g v σ H Q
def Wgs (c : Cn) (g : TGs) (rs : List RV) (F : Fp) (δ : List (Option RV)) (M : Mem) (N : PN) : Prop := ∀ vs σ H (Q : L2.St → Hp → Prop), HE c F M H → Slots c.K H δ σ → Paired (VOk c.K H) rs vs →
  (∀ F' δ' M' σ' H', N F' δ' M' → HE c F' M' H' → Slots c.K H' δ' σ' → Tp c.K H H' → Q σ' H') → g vs σ H Q
/-- the list at a, being ds, may become ds' -/
def Wr (c : Cn) (a : Addr) (F : Fp) (M : Mem) (ds ds' : List Dt) (F' : Fp) (M' : Mem) : Prop := ∀ H, HE c F M H → ∃ vs, H a = some (.lst vs) ∧ RpL c.K H vs ds ∧ ∀ vs', RpL c.K H vs' ds' → HE c F' M' (upd H a (.lst vs')) ∧ Tp c.K H (upd H a (.lst vs'))
theorem Tp.refl {K : PySem.W.Frag} {H : Hp} : Tp K H H := fun _ _ h => h
theorem Tp.trans {K : PySem.W.Frag} {H H1 H2 : Hp} (a : Tp K H H1) (b : Tp K H1 H2) : Tp K H H2 := fun x y h => b x y (a x y h)
section
variable {c : Cn} {F G : Fp} {M M' : Mem} {δ : List (Option RV)} {N N' : PN} {R : PR} {te ta tb : TE} {t u : TS} {tt : TT} {r : RV} {a : Addr} {ds es : List Dt} {g : TG}
theorem wrM {k : Nat} (ds' : List Dt) (h : M[k]? = some (a, ds)) : Wr c a F M ds ds' F (M.set k (a, ds')) := fun H e => by
  obtain ⟨n0, vs, hp, r⟩ := e.mm _ (List.mem_of_getElem? h)
  exact ⟨vs, hp, r, fun vs' r' => ⟨(e.write h r').1, (e.write h r').2.2⟩⟩
theorem Ws.mono (h : Ws c t F δ M N R) (k : ∀ F' δ' M', N F' δ' M' → N' F' δ' M') : Ws c t F δ M N' R := fun σ H D e s n q => h σ H D e s (fun F' δ' M' σ' H' x => n F' δ' M' σ' H' (k _ _ _ x)) q
theorem ws_seq (h : Ws c t F δ M (fun F1 δ1 M1 => Ws c u F1 δ1 M1 N R) R) : Ws c (tSeq t u) F δ M N R := fun σ H D e s n q =>
  h σ H { D with nx := u D } e s (fun F1 δ1 M1 σ1 H1 x e1 s1 t1 => x σ1 H1 D e1 s1 (fun F' δ' M' σ' H' a b c' t2 => n F' δ' M' σ' H' a b c' (t1.trans t2)) q) q
theorem ws_next (h : N F δ M) : Ws c tNext F δ M N R := fun σ H D e s n q => n F δ M σ H h e s Tp.refl
theorem ws_ret (h : We c te F δ M R) : Ws c (tRet te) F δ M N R := fun σ H D e s n q => h σ H D.rt e s fun r F' M' v H1 p e1 _ v1 => q r F' M' v H1 p e1 v1
theorem ws_drop (h : We c te F δ M fun _ F1 M1 => N F1 δ M1) : Ws c (tDrop te) F δ M N R := fun σ H D e s n q => h σ H _ e s fun r F' M' v H1 p e1 s1 v1 => n F' δ M' σ H1 p e1 (s.tp (e.tp s1)) (e.tp s1)
theorem ws_if (h : Wt c tt F δ M fun b F1 M1 => (b = true → Ws c t F1 δ M1 N R) ∧ (b = false → Ws c u F1 δ M1 N R)) : Ws c (tIfS tt t u) F δ M N R := fun σ H D e s n q =>
  h σ H _ e s fun b F1 M1 H1 p e1 s1 => by
    cases b with
    | true => exact p.1 rfl σ H1 D e1 (s.tp (e.tp s1)) (fun F' δ' M' σ' H' a b c' t2 => n F' δ' M' σ' H' a b c' ((e.tp s1).trans t2)) q
    | false => exact p.2 rfl σ H1 D e1 (s.tp (e.tp s1)) (fun F' δ' M' σ' H' a b c' t2 => n F' δ' M' σ' H' a b c' ((e.tp s1).trans t2)) q
theorem ws_asg (h : We c te F δ M fun r F1 M1 => Wg c g r F1 δ M1 N) : Ws c (tAsg te g) F δ M N R := fun σ H D e s n q =>
  h σ H _ e s fun r F1 M1 v H1 p e1 s1 v1 => p v σ H1 D.nx e1 (s.tp (e.tp s1)) v1 (fun F' δ' M' σ' H' a b c' t2 => n F' δ' M' σ' H' a b c' ((e.tp s1).trans t2))
theorem ws_set {i : Nat} (h : We c te F δ M fun r F1 M1 => N F1 (δ.set i (some r)) M1) : Ws c (tAsg te (gName i)) F δ M N R := fun σ H D e s n q =>
  h σ H _ e s fun r F1 M1 v H1 p e1 s1 v1 => n F1 _ M1 _ H1 p e1 ((s.tp (e.tp s1)).set i v1) (e.tp s1)
theorem wg_name {i : Nat} (h : N F (δ.set i (some r)) M) : Wg c (gName i) r F δ M N := fun v σ H Q e s v1 q => q F _ M _ H h e (s.set i v1) Tp.refl
theorem wgs_nil (h : N F δ M) : Wgs c gNil [] F δ M N := fun vs σ H Q e s p q => by
  cases p
  exact ⟨rfl, q F δ M σ H h e s Tp.refl⟩
/-- targets that are names: nothing else changes -/
theorem wgs_name {i : Nat} {u : TGs} {rs : List RV} (h : Wgs c u rs F (δ.set i (some r)) M N) : Wgs c (gCons (gName i) u) (r :: rs) F δ M N := fun vs σ H Q e s p q => by
  cases p with
  | cons a b => exact ⟨_, _, rfl, h _ _ H Q e (s.set i a) b q⟩
theorem rpl_paired {K : PySem.W.Frag} {H : Hp} : ∀ {xs : List Dt} {vs : List V}, RpL K H vs xs → Paired (VOk K H) (xs.map RV.im) vs
  | [], _, h => by rw [rpl_inv0 h]; exact .nil
  | x :: xs, vs, h => by
    obtain ⟨v, r, rfl, h1, h2⟩ := rpl_inv h
    exact .cons h1 (rpl_paired h2)
theorem wg_tup {n : Nat} {u : TGs} {xs : List Dt} (hl : xs.length = n) (h : Wgs c u (xs.map RV.im) F δ M N) : Wg c (gTup c.K n u) (.im (.tup xs)) F δ M N := fun v σ H Q e s v1 q => by
  obtain ⟨a, vs, rfl, h1, r1⟩ := rp_tup v1
  exact ⟨a, vs, rfl, h1, by rw [r1.length]; exact hl, h vs σ H Q e s (rpl_paired r1) q⟩
/-- xs[i] = e -/
theorem wg_sub {to ti : TE} (h : We c to F δ M fun x F1 M1 => We c ti F1 δ M1 fun y F2 M2 => ∃ a ds i j d F3 M3, x = .ad (.ref a) ∧ y = .im (.int i) ∧ r = .im d ∧ ixN ds.length i = some j ∧ Wr c a F2 M2 ds (ds.set j d) F3 M3 ∧ N F3 δ M3) :
    Wg c (gSub to ti rSetL) r F δ M N := fun v σ H Q e s v1 q =>
  h σ H _ e s fun x F1 M1 xv H1 p1 e1 s1 w1 => p1 σ H1 _ e1 (s.tp (e.tp s1)) fun y F2 M2 yv H2 p2 e2 s2 w2 => by
    obtain ⟨a, ds, i, j, d, F3, M3, rfl, rfl, rfl, hj, hw, hn⟩ := p2
    obtain ⟨vs, ha, r0, k⟩ := hw H2 e2
    have w1' : xv = .ref a := w1
    subst w1'
    have st : Tp c.K H H2 := e.tp (s1.trans s2)
    have v2 : Rp c.K H2 v d := Rp.tp st _ _ v1
    obtain ⟨e3, t3⟩ := k _ (r0.set j v2)
    refine ⟨a, vs, i, j, rfl, rp_int w2, ha, by rw [r0.length]; exact hj, ?_⟩
    exact q F3 δ M3 σ _ hn e3 ((s.tp st).tp t3) (st.trans t3)
/-- xs.append(e) -/
theorem ws_append {to te : TE} (h : We c to F δ M fun x F1 M1 => ∃ a ds0, x = .ad (.ref a) ∧ Lk c F1 M1 a ds0 ∧ We c te F1 δ M1 fun y F2 M2 => ∃ ds d F3 M3, y = .im d ∧ Wr c a F2 M2 ds (ds ++ [d]) F3 M3 ∧ ds.length < 100000 ∧ N F3 δ M3) :
    Ws c (tDrop (tBM c.K "list" rAppend to (tCons te tNil))) F δ M N R := fun σ H D e s n q =>
  h σ H _ e s fun x F1 M1 xv H1 p1 e1 s1 w1 => by
    obtain ⟨a, ds0, rfl, hL, p1⟩ := p1
    have w1' : xv = .ref a := w1
    subst w1'
    obtain ⟨vs0, hs0, _⟩ := hL H1 e1
    refine ⟨.inl ⟨rfl, vs0, hs0⟩, ?_⟩
    refine p1 σ H1 _ e1 (s.tp (e.tp s1)) fun y F2 M2 yv H2 p2 e2 s2 w2 => ?_
    obtain ⟨ds, d, F3, M3, rfl, hw, hl, hn⟩ := p2
    obtain ⟨vs, ha, r0, k⟩ := hw H2 e2
    obtain ⟨e3, t3⟩ := k _ (r0.snoc w2)
    have hl' : vs.length < sizeLine := by
      rw [r0.length]
      exact Nat.lt_of_lt_of_le hl (by decide)
    exact ⟨a, vs, yv, rfl, rfl, ha, hl', n F3 δ M3 σ _ hn e3 ((s.tp (e.tp (s1.trans s2))).tp t3) ((e.tp (s1.trans s2)).trans t3)⟩
def rInsert : V → List V → Hp → VK → Prop := fun x vs H Q => ∃ (l : Addr) (xs : List V) (i : Int) (y : V), x = .ref l ∧ vs = [.int i, y] ∧ H l = some (.lst xs) ∧ xs.length < sizeLine ∧ 0 ≤ i ∧ i < 2 ^ 63 ∧
    Q .non (upd H l (.lst (xs.take i.toNat ++ [y] ++ xs.drop i.toNat)))
/-- xs.insert(i, e) -/
theorem ws_insert {to ti te : TE} (h : We c to F δ M fun x F1 M1 => ∃ a ds0, x = .ad (.ref a) ∧ Lk c F1 M1 a ds0 ∧ We c ti F1 δ M1 fun z F2 M2 => We c te F2 δ M2 fun y F3 M3 => ∃ ds d F4 M4, ∃ i : Nat, z = .im (.int (i : Int)) ∧ y = .im d ∧ i ≤ 100000 ∧
      Wr c a F3 M3 ds (ds.take i ++ [d] ++ ds.drop i) F4 M4 ∧ ds.length < 100000 ∧ N F4 δ M4) :
    Ws c (tDrop (tBM c.K "list" rInsert to (tCons ti (tCons te tNil)))) F δ M N R := fun σ H D e s n q =>
  h σ H _ e s fun x F1 M1 xv H1 p1 e1 s1 w1 => by
    obtain ⟨a, ds0, rfl, hL, p1⟩ := p1
    have w1' : xv = .ref a := w1
    subst w1'
    obtain ⟨vs0, hs0, _⟩ := hL H1 e1
    refine ⟨.inl ⟨rfl, vs0, hs0⟩, ?_⟩
    refine p1 σ H1 _ e1 (s.tp (e.tp s1)) fun z F2 M2 zv H2 p2 e2 s2 w2 => ?_
    refine p2 σ H2 _ e2 (s.tp (e.tp (s1.trans s2))) fun y F3 M3 yv H3 p3 e3 s3 w3 => ?_
    obtain ⟨ds, d, F4, M4, i, rfl, rfl, hi, hw, hl, hn⟩ := p3
    obtain ⟨vs, ha, r0, k⟩ := hw H3 e3
    obtain ⟨e4, t4⟩ := k (vs.take i ++ [yv] ++ vs.drop i) (((r0.take i).snoc w3).append (r0.drop i))
    have hl' : vs.length < sizeLine := by
      rw [r0.length]
      exact Nat.lt_of_lt_of_le hl (by decide)
    cases rp_int w2
    refine ⟨a, vs, (i : Int), yv, rfl, rfl, ha, hl', by omega, by omega, ?_⟩
    rw [Int.toNat_natCast]
    exact n F4 δ M4 σ _ hn e4 ((s.tp (e.tp ((s1.trans s2).trans s3))).tp t4) ((e.tp ((s1.trans s2).trans s3)).trans t4)
/-- x = xs.pop(0) -/
theorem ws_pop0 {to : TE} {i : Nat} (h : We c to F δ M fun x F1 M1 => ∃ a d ds F3 M3, x = .ad (.ref a) ∧ Wr c a F1 M1 (d :: ds) ds F3 M3 ∧ N F3 (δ.set i (some (.im d))) M3) :
    Ws c (tAsg (tBM c.K "list" rPopAt to (tCons (tC (.int 0)) tNil)) (gName i)) F δ M N R := fun σ H D e s n q =>
  h σ H _ e s fun x F1 M1 xv H1 p1 e1 s1 w1 => by
    obtain ⟨a, d, ds, F3, M3, rfl, hw, hn⟩ := p1
    have w1' : xv = .ref a := w1
    subst w1'
    obtain ⟨vs, ha, r0, k⟩ := hw H1 e1
    obtain ⟨v, r, rfl, rv, rr⟩ := rpl_inv r0
    obtain ⟨e3, t3⟩ := k r rr
    refine ⟨.inl ⟨rfl, _, .inl (.inl ha)⟩, ?_⟩
    refine ⟨a, v :: r, 0, 0, v, rfl, rfl, ha, by omega, by omega, ?_, rfl, ?_⟩
    · unfold seqIndex?
      simp
    · exact n F3 _ M3 _ _ hn e3 (((s.tp (e.tp s1)).tp t3).set i (Rp.tp t3 _ _ rv)) ((e.tp s1).trans t3)
/-! loops -/
abbrev PS2 := Fp → Mem → Prop
/-- what is walked: n turns, the i-th gives a value of which Y holds, while S stands -/
def Wi (c : Cn) (wi : TI) (F : Fp) (δ : List (Option RV)) (M : Mem) (Ξ : Nat → (Nat → RV → Prop) → PS2 → Fp → Mem → Prop) : Prop := ∀ σ H (Q : It → Hp → Prop), HE c F M H → Slots c.K H δ σ →
  (∀ n Y S F1 M1 J H1, Ξ n Y S F1 M1 → HE c F1 M1 H1 → Stay c H H1 →
    Walk J n (fun H => Tp c.K H1 H ∧ ∃ F' M', S F' M' ∧ HE c F' M' H) (fun i H v H' => ∃ r, Y i r ∧ VOk c.K H' r v ∧ (H' = H ∨ ∃ p o, H p = none ∧ H' = upd H p o)) → Q J H1) → wi σ H Q
theorem ws_for {wi : TI} {tb : TS} (h : Wi c wi F δ M fun n Y S F1 M1 => ∃ Pv : Nat → PN, Pv 0 F1 δ M1 ∧ (∀ i F' δ' M', i ≤ n → Pv i F' δ' M' → S F' M') ∧
      (∀ i r F' δ' M', i < n → Y i r → Pv i F' δ' M' → Wg c g r F' δ' M' fun F2 δ2 M2 => Ws c tb F2 δ2 M2 (Pv (i + 1)) R) ∧ (∀ F' δ' M', Pv n F' δ' M' → N F' δ' M')) : Ws c (tFor wi g tb) F δ M N R := fun σ H D e s n q =>
  h σ H _ e s fun m Y S F1 M1 J H1 p e1 s1 w => by
    obtain ⟨Pv, h0, hS, hs, hd⟩ := p
    refine for_it w (fun i σ' H' => ∃ F' δ' M', Pv i F' δ' M' ∧ HE c F' M' H' ∧ Slots c.K H' δ' σ' ∧ Tp c.K H1 H') ⟨F1, δ, M1, h0, e1, s.tp (e.tp s1), Tp.refl⟩ (fun i σ' H' hi ⟨F', δ', M', p, e', _, t'⟩ => ⟨t', F', M', hS i F' δ' M' hi p, e'⟩) (fun i x σ' H' H'' hi ⟨F', δ', M', p, e', s', t'⟩ ⟨r, hy, hv, hh⟩ => ?_) (fun σ' H' ⟨F', δ', M', p, e', s', t'⟩ => n F' δ' M' σ' H' (hd _ _ _ p) e' s' ((e.tp s1).trans t'))
    obtain ⟨e2, s2, t2⟩ : HE c F' M' H'' ∧ Slots c.K H'' δ' σ' ∧ Tp c.K H' H'' := by
      rcases hh with rfl | ⟨p, o, hp, rfl⟩
      · exact ⟨e', s', Tp.refl⟩
      · exact ⟨e'.alloc hp, s'.tp (e'.tp (Stay.new hp)), e'.tp (Stay.new hp)⟩
    exact hs i r F' δ' M' hi hy p x σ' H'' _ e2 s2 hv fun F2 δ2 M2 σ2 H2 b e3 s3 t3 => b σ2 H2 _ e3 s3 (fun F3 δ3 M3 σ3 H3 z e4 s4 t4 => ⟨F3, δ3, M3, z, e4, s4, ((t'.trans t2).trans t3).trans t4⟩) q
/-! comprehensions -/
def setAll (σ : L2.St) : List Nat → List V → L2.St
  | j :: js, x :: xs => setAll (σ.set j (some x)) js xs
  | _, _ => σ
def setD (δ : List (Option RV)) : List Nat → List RV → List (Option RV)
  | j :: js, x :: xs => setD (δ.set j (some x)) js xs
  | _, _ => δ
/-- a target of names alone: at js come rs -/
def Gn (c : Cn) (g : TG) (js : List Nat) (r : RV) (rs : List RV) : Prop := ∀ (v : V) (σ : L2.St) (H : Hp) (Q : L2.St → Hp → Prop), VOk c.K H r v → (∀ xs, Paired (VOk c.K H) rs xs → Q (setAll σ js xs) H) → g v σ H Q
theorem gn_name {j : Nat} : Gn c (gName j) [j] r [r] := fun v σ H Q h q => q [v] (.cons h .nil)
def Gns (c : Cn) (g : TGs) (js : List Nat) (rs : List RV) : Prop := ∀ (vs : List V) (σ : L2.St) (H : Hp) (Q : L2.St → Hp → Prop), Paired (VOk c.K H) rs vs → Q (setAll σ js vs) H → g vs σ H Q
theorem gns_nil : Gns c gNil [] [] := fun vs σ H Q h q => by
  cases h
  exact ⟨rfl, q⟩
theorem gns_cons {j : Nat} {js : List Nat} {u : TGs} {rs : List RV} (h : Gns c u js rs) : Gns c (gCons (gName j) u) (j :: js) (r :: rs) := fun vs σ H Q p q => by
  cases p with
  | cons a b => exact ⟨_, _, rfl, h _ _ H Q b q⟩
theorem gn_tup {n : Nat} {js : List Nat} {u : TGs} {xs : List Dt} (hl : xs.length = n) (h : Gns c u js (xs.map RV.im)) : Gn c (gTup c.K n u) js (.im (.tup xs)) (xs.map RV.im) := fun v σ H Q p q => by
  obtain ⟨a, vs, rfl, h1, r1⟩ := rp_tup p
  have pp := rpl_paired r1
  exact ⟨a, vs, rfl, h1, by rw [r1.length]; exact hl, h vs σ H Q pp (q vs pp)⟩
theorem setAll_out {k : Nat} : ∀ {js : List Nat} {xs : List V} {σ : L2.St}, k ∉ js → (setAll σ js xs)[k]? = σ[k]?
  | [], _, _, _ => by unfold setAll; rfl
  | _ :: _, [], _, _ => by unfold setAll; rfl
  | j :: js, x :: xs, σ, h => by
    unfold setAll
    have h1 : j ≠ k := fun e => h (by rw [e]; exact List.mem_cons_self)
    rw [setAll_out fun m => h (List.mem_cons_of_mem _ m), List.getElem?_set_ne h1]
theorem setAll_len : ∀ {js : List Nat} {xs : List V} {σ : L2.St}, (setAll σ js xs).length = σ.length
  | [], _, _ => by unfold setAll; rfl
  | _ :: _, [], _ => by unfold setAll; rfl
  | j :: js, x :: xs, σ => by unfold setAll; rw [setAll_len]; simp
theorem wipe_in {σ : L2.St} {k : Nat} (hk : k < σ.length) : ∀ {vs : List Nat}, k ∈ vs → (wipe σ vs)[k]? = some none
  | [], h => by cases h
  | v :: vs, h => by
    unfold wipe
    by_cases e : v = k
    · subst e
      exact List.getElem?_set_self (by rw [wipe_length]; exact hk)
    · rw [List.getElem?_set_ne e]
      exact wipe_in hk ((List.mem_cons.mp h).resolve_left fun z => e z.symm)
theorem wipe_set {σ : L2.St} {js : List Nat} {xs : List V} : wipe (setAll (wipe σ js) js xs) js = wipe σ js := by
  refine List.ext_getElem? fun k => ?_
  by_cases hk : k < σ.length
  · by_cases hm : k ∈ js
    · rw [wipe_in (by rw [setAll_len, wipe_length]; exact hk) hm, wipe_in hk hm]
    · rw [wipe_out hm, setAll_out hm]
  · rw [List.getElem?_eq_none (by rw [wipe_length, setAll_len, wipe_length]; omega), List.getElem?_eq_none (by rw [wipe_length]; omega)]
theorem slots_setAll {K : PySem.W.Frag} {H : Hp} : ∀ {js : List Nat} {rs : List RV} {xs : List V} {δ : List (Option RV)} {σ : L2.St}, Slots K H δ σ → Paired (VOk K H) rs xs → Slots K H (setD δ js rs) (setAll σ js xs)
  | [], _, _, _, _, h, _ => by unfold setD setAll; exact h
  | _ :: _, _, _, _, _, h, .nil => by unfold setD setAll; exact h
  | j :: js, _, _, _, _, h, .cons a b => by unfold setD setAll; exact slots_setAll (h.set j a) b
theorem slots_wipe {K : PySem.W.Frag} {H : Hp} {δ : List (Option RV)} {σ : L2.St} {js : List Nat} (h : Slots K H δ σ) : Slots K H (js.foldr (fun j δ => δ.set j none) δ) (wipe σ js) := by
  induction js with
  | nil => exact h
  | cons j js ih =>
    refine ⟨?_, fun k r e => ?_⟩
    · have := ih.1
      rw [wipe_length] at this ⊢
      rw [List.foldr_cons, List.length_set]
      exact this
    rw [List.foldr_cons] at e
    unfold wipe
    by_cases jk : j = k
    · subst jk
      by_cases hj : j < (js.foldr (fun j δ => δ.set j none) δ).length
      · rw [List.getElem?_set_self hj] at e; cases e
      · rw [List.getElem?_eq_none (by simpa using hj)] at e; cases e
    · rw [List.getElem?_set_ne jk] at e
      obtain ⟨v, a, b⟩ := ih.2 k r e
      exact ⟨v, by rw [List.getElem?_set_ne jk]; exact a, b⟩
theorem HE.free0 {H : Hp} (h : HE c F M H) {D : Addr} (n0 : c.H0 D = none) : ¬ c.B D := fun b => h.n0 b n0
/-- [elt for target in iter if test]: the turns change no list of one's own -/
theorem we_lc {wi : TI} {tt : TT} {js : List Nat} {Ψ : PR} (h : Wi c wi F δ M fun n Y S F1 M1 => n ≤ 100000 ∧ ∃ Pv : Nat → List Dt → Fp → Prop, Pv 0 [] F1 ∧ (∀ i acc F', i ≤ n → Pv i acc F' → S F' M1) ∧
      (∀ i r acc F', i < n → acc.length ≤ i → Y i r → Pv i acc F' → ∃ rs, Gn c g js r rs ∧ Wt c tt F' (setD (js.foldr (fun j δ => δ.set j none) δ) js rs) M1 fun b F3 M3 =>
        (b = true → We c te F3 (setD (js.foldr (fun j δ => δ.set j none) δ) js rs) M3 fun y F4 M4 => ∃ d, y = .im d ∧ M1.Sublist M4 ∧ Pv (i + 1) (acc ++ [d]) F4) ∧ (b = false → M1.Sublist M3 ∧ Pv (i + 1) acc F3)) ∧
      (∀ acc F', acc.length ≤ n → Pv n acc F' → ∀ a, Ψ (.ad (.ref a)) F' ((a, acc) :: M1))) : We c (tLc wi g tt te js) F δ M Ψ := fun σ H Q e s q => by
  refine h σ H _ e s fun n Y S F1 M1 J H1 p e1 s1 w => ?_
  obtain ⟨hn, Pv, h0, hS, hs, hd⟩ := p
  intro D hD
  have nD : ∀ q ∈ M1, q.1 ≠ D := fun q hq z => by
    obtain ⟨_, vs, ez, _⟩ := e1.mm q hq
    rw [z, hD] at ez; cases ez
  have D0 : c.H0 D = none := e1.free hD
  have nB : ¬ c.B D := e1.free0 D0
  -- the hidden state
  refine lc_it (D := D) w (fun i H' => ∃ acc F' vs, acc.length ≤ i ∧ Pv i acc F' ∧ HE c F' M1 H' ∧ Stay c H1 H' ∧ H' D = some (.lst vs) ∧ RpL c.K H' vs acc) ⟨[], F1, [], Nat.le_refl _, h0, e1.alloc hD, Stay.new hD, upd_same, rpl_nil⟩
    (fun i H' hi ⟨acc, F', vs, _, p, e', st, _⟩ => ⟨e1.tp st, F', M1, hS i acc F' hi p, e'⟩) (fun i x H' H'' hi hp hy => ?_) (fun H' ⟨acc, F', vs, hl, p, e', st, hDl, hr⟩ => ?_)
  · obtain ⟨acc, F', vs, hl, p, e', st, hDl, hr⟩ := hp
    obtain ⟨r, hY, hv, hh⟩ := hy
    obtain ⟨e2, s2, hD2, hr2⟩ : HE c F' M1 H'' ∧ Stay c H' H'' ∧ H'' D = some (.lst vs) ∧ RpL c.K H'' vs acc := by
      rcases hh with rfl | ⟨p', o, hp', rfl⟩
      · exact ⟨e', Stay.refl, hDl, hr⟩
      · exact ⟨e'.alloc hp', Stay.new hp', by rw [upd_ne (ne_of_none hDl hp')]; exact hDl, RpL.tp (e'.tp (Stay.new hp')) _ _ hr⟩
    obtain ⟨rs, hg, ht⟩ := hs i r acc F' hi hl hY p
    refine hg x (wipe σ js) H'' _ hv fun xs hxs => ⟨wipe_set, ?_⟩
    have sl : Slots c.K H'' (setD (js.foldr (fun j δ => δ.set j none) δ) js rs) (setAll (wipe σ js) js xs) := slots_setAll (slots_wipe (s.tp (e.tp ((s1.trans st).trans s2)))) hxs
    refine ht _ H'' _ e2 sl fun b F3 M3 H3 pb e3 s3 => ?_
    have hD3 : H3 D = some (.lst vs) := s3 D _ hD2 nB
    have hr3 : RpL c.K H3 vs acc := RpL.tp (e2.tp s3) _ _ hr2
    cases b with
    | false =>
      obtain ⟨sub, pv⟩ := pb.2 rfl
      exact ⟨acc, F3, vs, by omega, pv, e3.weak sub, (st.trans s2).trans s3, hD3, hr3⟩
    | true =>
      show te _ H3 _
      refine pb.1 rfl _ H3 _ e3 (sl.tp (e2.tp s3)) fun y F4 M4 v4 H4 py e4 s4 v4' => ?_
      obtain ⟨d, rfl, sub, pv⟩ := py
      have hD4 : H4 D = some (.lst vs) := s4 D _ hD3 nB
      have hr4 : RpL c.K H4 vs acc := RpL.tp (e3.tp s4) _ _ hr3
      have e5 := (e4.weak sub).adopt nD D0 hD4 hr4
      obtain ⟨e6, _, t6⟩ := e5.write (k := 0) (p := D) (ds := acc) (vs' := vs ++ [v4]) rfl (hr4.snoc v4')
      have hz : vs.length < sizeLine := by
        rw [hr4.length]
        exact Nat.lt_of_le_of_lt (Nat.le_trans hl (Nat.le_of_lt (Nat.lt_of_lt_of_le hi hn))) (by decide)
      refine ⟨vs, hD4, hz, acc ++ [d], F4, vs ++ [v4], by simp; omega, pv, e6.weak (by exact List.sublist_cons_self _ _), fun a o ha hb => ?_, upd_same, RpL.tp t6 _ _ (hr4.snoc v4')⟩
      have h4 := (((st.trans s2).trans s3).trans s4) a o ha hb
      rw [upd_ne (by intro z; subst z; rw [hD] at ha; cases ha)]
      exact h4
  · have hnl : acc.length ≤ n := hl
    exact q _ F' _ _ _ (hd acc F' hnl p D) (e'.adopt nD D0 hDl hr) (s1.trans st) rfl
/-! while -/
theorem ws_while (W : Nat → PN) (m0 : Nat) (h0 : W m0 F δ M) (hs : ∀ m F' δ' M', W m F' δ' M' → Wt c tt F' δ' M' fun b F1 M1 => (b = true → Ws c t F1 δ' M1 (fun F2 δ2 M2 => ∃ m', m' < m ∧ W m' F2 δ2 M2) R) ∧ (b = false → N F1 δ' M1)) : Ws c (tWhile tt t) F δ M N R := fun σ H D e s n q => by
  refine ⟨fun m σ' H' => ∃ F' δ' M', W m F' δ' M' ∧ HE c F' M' H' ∧ Slots c.K H' δ' σ' ∧ Tp c.K H H', ⟨m0, F, δ, M, h0, e, s, Tp.refl⟩, ?_⟩
  rintro m σ' H' ⟨F', δ', M', w, e', s', t'⟩
  refine hs m F' δ' M' w σ' H' _ e' s' fun b F1 M1 H1 pb e1 s1 => ?_
  cases b with
  | false => exact n F1 δ' M1 σ' H1 (pb.2 rfl) e1 (s'.tp (e'.tp s1)) (t'.trans (e'.tp s1))
  | true =>
    show ∃ N', _ ∧ t _ σ' H1
    refine ⟨fun σ2 H2 => ∃ m', m' < m ∧ ∃ F' δ' M', W m' F' δ' M' ∧ HE c F' M' H2 ∧ Slots c.K H2 δ' σ2 ∧ Tp c.K H H2, fun σ2 H2 z => z, ?_⟩
    exact pb.1 rfl σ' H1 _ e1 (s'.tp (e'.tp s1)) (fun F2 δ2 M2 σ2 H2 ⟨m', hm, hw⟩ e2 s2 t2 => ⟨m', hm, F2, δ2, M2, hw, e2, s2, (t'.trans (e'.tp s1)).trans t2⟩) q
/-! what is walked -/
abbrev PX := Nat → (Nat → RV → Prop) → PS2 → Fp → Mem → Prop
theorem wi_tup {Ξ : PX} {tl : TE} (h : We c tl F δ M fun r F1 M1 => ∃ xs, r = .im (.tup xs) ∧ Ξ xs.length (fun i r => ∃ d, xs[i]? = some d ∧ r = .im d) (fun _ _ => True) F1 M1) : Wi c (iTup c.K tl) F δ M Ξ := fun σ H Q e s q =>
  h σ H _ e s fun r F1 M1 v H1 p e1 s1 v1 => by
    obtain ⟨xs, rfl, hx⟩ := p
    obtain ⟨a, vs, rfl, h1, r1⟩ := rp_tup v1
    have hw := (walk_tup (K := c.K) (a := a) (xs := vs)).mono (G' := fun H => Tp c.K H1 H ∧ ∃ F' M', True ∧ HE c F' M' H) (Y' := fun i H v H' => ∃ r, (∃ d, xs[i]? = some d ∧ r = RV.im d) ∧ VOk c.K H' r v ∧ (H' = H ∨ ∃ p o, H p = none ∧ H' = upd H p o))
      (fun H g => g.1 a vs h1) (fun i H x H' hi g y => by
        obtain ⟨rfl, hy⟩ := y
        obtain ⟨d, hd, rd⟩ := (RpL.tp g.1 _ _ r1).back hy
        exact ⟨_, ⟨d, hd, rfl⟩, rd, .inl rfl⟩)
    rw [r1.length] at hw
    exact ⟨a, rfl, ⟨vs, h1⟩, q _ _ _ _ _ _ H1 hx e1 s1 hw⟩
theorem wi_list {Ξ : PX} {tl : TE} (h : We c tl F δ M fun r F1 M1 => ∃ a xs, r = .ad (.ref a) ∧ Lk c F1 M1 a xs ∧ Ξ xs.length (fun i r => ∃ d, xs[i]? = some d ∧ r = .im d) (fun F' M' => Lk c F' M' a xs) F1 M1) : Wi c (iList c.K tl) F δ M Ξ := fun σ H Q e s q =>
  h σ H _ e s fun r F1 M1 v H1 p e1 s1 v1 => by
    obtain ⟨a, xs, rfl, hL, hx⟩ := p
    have v1' : v = .ref a := v1
    subst v1'
    obtain ⟨vs, h1, r1⟩ := hL H1 e1
    refine ⟨a, rfl, ⟨vs, h1⟩, q _ _ _ _ _ _ H1 hx e1 s1 ⟨fun i H hi g => ?_, fun H g => ?_, fun i H x H' hi g y => ?_⟩⟩
    · obtain ⟨_, F', M', hS, e'⟩ := g
      obtain ⟨us, h2, r2⟩ := hS H e'
      have := r2.length
      exact ⟨us, us[i]'(by omega), h2, List.getElem?_eq_getElem (by omega)⟩
    · obtain ⟨_, F', M', hS, e'⟩ := g
      obtain ⟨us, h2, r2⟩ := hS H e'
      exact ⟨us, h2, by rw [r2.length]; exact Nat.le_refl _⟩
    · obtain ⟨_, F', M', hS, e'⟩ := g
      obtain ⟨us, h2, r2⟩ := hS H e'
      obtain ⟨rfl, hy⟩ := y
      obtain ⟨d, hd, rd⟩ := r2.back (hy us h2)
      exact ⟨_, ⟨d, hd, rfl⟩, rd, .inl rfl⟩
theorem wi_rng1 {Ξ : PX} {te : TE} (h : We c te F δ M fun r F1 M1 => ∃ n : Nat, r = .im (.int (n : Int)) ∧ n ≤ 100000 ∧ Ξ n (fun i r => r = .im (.int (i : Int))) (fun _ _ => True) F1 M1) : Wi c (iRng1 (tCons te tNil)) F δ M Ξ := fun σ H Q e s q =>
  h σ H _ e s fun r F1 M1 v H1 p e1 s1 v1 => by
    obtain ⟨n, rfl, hn, hx⟩ := p
    cases rp_int v1
    refine ⟨(n : Int), rfl, by omega, by omega, ?_⟩
    rw [Int.toNat_natCast]
    refine q _ _ _ _ _ _ H1 hx e1 s1 ((walk_range (lo := 0) (n := n)).mono (fun _ _ => trivial) fun i H x H' hi g y => ?_)
    obtain ⟨rfl, rfl⟩ := y
    refine ⟨_, rfl, ?_, .inl rfl⟩
    show VOk c.K H' (RV.im (Dt.int (i : Int))) (V.int (0 + (i : Int)))
    rw [Int.zero_add]
    exact mk_int
theorem wi_rng2 {Ξ : PX} {te tu : TE} (h : We c te F δ M fun r F1 M1 => We c tu F1 δ M1 fun r2 F2 M2 => ∃ (lo : Int) (n : Nat), r = .im (.int lo) ∧ r2 = .im (.int (lo + n)) ∧ 0 ≤ lo ∧ lo ≤ 100000 ∧ n ≤ 100000 ∧ Ξ n (fun i r => r = .im (.int (lo + i))) (fun _ _ => True) F2 M2) : Wi c (iRng2 (tCons te (tCons tu tNil))) F δ M Ξ := fun σ H Q e s q =>
  h σ H _ e s fun r F1 M1 v H1 p e1 s1 v1 => p σ H1 _ e1 (s.tp (e.tp s1)) fun r2 F2 M2 v2 H2 p2 e2 s2 v2' => by
    obtain ⟨lo, n, rfl, rfl, h0, h1, hn, hx⟩ := p2
    cases rp_int v1
    cases rp_int v2'
    refine ⟨lo, lo + n, rfl, ⟨by omega, by omega, by omega, by omega⟩, ?_⟩
    have en : (lo + (n : Int) - lo).toNat = n := by omega
    rw [en]
    refine q _ _ _ _ _ _ H2 hx e2 (s1.trans s2) ((walk_range (lo := lo) (n := n)).mono (fun _ _ => trivial) fun i H x H' hi g y => ?_)
    obtain ⟨rfl, rfl⟩ := y
    exact ⟨_, rfl, mk_int, .inl rfl⟩
/-- zip of two tuples -/
theorem wi_zipt {Ξ : PX} {ta tb : TE} (h : We c ta F δ M fun r F1 M1 => We c tb F1 δ M1 fun r2 F2 M2 => ∃ xs ys, r = .im (.tup xs) ∧ r2 = .im (.tup ys) ∧ Ξ (min xs.length ys.length) (fun i r => ∃ x y, xs[i]? = some x ∧ ys[i]? = some y ∧ r = .im (.tup [x, y])) (fun _ _ => True) F2 M2) : Wi c (RZ.iZipA c.K (tCons ta (tCons tb tNil))) F δ M Ξ := fun σ H Q e s q =>
  h σ H _ e s fun r F1 M1 v H1 p e1 s1 v1 => p σ H1 _ e1 (s.tp (e.tp s1)) fun r2 F2 M2 v2 H2 p2 e2 s2 v2' => by
    obtain ⟨xs, ys, rfl, rfl, hx⟩ := p2
    obtain ⟨a, vs, rfl, h1, r1⟩ := rp_tup (v1.tp (e1.tp s2))
    obtain ⟨b, us, rfl, h2, r2⟩ := rp_tup v2'
    have l1 := r1.length
    have l2 := r2.length
    refine ⟨a, b, vs, us, rfl, .inr ⟨h1, h2, q _ _ _ _ _ _ H2 hx e2 (s1.trans s2) ⟨fun i H hi g => ?_, fun H g => ?_, fun i H x H' hi g y => ?_⟩⟩⟩
    · exact ⟨vs, us, vs[i]'(by omega), us[i]'(by omega), g.1 _ _ h1, g.1 _ _ h2, List.getElem?_eq_getElem (by omega), List.getElem?_eq_getElem (by omega)⟩
    · exact ⟨vs, us, g.1 _ _ h1, g.1 _ _ h2, by omega⟩
    · obtain ⟨T, y1, y2, rfl, hT, rfl, f1, f2⟩ := y
      obtain ⟨tpx, F', M', _, e'⟩ := g
      obtain ⟨d1, hd1, rd1⟩ := (RpL.tp tpx _ _ r1).back (f1 vs (tpx _ _ h1))
      obtain ⟨d2, hd2, rd2⟩ := (RpL.tp tpx _ _ r2).back (f2 us (tpx _ _ h2))
      have tn := e'.tp (Stay.new (o := .tup [y1, y2]) hT)
      exact ⟨_, ⟨d1, d2, hd1, hd2, rfl⟩, mk_tup (.inl (.inl upd_same)) (RpL.tp tn _ _ (rpl_cons rd1 (rpl_cons rd2 rpl_nil))), .inr ⟨T, _, hT, rfl⟩⟩
/-- zip of two lists -/
theorem wi_zipl {Ξ : PX} {ta tb : TE} (h : We c ta F δ M fun r F1 M1 => We c tb F1 δ M1 fun r2 F2 M2 => ∃ a b xs ys, r = .ad (.ref a) ∧ r2 = .ad (.ref b) ∧ Lk c F2 M2 a xs ∧ Lk c F2 M2 b ys ∧ Ξ (min xs.length ys.length) (fun i r => ∃ x y, xs[i]? = some x ∧ ys[i]? = some y ∧ r = .im (.tup [x, y])) (fun F' M' => Lk c F' M' a xs ∧ Lk c F' M' b ys) F2 M2) : Wi c (RZ.iZipA c.K (tCons ta (tCons tb tNil))) F δ M Ξ := fun σ H Q e s q =>
  h σ H _ e s fun r F1 M1 v H1 p e1 s1 v1 => p σ H1 _ e1 (s.tp (e.tp s1)) fun r2 F2 M2 v2 H2 p2 e2 s2 v2' => by
    obtain ⟨a, b, xs, ys, rfl, rfl, La, Lb, hx⟩ := p2
    have v1' : v = .ref a := v1
    subst v1'
    have v2'' : v2 = .ref b := v2'
    subst v2''
    obtain ⟨vs, h1, r1⟩ := La H2 e2
    obtain ⟨us, h2, r2⟩ := Lb H2 e2
    refine ⟨a, b, vs, us, rfl, .inl ⟨h1, h2, q _ _ _ _ _ _ H2 hx e2 (s1.trans s2) ⟨fun i H hi g => ?_, fun H g => ?_, fun i H x H' hi g y => ?_⟩⟩⟩
    · obtain ⟨_, F', M', ⟨La', Lb'⟩, e'⟩ := g
      obtain ⟨vs', h1', r1'⟩ := La' H e'
      obtain ⟨us', h2', r2'⟩ := Lb' H e'
      have l1 := r1'.length
      have l2 := r2'.length
      exact ⟨vs', us', vs'[i]'(by omega), us'[i]'(by omega), h1', h2', List.getElem?_eq_getElem (by omega), List.getElem?_eq_getElem (by omega)⟩
    · obtain ⟨_, F', M', ⟨La', Lb'⟩, e'⟩ := g
      obtain ⟨vs', h1', r1'⟩ := La' H e'
      obtain ⟨us', h2', r2'⟩ := Lb' H e'
      have l1 := r1'.length
      have l2 := r2'.length
      exact ⟨vs', us', h1', h2', by omega⟩
    · obtain ⟨T, y1, y2, rfl, hT, rfl, f1, f2⟩ := y
      obtain ⟨_, F', M', ⟨La', Lb'⟩, e'⟩ := g
      obtain ⟨vs', h1', r1'⟩ := La' H e'
      obtain ⟨us', h2', r2'⟩ := Lb' H e'
      obtain ⟨d1, hd1, rd1⟩ := r1'.back (f1 vs' h1')
      obtain ⟨d2, hd2, rd2⟩ := r2'.back (f2 us' h2')
      have tn := e'.tp (Stay.new (o := .tup [y1, y2]) hT)
      exact ⟨_, ⟨d1, d2, hd1, hd2, rfl⟩, mk_tup (.inl (.inl upd_same)) (RpL.tp tn _ _ (rpl_cons rd1 (rpl_cons rd2 rpl_nil))), .inr ⟨T, _, hT, rfl⟩⟩
/-! enumerate of a list or a tuple -/
def IteT (K : PySem.W.Frag) (a : Addr) : It :=
  ⟨fun i H => ∃ (xs : List V) (x : V), SqT K H a xs ∧ xs[i]? = some x, fun i H v H' => ∃ T x, v = .ref T ∧ H T = none ∧ H' = upd H T (.tup [.int (i : Nat), x]) ∧ ∀ xs, SqT K H a xs → xs[i]? = some x, fun i H => ∃ xs : List V, SqT K H a xs ∧ xs.length = i⟩
def iEnumU (K : PySem.W.Frag) (ta : TA) : TI := fun σ H R => ta σ H fun vs H1 => ∃ a xs, vs = [.ref a] ∧ ((SqL K H1 a xs ∧ R (Ite K a) H1) ∨ (SqT K H1 a xs ∧ R (IteT K a) H1))
theorem wi_enumt {Ξ : PX} {te : TE} (h : We c te F δ M fun r F1 M1 => ∃ xs, r = .im (.tup xs) ∧ Ξ xs.length (fun i r => ∃ d, xs[i]? = some d ∧ r = .im (.tup [.int (i : Int), d])) (fun _ _ => True) F1 M1) : Wi c (iEnumU c.K (tCons te tNil)) F δ M Ξ := fun σ H Q e s q =>
  h σ H _ e s fun r F1 M1 v H1 p e1 s1 v1 => by
    obtain ⟨xs, rfl, hx⟩ := p
    obtain ⟨a, vs, rfl, h1, r1⟩ := rp_tup v1
    have l1 := r1.length
    refine ⟨a, vs, rfl, .inr ⟨h1, q _ _ _ _ _ _ H1 hx e1 s1 ⟨fun i H hi g => ?_, fun H g => ?_, fun i H x H' hi g y => ?_⟩⟩⟩
    · exact ⟨vs, vs[i]'(by omega), g.1 _ _ h1, List.getElem?_eq_getElem (by omega)⟩
    · exact ⟨vs, g.1 _ _ h1, by omega⟩
    · obtain ⟨T, y1, rfl, hT, rfl, f1⟩ := y
      obtain ⟨tpx, F', M', _, e'⟩ := g
      obtain ⟨d1, hd1, rd1⟩ := (RpL.tp tpx _ _ r1).back (f1 vs (tpx _ _ h1))
      have tn := e'.tp (Stay.new (o := .tup [.int (i : Nat), y1]) hT)
      exact ⟨_, ⟨d1, hd1, rfl⟩, mk_tup (.inl (.inl upd_same)) (RpL.tp tn _ _ (rpl_cons mk_int (rpl_cons rd1 rpl_nil))), .inr ⟨T, _, hT, rfl⟩⟩
theorem wi_enuml {Ξ : PX} {te : TE} (h : We c te F δ M fun r F1 M1 => ∃ a xs, r = .ad (.ref a) ∧ Lk c F1 M1 a xs ∧ Ξ xs.length (fun i r => ∃ d, xs[i]? = some d ∧ r = .im (.tup [.int (i : Int), d])) (fun F' M' => Lk c F' M' a xs) F1 M1) : Wi c (iEnumU c.K (tCons te tNil)) F δ M Ξ := fun σ H Q e s q =>
  h σ H _ e s fun r F1 M1 v H1 p e1 s1 v1 => by
    obtain ⟨a, xs, rfl, La, hx⟩ := p
    have v1' : v = .ref a := v1
    subst v1'
    obtain ⟨vs, h1, r1⟩ := La H1 e1
    refine ⟨a, vs, rfl, .inl ⟨h1, q _ _ _ _ _ _ H1 hx e1 s1 ⟨fun i H hi g => ?_, fun H g => ?_, fun i H x H' hi g y => ?_⟩⟩⟩
    · obtain ⟨_, F', M', La', e'⟩ := g
      obtain ⟨vs', h1', r1'⟩ := La' H e'
      have l1 := r1'.length
      exact ⟨vs', vs'[i]'(by omega), h1', List.getElem?_eq_getElem (by omega)⟩
    · obtain ⟨_, F', M', La', e'⟩ := g
      obtain ⟨vs', h1', r1'⟩ := La' H e'
      exact ⟨vs', h1', by rw [r1'.length]; exact Nat.le_refl _⟩
    · obtain ⟨T, y1, rfl, hT, rfl, f1⟩ := y
      obtain ⟨_, F', M', La', e'⟩ := g
      obtain ⟨vs', h1', r1'⟩ := La' H e'
      obtain ⟨d1, hd1, rd1⟩ := r1'.back (f1 vs' h1')
      have tn := e'.tp (Stay.new (o := .tup [.int (i : Nat), y1]) hT)
      exact ⟨_, ⟨d1, hd1, rfl⟩, mk_tup (.inl (.inl upd_same)) (RpL.tp tn _ _ (rpl_cons mk_int (rpl_cons rd1 rpl_nil))), .inr ⟨T, _, hT, rfl⟩⟩
end
end TL

set_option autoImplicit true
set_option maxHeartbeats 200000
set_option maxRecDepth 512
set_option Elab.async false
set_option linter.all false
set_option maxRecDepth 100000
set_option maxHeartbeats 4000000
/-! promises and calls -/
namespace TL
open PySem PySem.Spec PyProof.Rows L2

/-- an argument as a def takes it -/
inductive AV where
  | im (x : Dt) | ls (ds : List Dt) | ob (v : V)
def AvOk (K : PySem.W.Frag) (H : Hp) : AV → V → Prop
  | .im x, v => Rp K H v x
  | .ls ds, v => ∃ a vs, v = .ref a ∧ SqL K H a vs ∧ RpL K H vs ds
  | .ob u, v => v = u
/-- what a def hands back -/
inductive BV where
  | im (x : Dt) | ls (ds : List Dt)
/-- a promise: for such arguments, all that was stays, and what is handed back is such -/
def spP (K : PySem.W.Frag) (pre : List AV → (BV → Prop) → Prop) : Sp := fun vs H Q _ => ∃ as post, Paired (AvOk K H) as vs ∧ pre as post ∧ (∀ x v H', post (.im x) → Same H H' → Rp K H' v x → Q v H') ∧
  (∀ ds a vs' H', post (.ls ds) → Same H H' → H a = none → H' a = some (.lst vs') → RpL K H' vs' ds → Q (.ref a) H')
def entR : List AV → (Nat → Addr) → List RV
  | [], _ => []
  | .im x :: as, f => .im x :: entR as fun i => f (i + 1)
  | .ls _ :: as, f => .ad (.ref (f 0)) :: entR as fun i => f (i + 1)
  | .ob v :: as, f => .ad v :: entR as fun i => f (i + 1)
def entM : List AV → (Nat → Addr) → Mem
  | [], _ => []
  | .im _ :: as, f => entM as fun i => f (i + 1)
  | .ls ds :: as, f => (f 0, ds) :: entM as fun i => f (i + 1)
  | .ob _ :: as, f => entM as fun i => f (i + 1)
theorem ent_ex {K : PySem.W.Frag} {H : Hp} : ∀ {as : List AV} {vs : List V}, Paired (AvOk K H) as vs → ∃ f, Paired (VOk K H) (entR as f) vs ∧ ∀ p ∈ entM as f, ∃ us, SqL K H p.1 us ∧ RpL K H us p.2
  | _, _, .nil => ⟨fun _ => 0, .nil, fun p hp => by cases hp⟩
  | .im x :: as, _, .cons a b => by
    obtain ⟨f, h1, h2⟩ := ent_ex b
    exact ⟨fun i => f (i - 1), .cons a h1, h2⟩
  | .ob x :: as, _, .cons a b => by
    obtain ⟨f, h1, h2⟩ := ent_ex b
    exact ⟨fun i => f (i - 1), .cons a h1, h2⟩
  | .ls ds :: as, _, .cons a b => by
    obtain ⟨f, h1, h2⟩ := ent_ex b
    obtain ⟨p, us, rfl, h3, h4⟩ := a
    refine ⟨fun i => match i with | 0 => p | i + 1 => f i, .cons rfl h1, fun q hq => ?_⟩
    rcases List.mem_cons.mp hq with rfl | hq
    · exact ⟨us, h3, h4⟩
    · exact h2 q hq
abbrev Tr : Fp := fun _ => True
/-- what a def's return has to be -/
def Rt (post : BV → Prop) : PR := fun r _ M => (∃ x, r = .im x ∧ post (.im x)) ∨ ∃ a ds, r = .ad (.ref a) ∧ (a, ds) ∈ M ∧ post (.ls ds)
abbrev cnP (K : PySem.W.Frag) (H : Hp) (R : Mem) : Cn := ⟨K, H, fun _ => False, R⟩
theorem paired_len {α β : Type} {R : α → β → Prop} {xs : List α} {ys : List β} (h : Paired R xs ys) : xs.length = ys.length := Paired.length h
theorem slots_start {K : PySem.W.Frag} {H : Hp} {rs : List RV} {vs : List V} {N : List Str} (h : Paired (VOk K H) rs vs) : Slots K H (rs.map some ++ List.replicate (N.length - rs.length) none) (L2.start N vs) := by
  have hl := paired_len h
  have key : ∀ {rs : List RV} {vs : List V}, Paired (VOk K H) rs vs → ∀ (i : Nat) (r : RV), (rs.map some)[i]? = some (some r) → ∃ v, (vs.map some)[i]? = some (some v) ∧ VOk K H r v := by
    intro rs vs h
    induction h with
    | nil => intro i r e; simp at e
    | cons a b ih =>
      intro i r e
      cases i with
      | zero => simp at e; subst e; exact ⟨_, rfl, a⟩
      | succ i => exact ih i r (by simpa using e)
  unfold L2.start
  refine ⟨by simp [hl], fun i r e => ?_⟩
  rw [List.getElem?_append] at e ⊢
  rw [List.length_map] at e ⊢
  by_cases hi : i < rs.length
  · rw [if_pos hi] at e
    rw [if_pos (by omega)]
    exact key h i r e
  · rw [if_neg hi] at e
    rw [List.getElem?_replicate] at e
    split at e <;> cases e
theorem spP_start {K : PySem.W.Frag} {pre : List AV → (BV → Prop) → Prop} {vs : List V} {H : Hp} {Q : VK} {E : XK} {t : TS} {N : List Str} (h : spP K pre vs H Q E)
    (k : ∀ as post f, pre as post → Ws (cnP K H (entM as f)) t Tr ((entR as f).map some ++ List.replicate (N.length - (entR as f).length) none) [] (fun _ _ _ => post (.im .non)) (Rt post)) : t { nx := fun _ H' => Q .non H', rt := Q } (L2.start N vs) H := by
  obtain ⟨as, post, ha, hp, q1, q2⟩ := h
  obtain ⟨f, h1, h2⟩ := ent_ex ha
  refine k as post f hp (L2.start N vs) H _ ⟨fun a o e _ => e, fun a b => b.elim, fun _ _ => trivial, fun p hp => (nomatch hp), List.nodup_nil, fun p hp => ⟨fun b => b, h2 p hp⟩⟩ (slots_start h1) (fun F' δ' M' σ' H' n e _ _ => ?_) (fun r F' M' v H' hr e hv => ?_)
  · exact q1 .non .non H' n (fun a o z => e.st a o z fun b => b) mk_non
  · rcases hr with ⟨x, rfl, hr⟩ | ⟨a, ds, rfl, hm, hr⟩
    · exact q1 x v H' hr (fun a o z => e.st a o z fun b => b) hv
    · obtain ⟨n0, us, hu, ru⟩ := e.mm _ hm
      have hv' : v = .ref a := hv
      subst hv'
      exact q2 ds a us H' hr (fun a o z => e.st a o z fun b => b) n0 hu ru
theorem spP_len {K : PySem.W.Frag} {pre : List AV → (BV → Prop) → Prop} {n : Nat} (h : ∀ as post, pre as post → as.length = n) : ∀ vs H Q E, spP K pre vs H Q E → vs.length = n := fun vs H Q E ⟨as, post, ha, hp, _⟩ => by
  rw [← h as post hp, paired_len ha]
/-- a symbolic value as an argument -/
inductive View (c : Cn) (F : Fp) (M : Mem) : RV → AV → Prop
  | im (x : Dt) : View c F M (.im x) (.im x)
  | ls {a : Addr} {ds : List Dt} (h : Lk c F M a ds) : View c F M (.ad (.ref a)) (.ls ds)
  | ob (v : V) : View c F M (.ad v) (.ob v)
section
variable {c : Cn} {F : Fp} {M : Mem} {δ : List (Option RV)} {Ψ : PR} {H H1 : Hp}
theorem View.ok {r : RV} {a : AV} {v : V} (w : View c F M r a) (e : HE c F M H) (h : VOk c.K H r v) : AvOk c.K H a v := by
  cases w with
  | im x => exact h
  | ls hL =>
    obtain ⟨vs, h1, h2⟩ := hL H e
    exact ⟨_, vs, h, h1, h2⟩
  | ob u => exact h
theorem View.oks : ∀ {rs : List RV} {as : List AV} {vs : List V}, Paired (View c F M) rs as → HE c F M H → Paired (VOk c.K H) rs vs → Paired (AvOk c.K H) as vs
  | _, _, _, .nil, _, .nil => .nil
  | _, _, _, .cons w ws, e, .cons h hs => .cons (w.ok e h) (View.oks ws e hs)
theorem HE.same (h : HE c F M H) (s : Same H H1) : HE c F M H1 ∧ Stay c H H1 := by
  have st : Stay c H H1 := fun a o e _ => s a o e
  have t := h.tp st
  have dom : ∀ a, c.H0 a ≠ none → H1 a = H a := fun a ha => by
    cases e : H a with
    | none => exact absurd (h.free e) ha
    | some o => rw [s a o e]
  refine ⟨⟨fun a o e b => s a o (h.st a o e b), fun a b => ⟨(h.bm a b).1, ?_⟩, fun H' z => h.fr H' fun a ha => (z a ha).trans (dom a ha), fun p hp => ?_, h.nd, h.rd⟩, st⟩
  · have n0 : c.H0 a ≠ none := h.n0 b
    rw [dom a n0]
    exact (h.bm a b).2
  · obtain ⟨a, vs, b, d⟩ := h.mm p hp
    exact ⟨a, vs, s _ _ b, RpL.tp t _ _ d⟩
@[reducible] def BV.on (b : BV) (p : Dt → Prop) (q : List Dt → Prop) : Prop := BV.casesOn (motive := fun _ => Prop) b p q
abbrev PrB (Ψ : PR) (F : Fp) (M : Mem) (b : BV) : Prop := b.on (fun x => Ψ (.im x) F M) fun ds => ∀ a, Ψ (.ad (.ref a)) F ((a, ds) :: M)
theorem we_call {pre : List AV → (BV → Prop) → Prop} {E : XK} {ta : TA} (h : Wa c ta F δ M fun rs F1 M1 => ∃ as, Paired (View c F1 M1) rs as ∧ pre as (PrB Ψ F1 M1)) : We c (tCall (spP c.K pre) [] E ta) F δ M Ψ := fun σ H Q e s q =>
  h σ H _ e s fun rs F1 M1 vs H1 p e1 s1 v1 => by
    obtain ⟨as, hv, hp⟩ := p
    refine ⟨as, _, by rw [List.append_nil]; exact View.oks hv e1 v1, hp, fun x v H' hx hs hr => ?_, fun ds a vs' H' hx hs ha hl hr => ?_⟩
    · obtain ⟨e2, s2⟩ := e1.same hs
      exact q _ F1 M1 v H' hx e2 (s1.trans s2) hr
    · obtain ⟨e2, s2⟩ := e1.same hs
      refine q _ F1 _ _ H' (hx a) (e2.adopt (fun q hq z => ?_) (e1.free ha) hl hr) (s1.trans s2) rfl
      obtain ⟨_, us, hu, _⟩ := e1.mm q hq
      rw [z, ha] at hu; cases hu
end
/-- a def of the text that keeps a promise, as its callers need it -/
structure Has (P : Program) (w : World) (K : PySem.W.Frag) (mg : Str → Option Value) (base : Heap) (k : Nat) (x : Str) (ps : List Str) (sp : Sp) : Prop where
  ex : ∃ f fd, FnOk P w K mg base CX0 k f fd ps sp ∧ mg x = some (.ref f) ∧ PySem.W.keepIn K (.ref f) = true ∧ Binds K fd ps []
theorem Has.pe {X : Cx} {k : Nat} {x : Str} {ps : List Str} {sp : Sp} (G : Has X.prog X.w X.K X.mg X.base k x ps sp) (hr : Room k X.A) {p pos : Pos} {e : Expr} {es : List Expr} {t : TA} (hg : Gl X x) (ha : PA X (e :: es) t) (hx : Passes CX0 X E0 := by exact pass0) (hdb : (x == ("__debug__" : Str)) = false := by decide)
    (he : starEach (e :: es) X.env = (false, eval e X.env) :: starEach es X.env := by rfl) (hpl : (backTo pos (starEach es X.env)).any (·.1) = false := by rfl) : PE X (.Call (.Name x p) (e :: es) [] pos) (tCall sp [] E0 t) := by
  obtain ⟨f, fd, FO, hm, hk, hb⟩ := G.ex
  exact pe_call FO hr hg hm hk hb .nil hx ha hdb he hpl
end TL

set_option autoImplicit true
set_option maxHeartbeats 200000
set_option maxRecDepth 512
set_option Elab.async false
set_option linter.all false
set_option maxRecDepth 100000
set_option maxHeartbeats 4000000
/-! what the defs lean on -/
namespace TL
open PySem PySem.Spec PyProof.Rows L2
theorem bb_len : bootBuiltins ("len" : Str) = some (.builtin "len") := by decide +kernel
theorem bb_abs : bootBuiltins ("abs" : Str) = some (.builtin "abs") := by decide +kernel
theorem bb_sum : bootBuiltins ("sum" : Str) = some (.builtin "sum") := by decide +kernel
theorem bb_max : bootBuiltins ("max" : Str) = some (.builtin "max") := by decide +kernel
theorem bb_min : bootBuiltins ("min" : Str) = some (.builtin "min") := by decide +kernel
theorem bb_all : bootBuiltins ("all" : Str) = some (.builtin "all") := by decide +kernel
theorem bb_isinstance : bootBuiltins ("isinstance" : Str) = some (.builtin "isinstance") := by decide +kernel
theorem bb_sorted : bootBuiltins ("sorted" : Str) = some (.builtin "sorted") := by decide +kernel
theorem bb_int : bootBuiltins ("int" : Str) = some (.type "int") := by decide +kernel
theorem bb_bool : bootBuiltins ("bool" : Str) = some (.type "bool") := by decide +kernel
theorem bb_tuple : bootBuiltins ("tuple" : Str) = some (.type "tuple") := by decide +kernel
theorem bb_list : bootBuiltins ("list" : Str) = some (.type "list") := by decide +kernel
/-- the built-in names are the built-ins -/
structure Tx (mg : Str → Option Value) : Prop where
  len_ : mg "len" = none
  range_ : mg "range" = none
  enumerate_ : mg "enumerate" = none
  tuple_ : mg "tuple" = none
  min_ : mg "min" = none
  max_ : mg "max" = none
  sum_ : mg "sum" = none
  abs_ : mg "abs" = none
  all_ : mg "all" = none
  int_ : mg "int" = none
  isinstance_ : mg "isinstance" = none
  bool_ : mg "bool" = none
  sorted_ : mg "sorted" = none
  list_ : mg "list" = none
  zip_ : mg "zip" = none
  mgMW : ∃ t, mg "MOST_WORLDS" = some (.int 200 t)
theorem _root_.L2.Room.u65 {k : Nat} {A : Around} (r : Room k A) : A.units + 65 < cLine := by have := r.un; omega
theorem mt_insertQ {X : Cx} : MtM X "list.insert" rInsert := mt_insert
theorem cxK {CX : CXT} {P : Program} {w : World} {K : PySem.W.Frag} {mg : Str → Option Value} {base : Heap} {N : List Str} {q : Str} {sc : Scope} {f : Addr} {cd : Value} {A : Around} {o : List Env} {s : Shared} {H : Hp} {E : XK} : ((cxOf CX P w K mg base N q sc f cd A o s H E).nox).K = K := rfl
theorem cxK2 {CX : CXT} {P : Program} {w : World} {K : PySem.W.Frag} {mg : Str → Option Value} {base : Heap} {N : List Str} {q : Str} {sc : Scope} {f : Addr} {cd : Value} {A : Around} {o : List Env} {s : Shared} {H : Hp} {E : XK} : ((cxOf CX P w K mg base N q sc f cd A o s H E)).K = K := rfl
/-- a def of the top -/
def Df (K : PySem.W.Frag) (mg : Str → Option Value) (x : Str) (st : Stmt) (ps : List Str) : Prop := ∃ f fd, FunD K x x (defArgs st) (defBody st) (defScope st) [] [] f fd ∧ mg x = some (.ref f) ∧ L2.Binds K fd ps []
/-- how a def is shown to keep a promise of data -/
theorem has_of {P : Program} {w : World} {K : PySem.W.Frag} {mg : Str → Option Value} {base : Heap} {k : Nat} {x qual : Str} {params : Arguments} {body : List Stmt} {scope : Scope} {f : Addr} {fd : FuncData} {N ps : List Str} {pre : List AV → (BV → Prop) → Prop}
    (F : FunD K x qual params body scope [] [] f fd) (hm : mg x = some (.ref f)) (S : FnScope N ps scope) (hb : Binds K fd ps []) (len : ∀ as post, pre as post → as.length = ps.length)
    (hbody : ∀ (cdv : Value) (A : Around) (outer : List Env) (s : Shared) (H : Hp) (E : XK), Room k (A.deeper (envOfC qual scope s.heap.objs.size f cdv)) →
      ∃ t, PSs (cxOf CX0 P w K mg base N qual scope f cdv A outer s H E).nox body t ∧ ∀ as post g, pre as post → Ws (cnP K H (entM as g)) t Tr ((entR as g).map some ++ List.replicate (N.length - (entR as g).length) none) [] (fun _ _ _ => post (.im .non)) (Rt post)) : Has P w K mg base (k + 1) x ps (spP K pre) := by
  refine ⟨f, fd, F.ok S (spP_len len) (fun cdv A outer s H vs Q E hr h => ?_), hm, F.kp, hb⟩
  obtain ⟨t, ht, hw⟩ := hbody cdv A outer s H E hr
  exact ⟨t, ht.nox, spP_start h hw⟩
end TL

set_option autoImplicit true
set_option maxHeartbeats 200000
set_option maxRecDepth 512
set_option Elab.async false
set_option linter.all false
set_option maxRecDepth 100000
set_option maxHeartbeats 4000000
/-! nets as data -/
namespace TL
open PySem PySem.Spec PyProof.Rows L2
structure Rd where
  a : Nat
  b : Nat
  v : Int
structure Net where
  names : List Str
  rs : List Rd
@[reducible] def rdD (r : Rd) : Dt := .tup [.int r.a, .int r.b, .int r.v]
@[reducible] def netD (n : Net) : Dt := .tup [.str "net", .tup (n.names.map Dt.str), .tup (n.rs.map rdD)]


structure Net.ok (n : Net) : Prop where
  n1 : 1 ≤ n.names.length
  n2 : n.names.length ≤ 100
  m2 : n.rs.length ≤ 1000
  a : ∀ r ∈ n.rs, r.a < n.names.length
  b : ∀ r ∈ n.rs, r.b < n.names.length
  ne : ∀ r ∈ n.rs, r.a ≠ r.b
def Net.rd (n : Net) (i : Nat) : Rd := n.rs.getD i ⟨0, 0, 0⟩
theorem Net.get {n : Net} {i : Nat} (h : i < n.rs.length) : n.rs[i]? = some (n.rd i) := by
  unfold Net.rd
  rw [List.getD_eq_getElem?_getD, List.getElem?_eq_getElem h]; rfl
theorem rds_get {n : Net} {i : Nat} {d : Dt} (h : (n.rs.map rdD)[i]? = some d) : i < n.rs.length ∧ d = rdD (n.rd i) := by
  have hi : i < n.rs.length := by
    have := (List.getElem?_eq_some_iff.mp h).1
    simpa using this
  rw [List.getElem?_map, Net.get hi] at h
  exact ⟨hi, (Option.some.inj h).symm⟩
/-- the ints of a list of places -/
def natD (l : List Nat) : List Dt := l.map fun i : Nat => Dt.int (i : Int)
theorem natD_ints (l : List Nat) : natD l = (l.map fun i : Nat => (i : Int)).map Dt.int := by
  unfold natD
  rw [List.map_map]; rfl
theorem natD_len (l : List Nat) : (natD l).length = l.length := by unfold natD; rw [List.length_map]
/-- the places below n at which p holds -/
def ixs (n : Nat) (p : Nat → Bool) : List Nat := (List.range n).filter p
theorem ixs_yes {n : Nat} {p : Nat → Bool} (h : p n = true) : ixs (n + 1) p = ixs n p ++ [n] := by
  unfold ixs
  rw [List.range_succ, List.filter_append, List.filter_cons, if_pos h] <;> rfl
theorem ixs_no {n : Nat} {p : Nat → Bool} (h : p n = false) : ixs (n + 1) p = ixs n p := by
  unfold ixs
  rw [List.range_succ, List.filter_append, List.filter_cons, if_neg (by rw [h]; decide)]
  show _ ++ [] = _
  rw [List.append_nil]
theorem ixs_len (n : Nat) (p : Nat → Bool) : (ixs n p).length ≤ n := by
  unfold ixs
  have h := List.length_filter_le p (List.range n)
  rw [List.length_range] at h
  exact h
theorem mem_ixs {n : Nat} {p : Nat → Bool} {i : Nat} : i ∈ ixs n p ↔ i < n ∧ p i = true := by
  unfold ixs
  rw [List.mem_filter, List.mem_range]
theorem at_int {h : List Int} {i : Nat} (hi : i < h.length) : atI (h.map Dt.int) (i : Int) = some (.int (h.getD i 0)) := by
  refine L2.atI_nat ?_
  rw [List.getElem?_map, List.getElem?_eq_getElem hi, List.getD_eq_getElem?_getD, List.getElem?_eq_getElem hi]; rfl
theorem at_rd {n : Net} {i : Nat} (hi : i < n.rs.length) : atI (n.rs.map rdD) (i : Int) = some (rdD (n.rd i)) := by
  refine L2.atI_nat ?_
  rw [List.getElem?_map, Net.get hi]; rfl
theorem Net.mem {n : Net} {i : Nat} (h : i < n.rs.length) : n.rd i ∈ n.rs := List.mem_of_getElem? (Net.get h)
theorem Net.ok.ai {n : Net} (ok : n.ok) {i : Nat} (h : i < n.rs.length) : (n.rd i).a < n.names.length := ok.a _ (Net.mem h)
theorem Net.ok.bi {n : Net} (ok : n.ok) {i : Nat} (h : i < n.rs.length) : (n.rd i).b < n.names.length := ok.b _ (Net.mem h)
theorem Net.ok.nei {n : Net} (ok : n.ok) {i : Nat} (h : i < n.rs.length) : (n.rd i).a ≠ (n.rd i).b := ok.ne _ (Net.mem h)
/-- the miss of a reading by heights -/
def missR (r : Rd) (h : List Int) : Int := r.v - h.getD r.b 0 + h.getD r.a 0
def Net.miss (n : Net) (h : List Int) (i : Nat) : Int := missR (n.rd i) h
theorem ixs_all {n : Nat} : ixs n (fun _ => true) = List.range n := by
  unfold ixs
  exact List.filter_eq_self.mpr fun _ _ => rfl
/-- ints, one for each reading -/
def Net.row (n : Net) (f : Nat → Int) : List Int := (List.range n.rs.length).map f
theorem row_len {n : Net} {f : Nat → Int} : (n.row f).length = n.rs.length := by unfold Net.row; simp
theorem row_get {n : Net} {f : Nat → Int} {i : Nat} (h : i < n.rs.length) : (n.row f).getD i 0 = f i := by
  unfold Net.row
  rw [List.getD_eq_getElem?_getD, List.getElem?_map, List.getElem?_range h]; rfl
theorem row_map {n : Net} {f : Nat → Int} : (n.row f).map Dt.int = (List.range n.rs.length).map fun i => Dt.int (f i) := by
  unfold Net.row
  rw [List.map_map]; rfl
def absI (x : Int) : Int := if x < 0 then -x else x
def Net.cost (n : Net) (h : List Int) : Int := (n.row fun i => absI (n.miss h i)).sum
def Net.lie (n : Net) (h : List Int) (i : Nat) : Bool := !decide (n.miss h i = 0)
/-- what f brings to v over the first k readings, less what it takes -/
def ex (n : Net) (f : Nat → Int) : Nat → Nat → Int
  | 0, _ => 0
  | k + 1, v => ex n f k v - (if (n.rd k).a = v then f k else 0) + (if (n.rd k).b = v then f k else 0)
def exL (n : Net) (f : Nat → Int) (k : Nat) : List Int := (List.range n.names.length).map (ex n f k)
theorem exL_len {n : Net} {f : Nat → Int} {k : Nat} : (exL n f k).length = n.names.length := by unfold exL; simp
theorem exL_get {n : Net} {f : Nat → Int} {k v : Nat} (h : v < n.names.length) : (exL n f k).getD v 0 = ex n f k v := by
  unfold exL
  rw [List.getD_eq_getElem?_getD, List.getElem?_map, List.getElem?_range h]; rfl
theorem exL_step {n : Net} (ok : n.ok) {f : Nat → Int} {k : Nat} (hk : k < n.rs.length) :
    ((exL n f k).set (n.rd k).a (ex n f k (n.rd k).a - f k)).set (n.rd k).b (ex n f k (n.rd k).b + f k) = exL n f (k + 1) := by
  have ha := ok.ai hk
  have hb := ok.bi hk
  have hne := ok.nei hk
  refine List.ext_getElem? fun v => ?_
  by_cases hv : v < n.names.length
  · have e2 : (exL n f (k + 1))[v]? = some (ex n f (k + 1) v) := by
      unfold exL
      rw [List.getElem?_map, List.getElem?_range hv]; rfl
    have e1 : (exL n f k)[v]? = some (ex n f k v) := by
      unfold exL
      rw [List.getElem?_map, List.getElem?_range hv]; rfl
    rw [e2]
    by_cases vb : (n.rd k).b = v
    · rw [← vb, List.getElem?_set_self (by rw [List.length_set, exL_len]; exact hb), ex, if_neg hne, if_pos rfl]
      congr 1
      omega
    · rw [List.getElem?_set_ne vb]
      by_cases va : (n.rd k).a = v
      · rw [← va, List.getElem?_set_self (by rw [exL_len]; exact ha), ex, if_pos rfl, if_neg (fun z => hne z.symm)]
        congr 1
        omega
      · rw [List.getElem?_set_ne va, e1, ex, if_neg va, if_neg vb]
        congr 1
        omega
  · rw [List.getElem?_eq_none (by rw [List.length_set, List.length_set, exL_len]; omega), List.getElem?_eq_none (by rw [exL_len]; omega)]
theorem getD_set_ne {l : List Int} {i j : Nat} {x : Int} (h : i ≠ j) : (l.set i x).getD j 0 = l.getD j 0 := by
  rw [List.getD_eq_getElem?_getD, List.getElem?_set_ne h, ← List.getD_eq_getElem?_getD]
theorem getD_set_self {l : List Int} {i : Nat} {x : Int} (h : i < l.length) : (l.set i x).getD i 0 = x := by
  rw [List.getD_eq_getElem?_getD, List.getElem?_set_self h]; rfl
theorem exL_step2 {n : Net} (ok : n.ok) {f : Nat → Int} {k : Nat} {x : Int} (hk : k < n.rs.length) (hx : x = f k) :
    ((exL n f k).set (n.rd k).a ((exL n f k).getD (n.rd k).a 0 - x)).set (n.rd k).b (((exL n f k).set (n.rd k).a ((exL n f k).getD (n.rd k).a 0 - x)).getD (n.rd k).b 0 + x) = exL n f (k + 1) := by
  subst hx
  rw [getD_set_ne (ok.nei hk), exL_get (ok.ai hk), exL_get (ok.bi hk)]
  exact exL_step ok hk
theorem exL_zero {n : Net} {f : Nat → Int} : List.replicate n.names.length (Dt.int 0) = (exL n f 0).map Dt.int := by
  refine List.ext_getElem? fun i => ?_
  unfold exL
  rw [List.getElem?_replicate, List.map_map, List.getElem?_map]
  by_cases h : i < n.names.length
  · rw [if_pos h, List.getElem?_range h]; rfl
  · rw [if_neg h, List.getElem?_eq_none (by simp; omega)]; rfl
/-- a row of ints as a function -/
def fn (f : List Int) : Nat → Int := fun i => f.getD i 0
def evenF (n : Net) (f : Nat → Int) : Prop := ∀ v, v < n.names.length → ex n f n.rs.length v = 0
def worthF (n : Net) (f : Nat → Int) : Int := (n.row fun i => (n.rd i).v * f i).sum
end TL

set_option autoImplicit true
set_option maxHeartbeats 200000
set_option maxRecDepth 512
set_option Elab.async false
set_option linter.all false
set_option maxRecDepth 100000
set_option maxHeartbeats 4000000
/-! rules that the layer lacked: enumerate of a tuple, tuple * int for any int, min of a list of data -/
namespace TL
open PySem PySem.Spec PyProof.Rows L2
open PySem.AutoSeq1 (wpAny_loadPart')

theorem meets_enumerate_newT (l : Addr) (items : Array Value) (n : Nat) (dct : Option Addr) (sl : Array (Option Value)) :
    Meets (Builtin.«enumerate.__new__» ⟨[.type "enumerate", .ref l], []⟩) (fun _ R s => s.heap.get? l = some { cls := .type "tuple", dict := dct, data := .seq items n, slots := sl } ∧
      R (.ok (.ret (.ref (s.heap.push { cls := .type "tuple_iterator", data := .fields #[.ref l, .int 0 0] }).objs.size)))
        { s with heap := (s.heap.push { cls := .type "tuple_iterator", data := .fields #[.ref l, .int 0 0] }).push { cls := .type "enumerate", data := .fields #[.none, .bool false, .ref s.heap.objs.size, rawInt 0, .none, .none] } }) :=
  .of_wp fun prog w A R s h => by
    obtain ⟨hp, g, d, tk, os⟩ := s; obtain ⟨hl, h⟩ := h
    have hsub := PySem.sub_enumerate
    have hL : Heap.IsTuple (Shared.heap ⟨hp, g, d, tk, os⟩) l items := ⟨_, hl, rfl, n, rfl⟩
    wp_walk using wpAny_loadPart' hl
    refine wpAny_stack_any fun st => wpAny_pure ?_
    split
    · rename_i c _ _ _ _ _
      cases (c == Value.type "enumerate")
      · wp_walk using wpAny_loadPart' hl, wpAny_pyIter_tuple hL
        exact ⟨_, rfl, h⟩
      · wp_walk using wpAny_loadPart' hl, wpAny_pyIter_tuple hL
        exact ⟨_, rfl, h⟩
    · wp_walk using wpAny_loadPart' hl, wpAny_pyIter_tuple hL
      exact ⟨_, rfl, h⟩
section
variable {prog : Program} {w : World} {A : Around} {E : Value → Shared → Prop} {s : Shared}
theorem call_enumerate_tuple {l : Addr} {items : Array Value} {Q : Value → Shared → Prop} (hL : s.heap.IsTuple l items)
    (h : ∀ h', IsEnum h' (s.heap.objs.size + 1) s.heap.objs.size 0 .none → h'.IsTupleIter s.heap.objs.size l 0 → h'.objs.size = s.heap.objs.size + 2 →
      (∀ b o, s.heap.get? b = some o → h'.get? b = some o) → Q (.ref (s.heap.objs.size + 1)) { s with heap := h' }) :
    wpAny (model prog w) A (call (.type "enumerate") [.ref l]) Q E s := by
  obtain ⟨⟨c, dct, dt, sl⟩, hl, hc, n, hd⟩ := hL
  replace hc : c = .type "tuple" := hc
  replace hd : dt = .seq items n := hd
  subst hc hd
  refine callType_new F.called_enumerate (by decide) (F.typeCall_enumerate_1 _) (F.newCall_enumerate_1 _) (fun obj => F.args_object_init_2 obj _) F.entry_enumerate_new
    (meets_enumerate_newT l items n dct sl) ⟨hl, ?_⟩
  have hz : (s.heap.push { cls := .type "tuple_iterator", data := .fields #[.ref l, .int 0 0] }).objs.size = s.heap.objs.size + 1 := Heap.size_push ..
  show _ ∧ _
  rw [hz]
  have he : IsEnum ((s.heap.push { cls := .type "tuple_iterator", data := .fields #[.ref l, .int 0 0] }).push
      { cls := .type "enumerate", data := .fields #[.none, .bool false, .ref s.heap.objs.size, rawInt 0, .none, .none] }) (s.heap.objs.size + 1) s.heap.objs.size 0 .none := by
    have := Heap.get?_push_size (s.heap.push { cls := .type "tuple_iterator", data := .fields #[.ref l, .int 0 0] })
      (o := { cls := .type "enumerate", data := .fields #[.none, .bool false, .ref s.heap.objs.size, rawInt 0, .none, .none] }) rfl
    rw [hz] at this; exact this
  refine ⟨⟨_, he, rfl⟩, h _ he ⟨_, Heap.get?_push_of_some _ (Heap.get?_push_size _ rfl), rfl, rfl⟩ (by rw [Heap.size_push, hz]) fun b o x => Heap.get?_push_of_some _ (Heap.get?_push_of_some _ x)⟩
end
theorem turn_enumT {P : Program} {w : World} {K : PySem.W.Frag} {elts : List Expr} {kk : Nat} {tpos : Pos} (a e it : Addr) :
    Turn P w K (.Tuple elts kk tpos) (IteT K a) [e, it] e (fun i h => (∃ old, IsEnum h e it ((i : Nat) : Int) old) ∧ h.IsTupleIter it a i ∧ e ≠ it ∧ a ≠ it ∧ a ≠ e) where
  mem := by simp
  obj := fun i h st b hb => by
    obtain ⟨⟨old, he⟩, ⟨o, ho, hc, hd⟩, _⟩ := st
    have e' : b = e ∨ b = it := by simpa using hb
    rcases e' with z | z
    · rw [z]; exact ⟨_, he, fun v q => nomatch q⟩
    · rw [z]; exact ⟨o, ho, fun v q => by rw [hd] at q; cases q⟩
  keep := fun i h h' st k => let ⟨⟨old, he⟩, hi, hne⟩ := st; ⟨⟨old, k e (by simp) _ he⟩, hi.at fun o q => k it (by simp) o q, hne⟩
  item := by
    intro X hP hw hK hc i pins s σ H E I hf st hg
    subst hP hw hK
    obtain ⟨⟨old, he⟩, hit, hne, hai, hae⟩ := st
    obtain ⟨xs, x, hq, hx⟩ := hg
    obtain ⟨its, rv, p, hz⟩ := I.tuple hq
    obtain ⟨u, hu, ru⟩ := rv.get hx
    have hu' : its.toArray[i]? = some u := by simpa using hu
    have hel : e < s.heap.objs.size := Heap.lt_size he
    have hil : it < s.heap.objs.size := by obtain ⟨_, q, _⟩ := hit; exact Heap.lt_size q
    have hi : i < its.toArray.size := by
      have := (Array.getElem?_eq_some_iff.mp hu').1
      exact this
    refine PySem.wpAny_pyNext_enum_itemC (Draws.tuple (A := X.A.in1) (I.ok.hd hc) it a hai its.toArray) he ⟨hit, p⟩ hi hne (fun hm => ?_) fun x' h' tk hP ho hs' hT hsz hk => ?_
    · rcases List.mem_cons.mp hm with z | hm
      · exact hne z
      · exact hae (List.mem_singleton.mp hm).symm
    obtain ⟨hit', _⟩ := hs'
    have ex : x' = u := Option.some.inj (hP.symm.trans hu')
    subst ex
    refine ⟨_, rfl, wpAny_letOwnedTupleGo_enum (s := { s with heap := h', toks := tk + 1 }) ho fun h'' he' sb => ?_⟩
    have hT2 : h''.get? s.heap.objs.size = some { cls := .type "tuple", data := .seq #[.int i tk, x'] } := (sb.2 _ (Nat.ne_of_gt hel)).trans hT
    have new : ObjOk X.prog X.w (upd H s.heap.objs.size (.tup [.int (i : Nat), x])) h'' s.heap.objs.size (.tup [.int (i : Nat), x]) :=
      ⟨by show 2 ≤ sizeLine; decide, [.int i tk, x'], .cons ⟨_, rfl⟩ (.cons ru .nil), ⟨_, hT2, rfl, _, rfl⟩⟩
    have I1 : Inv X pins σ (upd H s.heap.objs.size (.tup [.int (i : Nat), x])) { s with heap := h'', toks := tk + 1 } :=
      I.turnedNew (ch := [e, it]) (fun b ob hb q => (sb.2 b (fun z => hb (by simp [z]))).trans (hk b ob (fun z => hb (by simp [z])) (fun z => hb (by simp [z])) q)) hf (Nat.le_refl _) new
    refine ⟨.ref s.heap.objs.size, _, I1, rfl, ⟨_, x, rfl, I.hok.fresh (Nat.le_refl _), rfl, fun ys hy => by rw [I.tuple_inj hy hq]; exact hx⟩, ⟨⟨x', ?_⟩, hit'.at fun o q => (sb.2 it (Ne.symm hne)).trans q, hne, hai, hae⟩, fun b hb => ?_⟩
    · have e1 : ((i + 1 : Nat) : Int) = (i : Int) + 1 := by omega
      rw [e1]; exact he'
    · have hb' : b < s.heap.objs.size := by
        have e' : b = e ∨ b = it := by simpa using hb
        rcases e' with z | z
        · rw [z]; exact hel
        · rw [z]; exact hil
      rw [upd_ne (Nat.ne_of_lt hb')]
      exact (hf b hb).1
  done := by
    intro X hP hw hK hc i pins s σ H E I hf st hg
    subst hP hw hK
    obtain ⟨⟨old, he⟩, hit, hne, hai, hae⟩ := st
    obtain ⟨xs, hq, hx⟩ := hg
    obtain ⟨its, rv, p, hz⟩ := I.tuple hq
    have hl := rv.length
    obtain ⟨f0, f1, f2, f3, f4, f5⟩ := hf it (by simp)
    have hn : its.toArray.size = i := by simp; omega
    refine PySem.wpAny_pyNext_enum_endD (i := ((i : Nat) : Int)) (Draws.tuple (A := X.A.in1) (I.ok.hd hc) it a hai its.toArray) he ?_ fun h' eb => ⟨rfl, I.turned (t' := s.toks) (fun b o hb q => eb b o hb q) f0 f1 f3 f4 f5⟩
    rw [hn]
    exact ⟨hit, p⟩
  self := fun A i s Q E st h => let ⟨⟨_, he⟩, _⟩ := st; wpAny_pyIter_enum he h
theorem pi_enumU {X : Cx} {e : Expr} {ta : TA} {p pos tpos : Pos} {elts : List Expr} {kk : Nat} (hg : Gl X "enumerate") (hm : X.mg "enumerate" = none) (ha : PA X [e] ta) (hs : starEach [e] X.env = [(false, eval e X.env)] := by rfl) :
    PI X (.Tuple elts kk tpos) (.Call (.Name "enumerate" p) [e] [] pos) (iEnumU X.K ta) := by
  refine ⟨fun pins s σ H R I h => ?_⟩
  refine Call_ (ld_blt I hg hm boot_enumerate (PyProof.Rows.callWith_type1 (thn (ha.run pos pins s σ H _ I h) fun us s1 ⟨vs, H1, I1, r1, q1⟩ => ?_) hs rfl))
  obtain ⟨a, xs, rfl, q⟩ := q1
  cases r1 with
  | cons r rr =>
    cases rr
    cases r
    have fresh : ∀ b ∈ [s1.heap.objs.size + 1, s1.heap.objs.size], FpOk X pins H1 b := fun b hb => by
      have e' : b = s1.heap.objs.size + 1 ∨ b = s1.heap.objs.size := by simpa using hb
      have hle : s1.heap.objs.size ≤ b := by
        rcases e' with z | z
        · rw [z]; exact Nat.le_add_right _ _
        · rw [z]; exact Nat.le_refl _
      exact I1.fpOk hle (I1.hok.fresh hle)
    rcases q with ⟨hq, q⟩ | ⟨hq, q⟩
    · obtain ⟨its, rv, p', hz⟩ := I1.list hq
      refine call_enumerate_list p'.isList fun h' he hit hsz hk => wpAny_pyIter_enum he ?_
      have I2 : Inv X pins σ H1 { s1 with heap := h' } := I1.kept (t' := s1.toks) hk
      exact ⟨s1.heap.objs.size + 1, [s1.heap.objs.size + 1, s1.heap.objs.size], _, _, H1, rfl, I2, turn_enum a (s1.heap.objs.size + 1) s1.heap.objs.size, ⟨⟨.none, he⟩, hit, Nat.succ_ne_self _⟩, fresh, q⟩
    · obtain ⟨its, rv, p', hz⟩ := I1.tuple hq
      obtain ⟨o1, ho1, _⟩ := id p'
      have hlt := Heap.lt_size ho1
      refine call_enumerate_tuple (show s1.heap.IsTuple a its.toArray from p') fun h' he hit hsz hk => wpAny_pyIter_enum he ?_
      have I2 : Inv X pins σ H1 { s1 with heap := h' } := I1.kept (t' := s1.toks) hk
      exact ⟨s1.heap.objs.size + 1, [s1.heap.objs.size + 1, s1.heap.objs.size], _, _, H1, rfl, I2, turn_enumT a (s1.heap.objs.size + 1) s1.heap.objs.size, ⟨⟨.none, he⟩, hit, Nat.succ_ne_self _, Nat.ne_of_lt hlt, Nat.ne_of_lt (Nat.lt_succ_of_lt hlt)⟩, fresh, q⟩
/-! tuple * int -/
theorem tuple_mul1 (l : Addr) (items : Array Value) (n : Nat) (dd : Option Addr) (sl : Array (Option Value)) (u : Tok) :
    Meets (Builtin.«tuple.__mul__» ⟨[.ref l, .int 1 u], []⟩) (fun _ R s => s.heap.get? l = some { cls := .type "tuple", dict := dd, data := .seq items n, slots := sl } ∧ R (.ok (.ret (Value.ref l))) s) :=
  .of_wp fun prog w A R s h => by
    obtain ⟨hp, g, d, tk, os⟩ := s
    obtain ⟨hl, h⟩ := h
    have f1 := AutoSeq1.idx_int
    have hT : Heap.IsTuple (Shared.heap ⟨hp, g, d, tk, os⟩) l items := ⟨_, hl, rfl, n, rfl⟩
    wp_walk using wpAny_loadPart' hl
    exact ⟨_, rfl, h⟩
theorem tuple_mul0 (l : Addr) (items : Array Value) (n : Nat) (dd : Option Addr) (sl : Array (Option Value)) (x : Int) (u : Tok) (c0 : (decide (x < -(2 ^ 63)) || decide (x ≥ 2 ^ 63)) = false) (c1 : (items.isEmpty || x == 1) = false) (c2 : (decide (x ≤ 0) || items.isEmpty) = true) :
    Meets (Builtin.«tuple.__mul__» ⟨[.ref l, .int x u], []⟩) (fun _ R s => s.heap.get? l = some { cls := .type "tuple", dict := dd, data := .seq items n, slots := sl } ∧
      R (.ok (.ret (Value.ref s.heap.objs.size))) { s with heap := s.heap.push { cls := Value.type "tuple", data := Data.seq #[] }, toks := s.toks }) :=
  .of_wp fun prog w A R s h => by
    obtain ⟨hp, g, d, tk, os⟩ := s
    obtain ⟨hl, h⟩ := h
    have f1 := AutoSeq1.idx_int
    wp_walk using wpAny_loadPart' hl
    repeat (first
      | (refine wpAny_ite_false (decide_eq_false (by rw [c0]; exact Bool.false_ne_true)) ?_; wp_walk using wpAny_loadPart' hl)
      | (refine wpAny_ite_false (decide_eq_false (by rw [c1]; exact Bool.false_ne_true)) ?_; wp_walk using wpAny_loadPart' hl))
    exact ⟨_, rfl, h⟩
def rRepA (K : PySem.W.Frag) : R2 := fun x y H Q => ∃ l xs, ∃ k : Nat, x = .ref l ∧ y = .int (k : Int) ∧ SqT K H l xs ∧ xs ≠ [] ∧ k ≤ 1000 ∧ xs.length ≤ 1000 ∧ (k = 1 → Q (.ref l) H) ∧ (k ≠ 1 → ∀ p, H p = none → Q (.ref p) (upd H p (.tup (List.replicate k xs).flatten)))
section
variable {X : Cx}
theorem op_repA : OpR X (binaryOp .Mult) (rRepA X.K) := by
  intro pins s σ H x y v u Q I rx ry h
  obtain ⟨l, xs, k, rfl, rfl, hT, hne, h2, hz, q1, q2⟩ := h
  by_cases hk2 : 2 ≤ k
  · refine op_repT pins s σ H _ _ v u Q I rx ry ⟨l, (k : Int), xs, rfl, rfl, hT, hne, by omega, by omega, hz, fun p hp => ?_⟩
    rw [Int.toNat_natCast]
    exact q2 (by omega) p hp
  · cases rx
    obtain ⟨t, rfl⟩ := ry
    obtain ⟨its, r, ⟨⟨cls, dd, data, sl⟩, ho, hc, n, hd⟩, hs⟩ := I.tuple hT
    simp only at hc hd
    subst hc hd
    have hle : its.length = xs.length := r.length.symm
    have hn : its ≠ [] := fun e => hne (by
      rw [e] at hle
      exact List.eq_nil_of_length_eq_zero hle.symm)
    have hi : its.toArray.isEmpty = false := by
      cases its with
      | nil => exact absurd rfl hn
      | cons a b => rfl
    by_cases h1 : k = 1
    · subst h1
      refine wpAny_binaryOp_repeat_ref (T := "tuple") (U := "int") (by decide) ⟨_, ho, rfl⟩ (fun s' => typeIs_int s' _ t) noFill_tuple_mul F.fills_int_mul F.slot_int_rmul repeat_tuple F.slot_int_index.lookup
        (call_meets F.slot_int_rmul (typeIs_int s _ t) F.entry_int_rmul (F.args_int_rmul_2 _ _) (int_rmul_tuple _ t l its.toArray n dd sl)
          ⟨ho, rfl, ⟨_, ho, rfl⟩, call_meets F.slot_tuple_mul ⟨_, ho, rfl⟩ F.entry_tuple_mul (F.args_tuple_mul_2 _ _) (tuple_mul1 l its.toArray n dd sl t) ⟨ho, ?_⟩⟩)
      exact ⟨.ref l, H, I, rfl, q1 rfl⟩
    · have h0 : k = 0 := by omega
      subst h0
      refine wpAny_binaryOp_repeat_ref (T := "tuple") (U := "int") (by decide) ⟨_, ho, rfl⟩ (fun s' => typeIs_int s' _ t) noFill_tuple_mul F.fills_int_mul F.slot_int_rmul repeat_tuple F.slot_int_index.lookup
        (call_meets F.slot_int_rmul (typeIs_int s _ t) F.entry_int_rmul (F.args_int_rmul_2 _ _) (int_rmul_tuple _ t l its.toArray n dd sl)
          ⟨ho, rfl, ⟨_, ho, rfl⟩, call_meets F.slot_tuple_mul ⟨_, ho, rfl⟩ F.entry_tuple_mul (F.args_tuple_mul_2 _ _) (tuple_mul0 l its.toArray n dd sl _ t (by decide) (by rw [hi]; rfl) (by rfl)) ⟨ho, ?_⟩⟩)
      refine ⟨.ref s.heap.objs.size, _, I.laid (t' := s.toks) (o := .tup (List.replicate 0 xs).flatten) (fun b ob q => Heap.get?_push_of_some _ q) (Nat.le_refl _) ?_, rfl, q2 (by decide) _ (I.hok.fresh (Nat.le_refl _))⟩
      exact ⟨by show 0 ≤ sizeLine; decide, [], .nil, IsTup.new _ _⟩
end
theorem rr_rept {c : Cn} {F : Fp} {M : Mem} {Ψ : PR} {xs : List Dt} {j : Int} {n : Nat} (hj : j = (n : Int)) (hn : n ≤ 1000) (h0 : xs ≠ []) (hl : xs.length ≤ 1000) (k : Ψ (.im (.tup (List.replicate n xs).flatten)) F M) : Rr c (rMulU c.K (rRepA c.K)) (.im (.tup xs)) (.im (.int j)) F M Ψ := fun H Q v u e p q f => by
  obtain ⟨a, vs, rfl, h1, r1⟩ := rp_tup p
  subst hj
  have hlen := r1.length
  refine .inr (.inr ⟨a, vs, n, rfl, rp_int q, h1, fun z => h0 (List.eq_nil_of_length_eq_zero (by rw [← hlen, z]; rfl)), hn, by omega, fun z => ?_, fun z m hm => ?_⟩)
  · subst z
    refine f _ _ _ _ _ k e Stay.refl ?_
    have e1 : (List.replicate 1 xs).flatten = xs := by simp
    rw [e1]; exact p
  · exact f _ _ _ _ _ k (e.alloc hm) (Stay.new hm) (mk_tup (.inl (.inl upd_same)) (RpL.tp (e.tp (Stay.new hm)) _ _ (r1.flatten_rep n)))
/-! min of a list of pairs of ints -/
@[reducible] def pD (p : Int × Int) : Dt := .tup [.int p.1, .int p.2]
def pP (p : Int × Int) : PyData := .tuple [.int p.1, .int p.2]
theorem pD_d (p : Int × Int) : (pD p).d = pP p := by
  unfold pD pP
  rw [Dt.d, Dt.ds, Dt.ds, Dt.ds, Dt.d, Dt.d]
def lexLe (p q : Int × Int) : Prop := p.1 < q.1 ∨ (p.1 = q.1 ∧ p.2 ≤ q.2)
theorem argBest_least (ps : List (Int × Int)) : ∀ k, k < ps.length → argBest (fun i j => PySem.W.dataLt ((ps.map pP).getD i .none) ((ps.map pP).getD j .none)) k ≤ k ∧
    ∀ j, j ≤ k → lexLe (ps.getD (argBest (fun i j => PySem.W.dataLt ((ps.map pP).getD i .none) ((ps.map pP).getD j .none)) k) (0, 0)) (ps.getD j (0, 0)) := by
  have key : ∀ i j, i < ps.length → j < ps.length → PySem.W.dataLt ((ps.map pP).getD i .none) ((ps.map pP).getD j .none) = decide ((ps.getD i (0, 0)).1 < (ps.getD j (0, 0)).1 ∨ ((ps.getD i (0, 0)).1 = (ps.getD j (0, 0)).1 ∧ (ps.getD i (0, 0)).2 < (ps.getD j (0, 0)).2)) := by
    intro i j hi hj
    have e1 : (ps.map pP).getD i .none = pP (ps.getD i (0, 0)) := by
      rw [List.getD_eq_getElem?_getD, List.getD_eq_getElem?_getD, List.getElem?_map, List.getElem?_eq_getElem hi]; rfl
    have e2 : (ps.map pP).getD j .none = pP (ps.getD j (0, 0)) := by
      rw [List.getD_eq_getElem?_getD, List.getD_eq_getElem?_getD, List.getElem?_map, List.getElem?_eq_getElem hj]; rfl
    rw [e1, e2]
    exact PySem.W.dataLt_ii _ _ _ _
  intro k
  induction k with
  | zero =>
    intro _
    refine ⟨Nat.le_refl _, fun j hj => ?_⟩
    have : j = 0 := by omega
    subst this
    exact .inr ⟨rfl, Int.le_refl _⟩
  | succ k ih =>
    intro hk
    obtain ⟨i1, i2⟩ := ih (by omega)
    have kk := key (k + 1) (argBest (fun i j => PySem.W.dataLt ((ps.map pP).getD i .none) ((ps.map pP).getD j .none)) k) hk (by omega)
    by_cases hb : PySem.W.dataLt ((ps.map pP).getD (k + 1) .none) ((ps.map pP).getD (argBest (fun i j => PySem.W.dataLt ((ps.map pP).getD i .none) ((ps.map pP).getD j .none)) k) .none) = true
    · have ea : argBest (fun i j => PySem.W.dataLt ((ps.map pP).getD i .none) ((ps.map pP).getD j .none)) (k + 1) = k + 1 := if_pos hb
      rw [ea]
      refine ⟨Nat.le_refl _, fun j hj => ?_⟩
      rw [kk] at hb
      have hb' := of_decide_eq_true hb
      by_cases hj2 : j = k + 1
      · subst hj2; exact .inr ⟨rfl, Int.le_refl _⟩
      · have := i2 j (by omega)
        unfold lexLe at this ⊢
        omega
    · have ea : argBest (fun i j => PySem.W.dataLt ((ps.map pP).getD i .none) ((ps.map pP).getD j .none)) (k + 1) = argBest (fun i j => PySem.W.dataLt ((ps.map pP).getD i .none) ((ps.map pP).getD j .none)) k := if_neg hb
      rw [ea]
      refine ⟨by omega, fun j hj => ?_⟩
      rw [kk] at hb
      have hb' := of_decide_eq_false (Bool.not_eq_true _ ▸ hb)
      by_cases hj2 : j = k + 1
      · subst hj2
        unfold lexLe
        omega
      · exact i2 j (by omega)
def rMinP (K : PySem.W.Frag) : List V → Hp → VK → Prop := fun vs H Q => ∃ (a : Addr) (xs : List V) (ps : List (Int × Int)), vs = [.ref a] ∧ SqL K H a xs ∧ DpAll K H xs (ps.map pP) ∧ 0 < ps.length ∧
  ∀ (i : Nat) x p, xs[i]? = some x → ps[i]? = some p → (∀ q ∈ ps, lexLe p q) → Q x H
theorem depth_pP : ∀ ps : List (Int × Int), PyData.depthAll (ps.map pP) ≤ 1
  | [] => by simp [PyData.depthAll]
  | p :: ps => by
    have h1 := depth_pP ps
    have h2 : (pP p).depth = 1 := by simp [pP, PyData.depth, PyData.depthAll]
    simp only [List.map_cons, PyData.depthAll]
    omega
theorem call_minP {X : Cx} (hc : X.calm = true) (hu : X.A.units + 65 < cLine) : CallR X (.builtin "min") (rMinP X.K) := by
  intro pins s σ H vs us Q I r h
  obtain ⟨a, xs, ps, rfl, hs, hd, h0, q⟩ := h
  obtain ⟨its, rv, hl, _⟩ := I.list hs
  obtain ⟨u, rfl, ru⟩ := vals1 r
  cases ru
  obtain ⟨as, hr⟩ := Dp.readsAll I _ _ its hd rv
  have hr' : ReadsAll s.heap its.toArray.toList (ps.map pP) as := by simpa using hr
  have hn : its.toArray.size = ps.length := by
    have := PySem.W.readsAll_len hr'
    simpa using this
  have halike : PySem.W.AlikeAll (ps.map pP) := by
    refine ⟨fun x hx y hy => ?_, fun x hx => ?_⟩
    · obtain ⟨p, _, rfl⟩ := List.mem_map.mp hx
      obtain ⟨p', _, rfl⟩ := List.mem_map.mp hy
      simp [pP, PySem.W.alike, PySem.W.alikeAll]
    · obtain ⟨p, _, rfl⟩ := List.mem_map.mp hx
      simp [pP]
  have dp := depth_pP ps
  refine PySem.call_min_walkH (PySem.W.iter_listW (A := X.A.in1) (I.ok.hd hc) hl.isList fun s₂ e W st hfp hw hk => ?_)
  refine ⟨_, _, _, _, _, _, _, s.heap, _, rfl, W, st, hfp, by rw [hn]; exact h0, hw, hk, PySem.W.cmpIn_lt (A := X.A.in1) hr' halike (by show X.A.units + 1 + _ < _; omega), fun v s' hP m => ?_⟩
  obtain ⟨h', tk, rfl, hk'⟩ := PySem.W.moved_old e rfl m
  obtain ⟨b1, b2⟩ := argBest_least ps (its.toArray.size - 1) (by omega)
  generalize argBest (fun i j => PySem.W.dataLt ((ps.map pP).getD i .none) ((ps.map pP).getD j .none)) (its.toArray.size - 1) = m0 at *
  have hm : m0 < ps.length := by omega
  have hxl := rv.length
  have hits : its.length = ps.length := by simpa using hn
  have hx : xs[m0]? = some (xs[m0]'(by omega)) := List.getElem?_eq_getElem (by omega)
  have hp : ps[m0]? = some ps[m0] := List.getElem?_eq_getElem hm
  obtain ⟨u', hu', ru'⟩ := rv.get hx
  have ev : v = u' := by
    have : its[m0]? = some v := by simpa using hP
    exact Option.some.inj (this.symm.trans hu')
  subst ev
  refine ⟨_, H, I.kept (t' := tk) hk', ru', q m0 _ _ hx hp fun p' hp' => ?_⟩
  obtain ⟨j, hj⟩ := List.getElem?_of_mem hp'
  have hjl := (List.getElem?_eq_some_iff.mp hj).1
  have := b2 j (by omega)
  rw [List.getD_eq_getElem?_getD, List.getD_eq_getElem?_getD, hj, hp] at this
  exact this
theorem rc_minp {c : Cn} {F : Fp} {M : Mem} {Ψ : PR} {a : Addr} {ps : List (Int × Int)} (hL : Lk c F M a (ps.map pD)) (h0 : 0 < ps.length) (k : ∀ p, p ∈ ps → (∀ q ∈ ps, lexLe p q) → Ψ (.im (pD p)) F M) : Rc c (rMinP c.K) [.ad (.ref a)] F M Ψ := fun H Q vs e p f => by
  obtain ⟨v, rfl, r⟩ := pair1 p
  obtain ⟨us, h1, r1⟩ := hL H e
  have r' : v = .ref a := r
  subst r'
  refine ⟨a, us, ps, rfl, h1, ?_, h0, fun i x p hx hp hq => ?_⟩
  · have e1 : Dt.ds (ps.map pD) = ps.map pP := by
      rw [ds_map, List.map_map]
      exact List.map_congr_left fun p _ => pD_d p
    rw [← e1]; exact r1
  · obtain ⟨w, hw, rw_⟩ := r1.get (i := i) (x := pD p) (by rw [List.getElem?_map, hp]; rfl)
    rw [hx] at hw; cases hw
    exact f _ _ _ _ _ (k p (List.mem_of_getElem? hp) hq) e Stay.refl rw_
end TL

set_option autoImplicit true
set_option maxHeartbeats 200000
set_option maxRecDepth 512
set_option Elab.async false
set_option linter.all false
set_option maxRecDepth 100000
set_option maxHeartbeats 4000000
/-! the rules once more, the written part told by its name -/
namespace TL
open PySem PySem.Spec PyProof.Rows L2
section
variable {X : Cx} {K : PySem.W.Frag}
theorem kAdd (h : X.K = K) : OpR X (binaryOp .Add) (rAddU K) := h ▸ op_addU
theorem kMul (h : X.K = K) : OpR X (binaryOp .Mult) (rMulU K (rRepA K)) := h ▸ op_mulU op_repA
theorem kEq (h : X.K = K) (hu : X.A.units + 64 < cLine) : OpR X (compareOp .Eq) (rEqD K) := h ▸ op_eqD hu
theorem kNe (h : X.K = K) (hu : X.A.units + 64 < cLine) : OpR X (compareOp .NotEq) (rNeD K) := h ▸ op_neD hu
theorem kIn (h : X.K = K) (hu : X.A.units + 65 < cLine) : OpR X (compareOp .In) (rInU K) := h ▸ op_inU hu
theorem kNotIn (h : X.K = K) (hu : X.A.units + 65 < cLine) : OpR X (compareOp .NotIn) (rNotInU K) := h ▸ op_notInU hu
theorem kIx (h : X.K = K) : IxR X (rIx K) := h ▸ ix_seq
theorem kSlT (h : X.K = K) : SlR X (rSlA K) := h ▸ sl_tupA
theorem kSlL (h : X.K = K) : SlR X (rSlL K) := h ▸ sl_list
theorem kLen (h : X.K = K) : CallR X (.builtin "len") (rLen K) := h ▸ call_lenQ
theorem kTup (h : X.K = K) : CallR X (.type "tuple") (rTup1 K) := h ▸ call_tupQ
theorem kLst (h : X.K = K) : CallR X (.type "list") (rLst1 K) := h ▸ call_lstQ
theorem kSum (h : X.K = K) (hc : X.calm = true) : CallR X (.builtin "sum") (rSum K) := h ▸ cr_sum hc
theorem kMax (h : X.K = K) (hc : X.calm = true) : CallR X (.builtin "max") (rMax K) := h ▸ cr_max hc
theorem kMin (h : X.K = K) (hc : X.calm = true) : CallR X (.builtin "min") (rMin K) := h ▸ cr_min hc
theorem kMinP (h : X.K = K) (hc : X.calm = true) (hu : X.A.units + 65 < cLine) : CallR X (.builtin "min") (rMinP K) := h ▸ call_minP hc hu
theorem kAll (h : X.K = K) (hc : X.calm = true) : CallR X (.builtin "all") (rAll K) := h ▸ cr_all hc
theorem kIsi (h : X.K = K) : CallR X (.builtin "isinstance") (rIsi K) := h ▸ call_isi
theorem kSorted (h : X.K = K) : CallR X (.builtin "sorted") (rSortedI K) := h ▸ cr_sortedI
theorem kgTup (h : X.K = K) {es : List Expr} {k : Nat} {t : TGs} {n : Nat} {pos : Pos} (hc : X.calm = true) (hs : PGs X es t)
    (hn : (assignEach es X.env).length = n := by rfl) (hst : (assignEach es X.env).findIdx? (·.1) = none := by rfl) : PG X (.Tuple es k pos) (gTup K n t) := h ▸ pg_tup hc hs hn hst
theorem kOrT (h : X.K = K) {a b : Expr} {ta tb : TE} {rest : List Expr} {pos : Pos} (ha : PE X a ta) (hb : PE X (.BoolOp .Or (b :: rest) pos) tb) : PE X (.BoolOp .Or (a :: b :: rest) pos) (tOrT K ta tb) := h ▸ pe_orT ha hb
theorem kiTup (h : X.K = K) {tg l : Expr} {tl : TE} (hl : PE X l tl) : PI X tg l (iTup K tl) := h ▸ pi_tup hl
theorem kiList (h : X.K = K) {tg l : Expr} {tl : TE} (hl : PE X l tl) : PI X tg l (iList K tl) := h ▸ pi_list hl
theorem kiEnum (h : X.K = K) {e : Expr} {ta : TA} {p pos tpos : Pos} {elts : List Expr} {kk : Nat} (hg : Gl X "enumerate") (hm : X.mg "enumerate" = none) (ha : PA X [e] ta) (hs : starEach [e] X.env = [(false, eval e X.env)] := by rfl) :
    PI X (.Tuple elts kk tpos) (.Call (.Name "enumerate" p) [e] [] pos) (iEnumU K ta) := h ▸ pi_enumU hg hm ha hs
theorem kiZip (h : X.K = K) {e e2 : Expr} {ta : TA} {p pos tpos : Pos} {elts : List Expr} {kk : Nat} (hg : Gl X "zip") (hm : X.mg "zip" = none) (ha : PA X [e, e2] ta)
    (hs : starEach [e, e2] X.env = (false, eval e X.env) :: starEach [e2] X.env := by rfl) (hpl : (backTo pos (starEach [e2] X.env)).any (·.1) = false := by rfl) :
    PI X (.Tuple elts kk tpos) (.Call (.Name "zip" p) [e, e2] [] pos) (RZ.iZipA K ta) := h ▸ RZ.pi_zipA hg hm ha hs hpl
end
section
variable {c : Cn} {F : Fp} {M : Mem} {Ψ : PR} {i j : Int}
theorem eqvI : Dt.eqv (.int i) (.int j) = decide (i = j) := by
  unfold Dt.eqv
  rw [Dt.d, Dt.d]
  simp only [PyData.eqv]
  by_cases h : i = j
  · subst h; simp
  · simp [h]
theorem eqvB {p q : Bool} : Dt.eqv (.bl p) (.bl q) = (p == q) := by
  unfold Dt.eqv
  rw [Dt.d, Dt.d]
  simp only [PyData.eqv]
theorem shI : SeqAt.shaped (Dt.int i).d = true := by rw [Dt.d]; rfl
theorem shB {p : Bool} : SeqAt.shaped (Dt.bl p).d = true := by rw [Dt.d]; rfl
theorem rr_eqI (k : Ψ (.im (.bl (decide (i = j)))) F M) : Rr c (rEqD c.K) (.im (.int i)) (.im (.int j)) F M Ψ := rr_eq shI shI (by rw [eqvI]; exact k)
theorem rr_neI (k : Ψ (.im (.bl (!decide (i = j)))) F M) : Rr c (rNeD c.K) (.im (.int i)) (.im (.int j)) F M Ψ := rr_ne shI shI (by rw [eqvI]; exact k)
theorem rr_neB {p q : Bool} (k : Ψ (.im (.bl (p != q))) F M) : Rr c (rNeD c.K) (.im (.bl p)) (.im (.bl q)) F M Ψ := rr_ne shB shB (by rw [eqvB]; exact k)
end
section
variable {c : Cn} {F : Fp} {M : Mem} {a : Addr} {ds : List Dt} {p q r s : Addr × List Dt}
theorem lk0 : Lk c F ((a, ds) :: M) a ds := lkM List.mem_cons_self
theorem lk1 : Lk c F (p :: (a, ds) :: M) a ds := lkM (List.mem_cons_of_mem _ List.mem_cons_self)
theorem lk2 : Lk c F (p :: q :: (a, ds) :: M) a ds := lkM (List.mem_cons_of_mem _ (List.mem_cons_of_mem _ List.mem_cons_self))
theorem lk3 : Lk c F (p :: q :: r :: (a, ds) :: M) a ds := lkM (List.mem_cons_of_mem _ (List.mem_cons_of_mem _ (List.mem_cons_of_mem _ List.mem_cons_self)))
theorem lk4 : Lk c F (p :: q :: r :: s :: (a, ds) :: M) a ds := lkM (List.mem_cons_of_mem _ (List.mem_cons_of_mem _ (List.mem_cons_of_mem _ (List.mem_cons_of_mem _ List.mem_cons_self))))
theorem lr0 {K : PySem.W.Frag} {H0 : Hp} {B : Addr → Prop} {R : Mem} : Lk ⟨K, H0, B, (a, ds) :: R⟩ F M a ds := lkR (c := ⟨K, H0, B, (a, ds) :: R⟩) List.mem_cons_self
theorem lr1 {K : PySem.W.Frag} {H0 : Hp} {B : Addr → Prop} {R : Mem} : Lk ⟨K, H0, B, p :: (a, ds) :: R⟩ F M a ds := lkR (c := ⟨K, H0, B, p :: (a, ds) :: R⟩) (List.mem_cons_of_mem _ List.mem_cons_self)
end
section
variable {c : Cn} {F : Fp} {M : Mem} {δ : List (Option RV)} {N : PN} {x : Dt} {xs : List Dt} {i : Nat} {u : TGs} {R : PR}
theorem wgs_nameM (h : Wgs c u (xs.map RV.im) F (δ.set i (some (.im x))) M N) : Wgs c (gCons (gName i) u) ((x :: xs).map RV.im) F δ M N := wgs_name h
theorem wgs_nilM (h : N F δ M) : Wgs c gNil (([] : List Dt).map RV.im) F δ M N := wgs_nil h
theorem ixn {n j : Nat} (hj : j < n) : ixN n (j : Int) = some j := by
  unfold ixN
  rw [if_pos (by omega), if_pos (by omega)]
  simp
/-- a loop whose word is a list of slots and of lists, by letters -/
theorem set_own {N : Fp → Mem → Prop} {a : Addr} {ds : List Dt} {k : Nat} {F : Fp} {d : Dt} {j : Nat} {i : Int} (hk : M[k]? = some (a, ds)) (hj : j < ds.length) (hi : i = (j : Int)) (hn : N F (M.set k (a, ds.set j d))) :
    ∃ a' ds' i' j' d' F3 M3, RV.ad (.ref a) = .ad (.ref a') ∧ RV.im (.int i) = .im (.int i') ∧ RV.im d = .im d' ∧ ixN ds'.length i' = some j' ∧ Wr c a' F M ds' (ds'.set j' d') F3 M3 ∧ N F3 M3 :=
  ⟨a, ds, i, j, d, F, _, rfl, rfl, rfl, by rw [hi]; exact ixn hj, wrM _ hk, hn⟩
end
theorem we_notV {c : Cn} {F : Fp} {M : Mem} {δ : List (Option RV)} {te : TE} {Ψ : PR} (h : We c te F δ M fun r F1 M1 => ∃ b, r = .im (.bl b) ∧ Ψ (.im (.bl (!b))) F1 M1) : We c (tNotV te) F δ M Ψ := fun σ H Q e s q =>
  h σ H _ e s fun r F1 M1 v H1 p e1 s1 v1 => by
    obtain ⟨b, rfl, k⟩ := p
    exact ⟨b, rp_bl v1, q _ F1 M1 _ H1 k e1 s1 mk_bl⟩
theorem isi_int {K : PySem.W.Frag} {x : Int} : PySem.W.kitOne K (.type (Dt.int x).ty) (.type "int") = some true := by first | rfl | (simp [Dt.ty, PySem.W.kitOne]; done) | decide +kernel
theorem isi_intb {K : PySem.W.Frag} {x : Int} : PySem.W.kitOne K (.type (Dt.int x).ty) (.type "bool") = some false := by first | rfl | (simp [Dt.ty, PySem.W.kitOne]; done) | decide +kernel
theorem isi_tup {K : PySem.W.Frag} {xs : List Dt} : PySem.W.kitOne K (.type (Dt.tup xs).ty) (.type "tuple") = some true := by first | rfl | (simp [Dt.ty, PySem.W.kitOne]; done) | decide +kernel
/-- a comprehension that keeps the turns of which p holds, and makes f of them -/
theorem we_lcp {c : Cn} {F : Fp} {M : Mem} {δ : List (Option RV)} {g : TG} {te : TE} {wi : TI} {tt : TT} {js : List Nat} {Ψ : PR} (p : Nat → Bool) (f : Nat → Dt) (h : Wi c wi F δ M fun n Y S F1 M1 => n ≤ 100000 ∧ (∀ F', S F' M1) ∧
      (∀ i r F', i < n → Y i r → ∃ rs, Gn c g js r rs ∧ Wt c tt F' (setD (js.foldr (fun j δ => δ.set j none) δ) js rs) M1 fun b F3 M3 => b = p i ∧ M1.Sublist M3 ∧ (p i = true → We c te F3 (setD (js.foldr (fun j δ => δ.set j none) δ) js rs) M3 fun y F4 M4 => y = .im (f i) ∧ M1.Sublist M4)) ∧
      (∀ a F', ((ixs n p).map f).length ≤ n → Ψ (.ad (.ref a)) F' ((a, (ixs n p).map f) :: M1))) : We c (tLc wi g tt te js) F δ M Ψ := by
  refine we_lc fun σ H Q e s q => h σ H Q e s fun n Y S F1 M1 J H1 hx e1 s1 w => q n Y S F1 M1 J H1 ?_ e1 s1 w
  obtain ⟨hn, hS, ht, hd⟩ := hx
  refine ⟨hn, fun i acc _ => acc = (ixs i p).map f, rfl, fun i acc F' _ _ => hS F', fun i r acc F' hi _ hY he => ?_, fun acc F' hl he a => by subst he; exact hd a F' hl⟩
  obtain ⟨rs, hg, hw⟩ := ht i r F' hi hY
  refine ⟨rs, hg, fun σ2 H2 Q2 e2 s2 q2 => hw σ2 H2 Q2 e2 s2 fun b F3 M3 H3 hb e3 s3 => q2 b F3 M3 H3 ?_ e3 s3⟩
  obtain ⟨rfl, sub, hy⟩ := hb
  refine ⟨fun hp => (hy hp).mono fun y F4 M4 hz => ?_, fun hp => ⟨sub, by show acc = (ixs (i + 1) p).map f; rw [he, ixs_no hp]⟩⟩
  exact ⟨f i, hz.1, hz.2, by show acc ++ [f i] = (ixs (i + 1) p).map f; rw [he, ixs_yes hp, List.map_append]; rfl⟩
end TL

set_option autoImplicit true
set_option maxHeartbeats 200000
set_option maxRecDepth 512
set_option Elab.async false
set_option linter.all false
set_option maxRecDepth 100000
set_option maxHeartbeats 4000000
/-! == of data -/
namespace TL
open PySem PySem.Spec PyProof.Rows L2
mutual
def Dt.dep : Dt → Nat
  | .tup xs => Dt.deps xs + 1
  | _ => 0
def Dt.deps : List Dt → Nat
  | [] => 0
  | x :: xs => max x.dep (Dt.deps xs)
end
mutual
/-- its texts are short -/
def Dt.sok : Dt → Bool
  | .str s => PyData.strOk s
  | .tup xs => Dt.soks xs
  | _ => true
def Dt.soks : List Dt → Bool
  | [] => true
  | x :: xs => x.sok && Dt.soks xs
end
mutual
theorem dep_d : ∀ x : Dt, x.d.depth = x.dep
  | .non => by rw [Dt.d, Dt.dep, PyData.depth] <;> simp
  | .bl b => by rw [Dt.d, Dt.dep, PyData.depth] <;> simp
  | .int i => by rw [Dt.d, Dt.dep, PyData.depth] <;> simp
  | .str s => by rw [Dt.d, Dt.dep, PyData.depth] <;> simp
  | .tup xs => by rw [Dt.d, Dt.dep, PyData.depth, deps_d xs]
theorem deps_d : ∀ xs : List Dt, PyData.depthAll (Dt.ds xs) = Dt.deps xs
  | [] => by rw [Dt.ds, Dt.deps, PyData.depthAll]
  | x :: xs => by rw [Dt.ds, Dt.deps, PyData.depthAll, dep_d x, deps_d xs]
end
mutual
theorem lay_d : ∀ x : Dt, PyData.canLay0 x.d = x.sok
  | .non => by rw [Dt.d, Dt.sok, PyData.canLay0] <;> simp
  | .bl b => by rw [Dt.d, Dt.sok, PyData.canLay0] <;> simp
  | .int i => by rw [Dt.d, Dt.sok, PyData.canLay0] <;> simp
  | .str s => by rw [Dt.d, Dt.sok, PyData.canLay0]
  | .tup xs => by rw [Dt.d, Dt.sok, PyData.canLay0, lays_d xs]
theorem lays_d : ∀ xs : List Dt, PyData.canLayAll0 (Dt.ds xs) = Dt.soks xs
  | [] => by rw [Dt.ds, Dt.soks, PyData.canLayAll0]
  | x :: xs => by rw [Dt.ds, Dt.soks, PyData.canLayAll0, lay_d x, lays_d xs]
end
theorem shaped_of {x : Dt} (h1 : x.sok = true) (h2 : x.dep ≤ 64) : SeqAt.shaped x.d = true := by
  show (x.d.canLay0 && decide (x.d.depth ≤ 64)) = true
  rw [lay_d, dep_d, h1, decide_eq_true h2]; rfl
theorem shapedL_of {xs : List Dt} (h1 : Dt.soks xs = true) (h2 : Dt.deps xs ≤ 60) : SeqAt.shaped (.list (Dt.ds xs)) = true := by
  show (PyData.canLay0 (.list (Dt.ds xs)) && decide ((PyData.list (Dt.ds xs)).depth ≤ 64)) = true
  rw [PyData.canLay0, PyData.depth, lays_d, deps_d, h1, decide_eq_true (by omega)]; rfl
mutual
theorem eqv_iff : ∀ (x y : Dt), x.nob = true → y.nob = true → (PyData.eqv x.d y.d = true ↔ x = y)
  | .bl b, _, h, _ => by simp [Dt.nob] at h
  | _, .bl b, _, h => by simp [Dt.nob] at h
  | .non, .non, _, _ => by simp [Dt.d, PyData.eqv]
  | .non, .int _, _, _ => by simp [Dt.d, PyData.eqv]
  | .non, .str _, _, _ => by simp [Dt.d, PyData.eqv]
  | .non, .tup _, _, _ => by simp [Dt.d, PyData.eqv]
  | .int _, .non, _, _ => by simp [Dt.d, PyData.eqv]
  | .int i, .int j, _, _ => by simp [Dt.d, PyData.eqv]
  | .int _, .str _, _, _ => by simp [Dt.d, PyData.eqv]
  | .int _, .tup _, _, _ => by simp [Dt.d, PyData.eqv]
  | .str _, .non, _, _ => by simp [Dt.d, PyData.eqv]
  | .str _, .int _, _, _ => by simp [Dt.d, PyData.eqv]
  | .str s, .str t, _, _ => by simp [Dt.d, PyData.eqv]
  | .str _, .tup _, _, _ => by simp [Dt.d, PyData.eqv]
  | .tup _, .non, _, _ => by simp [Dt.d, PyData.eqv]
  | .tup _, .int _, _, _ => by simp [Dt.d, PyData.eqv]
  | .tup _, .str _, _, _ => by simp [Dt.d, PyData.eqv]
  | .tup xs, .tup ys, h1, h2 => by
    rw [Dt.nob] at h1 h2
    rw [Dt.d, Dt.d, PyData.eqv, eqvs_iff xs ys h1 h2, Dt.tup.injEq]
theorem eqvs_iff : ∀ (xs ys : List Dt), Dt.nobs xs = true → Dt.nobs ys = true → (PyData.eqvAll (Dt.ds xs) (Dt.ds ys) = true ↔ xs = ys)
  | [], [], _, _ => by simp [Dt.ds, PyData.eqvAll]
  | [], _ :: _, _, _ => by simp [Dt.ds, PyData.eqvAll]
  | _ :: _, [], _, _ => by simp [Dt.ds, PyData.eqvAll]
  | x :: xs, y :: ys, h1, h2 => by
    rw [Dt.nobs, Bool.and_eq_true] at h1 h2
    rw [Dt.ds, Dt.ds, PyData.eqvAll, Bool.and_eq_true, eqv_iff x y h1.1 h2.1, eqvs_iff xs ys h1.2 h2.2, List.cons.injEq]
end
/-- plain data: no truth values, short texts, not deep -/
structure Dt.ok (x : Dt) : Prop where
  nob : x.nob = true
  sok : x.sok = true
  dep : x.dep ≤ 60
def Dt.oks (xs : List Dt) : Prop := ∀ x ∈ xs, x.ok
theorem oks_nobs : ∀ {xs : List Dt}, Dt.oks xs → Dt.nobs xs = true
  | [], _ => by rw [Dt.nobs]
  | x :: xs, h => by rw [Dt.nobs, (h x List.mem_cons_self).nob, oks_nobs fun y hy => h y (List.mem_cons_of_mem _ hy)]; rfl
theorem oks_soks : ∀ {xs : List Dt}, Dt.oks xs → Dt.soks xs = true
  | [], _ => by rw [Dt.soks]
  | x :: xs, h => by rw [Dt.soks, (h x List.mem_cons_self).sok, oks_soks fun y hy => h y (List.mem_cons_of_mem _ hy)]; rfl
theorem oks_deps {k : Nat} : ∀ {xs : List Dt}, (∀ x ∈ xs, x.dep ≤ k) → Dt.deps xs ≤ k
  | [], _ => by rw [Dt.deps]; omega
  | x :: xs, h => by
    rw [Dt.deps]
    have h1 := h x List.mem_cons_self
    have h2 := oks_deps (k := k) (xs := xs) fun y hy => h y (List.mem_cons_of_mem _ hy)
    omega
theorem ok_int {i : Int} : (Dt.int i).ok := ⟨by rw [Dt.nob] <;> simp, by rw [Dt.sok] <;> simp, by rw [Dt.dep] <;> simp⟩
theorem ok_non : Dt.non.ok := ⟨by rw [Dt.nob] <;> simp, by rw [Dt.sok] <;> simp, by rw [Dt.dep] <;> simp⟩
theorem ok_str {s : Str} (h : PyData.strOk s = true) : (Dt.str s).ok := ⟨by rw [Dt.nob] <;> simp, by rw [Dt.sok]; exact h, by rw [Dt.dep] <;> simp⟩
theorem ok_tup {xs : List Dt} (h : Dt.oks xs) (hd : ∀ x ∈ xs, x.dep ≤ 50) : (Dt.tup xs).ok := ⟨by rw [Dt.nob]; exact oks_nobs h, by rw [Dt.sok]; exact oks_soks h, by rw [Dt.dep]; have := oks_deps hd; omega⟩
theorem dep_int {i : Int} : (Dt.int i).dep = 0 := by rw [Dt.dep] <;> simp
theorem dep_str {s : Str} : (Dt.str s).dep = 0 := by rw [Dt.dep] <;> simp
theorem dep_tup {xs : List Dt} {k : Nat} (h : ∀ x ∈ xs, x.dep ≤ k) : (Dt.tup xs).dep ≤ k + 1 := by
  rw [Dt.dep]
  have := oks_deps h
  omega
theorem oks_ints {l : List Int} : Dt.oks (l.map Dt.int) := fun x hx => by
  obtain ⟨i, _, rfl⟩ := List.mem_map.mp hx
  exact ok_int
theorem eqv_ok {x y : Dt} (h1 : x.ok) (h2 : y.ok) : x.eqv y = true ↔ x = y := eqv_iff x y h1.nob h2.nob
section
variable {c : Cn} {F : Fp} {M : Mem} {Ψ : PR} {x y : Dt} {a b : Addr} {xs ys : List Dt}
open Classical in
theorem rr_eqO (h1 : x.ok) (h2 : y.ok) (k1 : x = y → Ψ (.im (.bl true)) F M) (k2 : x ≠ y → Ψ (.im (.bl false)) F M) : Rr c (rEqD c.K) (.im x) (.im y) F M Ψ := by
  refine rr_eq (shaped_of h1.sok (by have := h1.dep; omega)) (shaped_of h2.sok (by have := h2.dep; omega)) ?_
  cases e : x.eqv y with
  | true => exact k1 ((eqv_ok h1 h2).mp e)
  | false => exact k2 fun z => by rw [(eqv_ok h1 h2).mpr z] at e; cases e
theorem rr_neO (h1 : x.ok) (h2 : y.ok) (k1 : x = y → Ψ (.im (.bl false)) F M) (k2 : x ≠ y → Ψ (.im (.bl true)) F M) : Rr c (rNeD c.K) (.im x) (.im y) F M Ψ := by
  refine rr_ne (shaped_of h1.sok (by have := h1.dep; omega)) (shaped_of h2.sok (by have := h2.dep; omega)) ?_
  cases e : x.eqv y with
  | true => exact k1 ((eqv_ok h1 h2).mp e)
  | false => exact k2 fun z => by rw [(eqv_ok h1 h2).mpr z] at e; cases e
theorem eqvL_ok (h1 : Dt.oks xs) (h2 : Dt.oks ys) : PyData.eqv (.list (Dt.ds xs)) (.list (Dt.ds ys)) = true ↔ xs = ys := by
  rw [PyData.eqv]
  exact eqvs_iff xs ys (oks_nobs h1) (oks_nobs h2)
theorem shL (h1 : Dt.oks xs) : SeqAt.shaped (.list (Dt.ds xs)) = true := shapedL_of (oks_soks h1) (oks_deps fun x hx => (h1 x hx).dep)
theorem rr_eqL (hx : Lk c F M a xs) (hy : Lk c F M b ys) (h1 : Dt.oks xs) (h2 : Dt.oks ys) (k1 : xs = ys → Ψ (.im (.bl true)) F M) (k2 : xs ≠ ys → Ψ (.im (.bl false)) F M) : Rr c (rEqD c.K) (.ad (.ref a)) (.ad (.ref b)) F M Ψ := by
  refine rr_eql hx hy (shL h1) (shL h2) ?_
  cases e : PyData.eqv (.list (Dt.ds xs)) (.list (Dt.ds ys)) with
  | true => exact k1 ((eqvL_ok h1 h2).mp e)
  | false => exact k2 fun z => by rw [(eqvL_ok h1 h2).mpr z] at e; cases e
theorem rr_neL (hx : Lk c F M a xs) (hy : Lk c F M b ys) (h1 : Dt.oks xs) (h2 : Dt.oks ys) (k1 : xs = ys → Ψ (.im (.bl false)) F M) (k2 : xs ≠ ys → Ψ (.im (.bl true)) F M) : Rr c (rNeD c.K) (.ad (.ref a)) (.ad (.ref b)) F M Ψ := by
  refine rr_nel hx hy (shL h1) (shL h2) ?_
  cases e : PyData.eqv (.list (Dt.ds xs)) (.list (Dt.ds ys)) with
  | true => exact k1 ((eqvL_ok h1 h2).mp e)
  | false => exact k2 fun z => by rw [(eqvL_ok h1 h2).mpr z] at e; cases e
/-- x not in a list of plain data -/
theorem rr_notinO (hL : Lk c F M a xs) (h1 : x.ok) (h2 : Dt.oks xs) (k1 : x ∈ xs → Ψ (.im (.bl false)) F M) (k2 : x ∉ xs → Ψ (.im (.bl true)) F M) : Rr c (rNotInU c.K) (.im x) (.ad (.ref a)) F M Ψ := by
  refine rr_notind hL (shaped_of h1.sok (by have := h1.dep; omega)) (shL h2) ?_
  cases e : xs.any fun z => z.eqv x with
  | true =>
    obtain ⟨z, hz, q⟩ := List.any_eq_true.mp e
    have := (eqv_ok (h2 z hz) h1).mp q
    subst this
    exact k1 hz
  | false =>
    refine k2 fun hm => ?_
    rw [List.any_eq_false] at e
    exact e x hm ((eqv_ok h1 h1).mpr rfl)
/-- [x] * n -/
theorem rr_rep1 {rt : R2} {n : Nat} {j : Int} (h1 : (a, [x]) ∈ M) (hj : j = (n : Int)) (hn : n ≤ 1000) (k : ∀ m, Ψ (.ad (.ref m)) F ((m, List.replicate n x) :: M)) : Rr c (rMulU c.K rt) (.ad (.ref a)) (.im (.int j)) F M Ψ := by
  refine rr_repl h1 hj (by omega) (by simp; omega) fun m => ?_
  have e : (List.replicate n [x]).flatten = List.replicate n x := by
    induction n with
    | zero => rfl
    | succ n ih => simp [List.replicate_succ]
  rw [e]
  exact k m
/-- (x,) * n -/
theorem rr_rep1t {n : Nat} {j : Int} (hj : j = (n : Int)) (hn : n ≤ 1000) (k : Ψ (.im (.tup (List.replicate n x))) F M) : Rr c (rMulU c.K (rRepA c.K)) (.im (.tup [x])) (.im (.int j)) F M Ψ := by
  refine rr_rept hj hn (by simp) (by simp) ?_
  have e : (List.replicate n [x]).flatten = List.replicate n x := by
    induction n with
    | zero => rfl
    | succ n ih => simp [List.replicate_succ]
  rw [e]
  exact k
/-- a list of ints is changed at a place -/
theorem set_ownI {N : Fp → Mem → Prop} {l : List Int} {k : Nat} {z : Int} {j : Nat} {i : Int} (hk : M[k]? = some (a, l.map Dt.int)) (hj : j < l.length) (hi : i = (j : Int)) (hn : N F (M.set k (a, (l.set j z).map Dt.int))) :
    ∃ a' ds' i' j' d' F3 M3, RV.ad (.ref a) = .ad (.ref a') ∧ RV.im (.int i) = .im (.int i') ∧ RV.im (.int z) = .im d' ∧ ixN ds'.length i' = some j' ∧ Wr c a' F M ds' (ds'.set j' d') F3 M3 ∧ N F3 M3 :=
  set_own hk (by rw [List.length_map]; exact hj) hi (by rw [List.map_set] at hn; exact hn)
end
end TL

set_option autoImplicit true
set_option maxHeartbeats 200000
set_option maxRecDepth 512
set_option Elab.async false
set_option linter.all false
set_option maxRecDepth 100000
set_option maxHeartbeats 1000000
namespace TL
open PySem PySem.Spec PyProof.Rows L2
section
variable {c : Cn} {F : Fp} {M M' : Mem} {δ : List (Option RV)} {N : PN} {R : PR} {t : TS} {te : TE} {Ψ : PR}
/-- lists no more wanted are let go -/
theorem ws_weak (s : M'.Sublist M) (h : Ws c t F δ M' N R) : Ws c t F δ M N R := fun σ H D e => h σ H D (e.weak s)
theorem ws_weak1 {p : Addr × List Dt} (h : Ws c t F δ M N R) : Ws c t F δ (p :: M) N R := ws_weak (List.sublist_cons_self _ _) h
theorem we_weak (s : M'.Sublist M) (h : We c te F δ M' Ψ) : We c te F δ M Ψ := fun σ H Q e => h σ H Q (e.weak s)
theorem wt_weak {tt : TT} {Φ : Bool → Fp → Mem → Prop} (s : M'.Sublist M) (h : Wt c tt F δ M' Φ) : Wt c tt F δ M Φ := fun σ H Q e => h σ H Q (e.weak s)
theorem ws_whileW {tt : TT} (W : Nat → PN) (m0 : Nat) (h0 : ∃ M', M'.Sublist M ∧ W m0 F δ M') (hs : ∀ m F' δ' M', W m F' δ' M' → Wt c tt F' δ' M' fun b F1 M1 => (b = true → Ws c t F1 δ' M1 (fun F2 δ2 M2 => ∃ m', m' < m ∧ ∃ M3, M3.Sublist M2 ∧ W m' F2 δ2 M3) R) ∧ (b = false → N F1 δ' M1)) : Ws c (tWhile tt t) F δ M N R :=
  ws_while (fun m F' δ' M' => ∃ M3, M3.Sublist M' ∧ W m F' δ' M3) m0 h0 fun m F' δ' M' ⟨M3, s3, h3⟩ => wt_weak s3 (hs m F' δ' M3 h3)
theorem wg_weak {g : TG} {r : RV} (s : M'.Sublist M) (h : Wg c g r F δ M' N) : Wg c g r F δ M N := fun v σ H Q e => h v σ H Q (e.weak s)
theorem ws_forW {wi : TI} {tb : TS} {g : TG} (h : Wi c wi F δ M fun n Y S F1 M1 => ∃ Pv : Nat → PN, (∃ M', M'.Sublist M1 ∧ Pv 0 F1 δ M') ∧ (∀ i F' δ' M' M3, i ≤ n → M3.Sublist M' → Pv i F' δ' M3 → S F' M') ∧
      (∀ i r F' δ' M', i < n → Y i r → Pv i F' δ' M' → Wg c g r F' δ' M' fun F2 δ2 M2 => Ws c tb F2 δ2 M2 (fun F2 δ2 M2 => ∃ M3, M3.Sublist M2 ∧ Pv (i + 1) F2 δ2 M3) R) ∧ (∀ F' δ' M' M3, M3.Sublist M' → Pv n F' δ' M3 → N F' δ' M')) : Ws c (tFor wi g tb) F δ M N R := by
  refine ws_for fun σ H Q e s q => h σ H Q e s fun n Y S F1 M1 J H1 hx e1 s1 w => q n Y S F1 M1 J H1 ?_ e1 s1 w
  obtain ⟨Pv, h0, hS, hb, hd⟩ := hx
  exact ⟨fun i F' δ' M' => ∃ M3, M3.Sublist M' ∧ Pv i F' δ' M3, h0, fun i F' δ' M' hi ⟨M3, s3, h3⟩ => hS i F' δ' M' M3 hi s3 h3, fun i r F' δ' M' hi hy ⟨M3, s3, h3⟩ => wg_weak s3 (hb i r F' δ' M3 hi hy h3), fun F' δ' M' ⟨M3, s3, h3⟩ => hd F' δ' M' M3 s3 h3⟩
/-- a test that changes nothing, and its answer -/
def Wp (c : Cn) (tt : TT) (F : Fp) (δ : List (Option RV)) (M : Mem) (B : Bool) : Prop := Wt c tt F δ M fun b F1 M1 => b = B ∧ F1 = F ∧ M1 = M
theorem wp_test {te : TE} {B : Bool} (h : We c te F δ M fun r F1 M1 => r = .im (.bl B) ∧ F1 = F ∧ M1 = M) : Wp c (tTest te) F δ M B := wt_test (h.mono fun r F1 M1 ⟨a, b, d⟩ => ⟨B, a, rfl, b, d⟩)
theorem wp_and {t u : TT} {p q : Bool} (h1 : Wp c t F δ M p) (h2 : p = true → Wp c u F δ M q) : Wp c (tAnd t u) F δ M (p && q) := wt_and fun σ H Q e s k => h1 σ H Q e s fun b F1 M1 H1 ⟨a, b', d⟩ => k b F1 M1 H1 (by
  subst a; subst b'; subst d
  refine ⟨fun h => ?_, fun h => ?_⟩
  · rw [h, Bool.true_and]; exact h2 h
  · rw [h]; exact ⟨rfl, rfl, rfl⟩)
theorem wp_or {t u : TT} {p q : Bool} (h1 : Wp c t F δ M p) (h2 : p = false → Wp c u F δ M q) : Wp c (tOr t u) F δ M (p || q) := wt_or fun σ H Q e s k => h1 σ H Q e s fun b F1 M1 H1 ⟨a, b', d⟩ => k b F1 M1 H1 (by
  subst a; subst b'; subst d
  refine ⟨fun h => ?_, fun h => ?_⟩
  · rw [h]; exact ⟨rfl, rfl, rfl⟩
  · rw [h, Bool.false_or]; exact h2 h)
theorem wp_not {t : TT} {p : Bool} (h : Wp c t F δ M p) : Wp c (tNot t) F δ M (!p) := wt_not fun σ H Q e s k => h σ H Q e s fun b F1 M1 H1 ⟨a, b', d⟩ => k b F1 M1 H1 ⟨by rw [a], b', d⟩
theorem ws_ifP {tt : TT} {t u : TS} {B : Bool} (h : Wp c tt F δ M B) (h1 : B = true → Ws c t F δ M N R) (h2 : B = false → Ws c u F δ M N R) : Ws c (tIfS tt t u) F δ M N R := ws_if fun σ H Q e s k => h σ H Q e s fun b F1 M1 H1 ⟨a, b', d⟩ => k b F1 M1 H1 (by
  subst a; subst b'; subst d
  exact ⟨h1, h2⟩)
theorem dec_iff {p q : Prop} [Decidable p] [Decidable q] (h : p ↔ q) : decide p = decide q := by rw [decide_eq_decide]; exact h
theorem bl_iff {p q : Prop} [Decidable p] [Decidable q] (h : p ↔ q) : RV.im (.bl (decide p)) = RV.im (.bl (decide q)) := by rw [dec_iff h]
theorem app_own {N : Fp → Mem → Prop} {a : Addr} {ds : List Dt} {k : Nat} {F : Fp} {d : Dt} (hk : M[k]? = some (a, ds)) (hl : ds.length < 100000) (hn : N F (M.set k (a, ds ++ [d]))) :
    ∃ ds' d' F3 M3, RV.im d = .im d' ∧ Wr c a F M ds' (ds' ++ [d']) F3 M3 ∧ ds'.length < 100000 ∧ N F3 M3 :=
  ⟨ds, d, F, _, rfl, wrM _ hk, hl, hn⟩
theorem app_ownN {N : Fp → Mem → Prop} {a : Addr} {ds : List Nat} {k : Nat} {F : Fp} {d : Nat} (hk : M[k]? = some (a, natD ds)) (hl : ds.length < 100000) (hn : N F (M.set k (a, natD (ds ++ [d])))) :
    ∃ ds' d' F3 M3, RV.im (.int (d : Int)) = .im d' ∧ Wr c a F M ds' (ds' ++ [d']) F3 M3 ∧ ds'.length < 100000 ∧ N F3 M3 :=
  app_own hk (by rw [natD_len]; exact hl) (by unfold natD at hn ⊢; rw [List.map_append] at hn; exact hn)
theorem pop_ownN {N : Dt → Fp → Mem → Prop} {a : Addr} {d : Nat} {ds : List Nat} {k : Nat} {F : Fp} (hk : M[k]? = some (a, natD (d :: ds))) (hn : N (.int (d : Int)) F (M.set k (a, natD ds))) :
    ∃ a' d' ds' F3 M3, RV.ad (.ref a) = .ad (.ref a') ∧ Wr c a' F M (d' :: ds') ds' F3 M3 ∧ N d' F3 M3 :=
  ⟨a, _, _, F, _, rfl, wrM _ hk, hn⟩
theorem oks_nats {l : List Nat} : Dt.oks (natD l) := by rw [natD_ints]; exact oks_ints
theorem rr_neN {Q : List Nat} {a b : Addr} (hx : Lk c F M a (natD Q)) (hy : Lk c F M b []) (k1 : Q = [] → Ψ (.im (.bl false)) F M) (k2 : Q ≠ [] → Ψ (.im (.bl true)) F M) : Rr c (rNeD c.K) (.ad (.ref a)) (.ad (.ref b)) F M Ψ :=
  rr_neL hx hy oks_nats (fun x h => by cases h) (fun h => k1 (by unfold natD at h; exact List.map_eq_nil_iff.mp h)) fun h => k2 fun e => h (by rw [e]; rfl)
end
end TL

set_option autoImplicit true
set_option maxHeartbeats 200000
set_option maxRecDepth 512
set_option Elab.async false
set_option linter.all false
set_option autoImplicit false
set_option maxRecDepth 100000
set_option maxHeartbeats 1000000
/-! what is searched, and what it finds -/
namespace TL
open PySem PySem.Spec PyProof.Rows L2
abbrev Ent := Option (Nat × Int × Int)
def entD : Ent → Dt
  | none => .non
  | some (u, i, b) => .tup [.int (u : Int), .int i, .int b]
theorem entD_isN (e : Ent) : (entD e).isN = e.isNone := by cases e <;> rfl
def Res (n : Net) (f : Nat → Int) (u i : Nat) (b : Int) (v : Nat) : Prop := i < n.rs.length ∧ (((n.rd i).a = u ∧ (n.rd i).b = v ∧ b = 1 ∧ f i < 1) ∨ ((n.rd i).b = u ∧ (n.rd i).a = v ∧ b = -1 ∧ -1 < f i))
def Seen (L : List Ent) (v : Nat) : Prop := ∃ e, L[v]? = some (some e)
def Tree (n : Net) (f : Nat → Int) (s : Nat) (L : List Ent) (r : Nat → Nat) : Prop := ∀ v u i b, v ≠ s → L[v]? = some (some (u, i, b)) → ∃ j : Nat, i = (j : Int) ∧ Res n f u j b v ∧ Seen L u ∧ r u < r v
structure Found (n : Net) (f : Nat → Int) (s : Nat) (L : List Ent) : Prop where
  len : L.length = n.names.length
  st : L[s]? = some (some (s, -1, 0))
  rk : ∃ r c, (∀ v, Seen L v → r v < c) ∧ Tree n f s L r
def Shut (n : Net) (f : Nat → Int) (L : List Ent) (u : Nat) (k : Nat) : Prop := ∀ i b v, i < k → Res n f u i b v → Seen L v
/-- what search gives -/
structure SearchOk (n : Net) (f : Nat → Int) (s : Nat) (L : List Ent) : Prop where
  fd : Found n f s L
  cl : ∀ u, Seen L u → Shut n f L u n.rs.length
structure Qu (n : Net) (f : Nat → Int) (s : Nat) (x : Nat → Prop) (L : List Ent) (Q : List Nat) (m : Nat) : Prop where
  fd : Found n f s L
  q : ∀ v ∈ Q, Seen L v
  cl : ∀ u, Seen L u → u ∉ Q → ¬ x u → Shut n f L u n.rs.length
  ct : L.countP Option.isNone + Q.length = m
theorem seen_set {L : List Ent} {v w : Nat} {e : Nat × Int × Int} (h : Seen L w) : Seen (L.set v (some e)) w := by
  obtain ⟨e', h⟩ := h
  by_cases q : v = w
  · subst q
    exact ⟨e, List.getElem?_set_self (List.getElem?_eq_some_iff.mp h).1⟩
  · exact ⟨e', by rw [List.getElem?_set_ne q]; exact h⟩
theorem seen_back {L : List Ent} {v w : Nat} {e : Nat × Int × Int} (h : Seen (L.set v (some e)) w) : w = v ∨ Seen L w := by
  obtain ⟨e', h⟩ := h
  by_cases q : v = w
  · exact .inl q.symm
  · exact .inr ⟨e', by rw [List.getElem?_set_ne q] at h; exact h⟩
theorem Found.add {n : Net} {f : Nat → Int} {s : Nat} {L : List Ent} {u i v : Nat} {b : Int} (h : Found n f s L) (hu : Seen L u) (hr : Res n f u i b v) (hv : ¬ Seen L v) : Found n f s (L.set v (some (u, (i : Int), b))) := by
  obtain ⟨r, c, h1, h2⟩ := h.rk
  have hvs : v ≠ s := fun e => hv ⟨_, e ▸ h.st⟩
  have huv : u ≠ v := fun e => hv (e ▸ hu)
  refine ⟨by rw [List.length_set]; exact h.len, by rw [List.getElem?_set_ne hvs]; exact h.st, fun w => if w = v then c else r w, c + 1, fun w hw => ?_, fun w u' i' b' hws he => ?_⟩
  · by_cases q : w = v
    · show (if _ then _ else _) < _
      rw [if_pos q]; omega
    · show (if _ then _ else _) < _
      rw [if_neg q]
      rcases seen_back hw with z | z
      · exact absurd z q
      · have := h1 w z; omega
  · by_cases q : v = w
    · subst q
      have hl : v < L.length := by
        have := (List.getElem?_eq_some_iff.mp he).1
        rw [List.length_set] at this; exact this
      rw [List.getElem?_set_self hl] at he
      cases he
      refine ⟨i, rfl, hr, seen_set hu, ?_⟩
      show (if _ then _ else _) < (if _ then _ else _)
      rw [if_neg huv, if_pos rfl]
      exact h1 u hu
    · rw [List.getElem?_set_ne q] at he
      obtain ⟨j, e, hr', hs, hlt⟩ := h2 w u' i' b' hws he
      refine ⟨j, e, hr', seen_set hs, ?_⟩
      show (if _ then _ else _) < (if _ then _ else _)
      rw [if_neg (fun z : u' = v => hv (z ▸ hs)), if_neg (fun z : w = v => q z.symm)]
      exact hlt
theorem Res.lt {n : Net} (ok : n.ok) {f : Nat → Int} {u i v : Nat} {b : Int} (h : Res n f u i b v) : u < n.names.length ∧ v < n.names.length := by
  obtain ⟨hi, ⟨h1, h2, _, _⟩ | ⟨h1, h2, _, _⟩⟩ := h
  · exact ⟨h1 ▸ ok.ai hi, h2 ▸ ok.bi hi⟩
  · exact ⟨h1 ▸ ok.bi hi, h2 ▸ ok.ai hi⟩
theorem Qu.add {n : Net} (ok : n.ok) {f : Nat → Int} {s : Nat} {x : Nat → Prop} {L : List Ent} {Q : List Nat} {m : Nat} {u i v : Nat} {b : Int} (h : Qu n f s x L Q m) (hu : Seen L u) (hr : Res n f u i b v) (hv : ¬ Seen L v) :
    Qu n f s x (L.set v (some (u, (i : Int), b))) (Q ++ [v]) m := by
  refine ⟨h.fd.add hu hr hv, fun w hw => ?_, fun w hs hq hx j b' z hj hr' => ?_, ?_⟩
  · rcases List.mem_append.mp hw with hw | hw
    · exact seen_set (h.q w hw)
    · cases List.mem_singleton.mp hw
      exact ⟨_, List.getElem?_set_self (by rw [h.fd.len]; exact (hr.lt ok).2)⟩
  · rcases seen_back hs with e | e
    · exact absurd (List.mem_append.mpr (.inr (List.mem_singleton.mpr e))) hq
    · exact seen_set (h.cl w e (fun q => hq (List.mem_append.mpr (.inl q))) hx j b' z hj hr')
  · have hl : v < L.length := by rw [h.fd.len]; exact (hr.lt ok).2
    have hn : L[v].isNone = true := by
      cases q : L[v] with
      | none => rfl
      | some e => exact absurd ⟨e, by rw [List.getElem?_eq_getElem hl, q]⟩ hv
    have hp : 0 < L.countP Option.isNone := List.countP_pos_iff.mpr ⟨_, List.getElem_mem hl, hn⟩
    rw [List.countP_set hl, if_pos hn, if_neg (by simp), List.length_append]
    have := h.ct
    simp only [List.length_cons, List.length_nil]
    omega
theorem Shut.set {n : Net} {f : Nat → Int} {L : List Ent} {u k v : Nat} {e : Nat × Int × Int} (h : Shut n f L u k) : Shut n f (L.set v (some e)) u k := fun i b w hi hr => seen_set (h i b w hi hr)
/-- one way along a reading -/
def Shut1 (n : Net) (f : Nat → Int) (L : List Ent) (u k : Nat) (b : Int) : Prop := ∀ v, Res n f u k b v → Seen L v
theorem Shut1.set {n : Net} {f : Nat → Int} {L : List Ent} {u k v : Nat} {b : Int} {e : Nat × Int × Int} (h : Shut1 n f L u k b) : Shut1 n f (L.set v (some e)) u k b := fun w hr => seen_set (h w hr)
theorem Shut.more {n : Net} {f : Nat → Int} {L : List Ent} {u k : Nat} (h : Shut n f L u k) (h1 : Shut1 n f L u k 1) (h2 : Shut1 n f L u k (-1)) : Shut n f L u (k + 1) := fun i b v hi hr => by
  by_cases e : i = k
  · subst e
    rcases hr.2 with ⟨_, _, rfl, _⟩ | ⟨_, _, rfl, _⟩
    · exact h1 v hr
    · exact h2 v hr
  · exact h i b v (by omega) hr
theorem getD_seen {L : List Ent} {v : Nat} (hl : v < L.length) (h : (L.getD v none).isNone = true) : ¬ Seen L v := fun ⟨e, he⟩ => by
  rw [List.getD_eq_getElem?_getD, he] at h
  cases h
theorem getD_unseen {L : List Ent} {v : Nat} (hl : v < L.length) (h : (L.getD v none).isNone = false) : Seen L v := by
  rw [List.getD_eq_getElem?_getD, List.getElem?_eq_getElem hl] at h
  cases q : L[v] with
  | none => rw [q] at h; cases h
  | some e => exact ⟨e, by rw [List.getElem?_eq_getElem hl, q]⟩
theorem at_ent {L : List Ent} {v : Nat} (hl : v < L.length) : atI (L.map entD) (v : Int) = some (entD (L.getD v none)) := by
  refine L2.atI_nat ?_
  rw [List.getElem?_map, List.getElem?_eq_getElem hl, List.getD_eq_getElem?_getD, List.getElem?_eq_getElem hl]; rfl
def L0 (n : Net) (s : Nat) : List Ent := (List.replicate n.names.length none).set s (some (s, -1, 0))
theorem qu0 {n : Net} {f : Nat → Int} {s : Nat} (hs : s < n.names.length) : Qu n f s (fun _ => False) (L0 n s) [s] n.names.length := by
  have hst : (L0 n s)[s]? = some (some (s, -1, 0)) := by
    unfold L0
    rw [List.getElem?_set_self (by rw [List.length_replicate]; exact hs)]
  have only : ∀ v, v ≠ s → ∀ e, (L0 n s)[v]? ≠ some (some e) := fun v hv e he => by
    unfold L0 at he
    rw [List.getElem?_set_ne (fun z => hv z.symm), List.getElem?_replicate] at he
    by_cases q : v < n.names.length
    · rw [if_pos q] at he; cases he
    · rw [if_neg q] at he; cases he
  refine ⟨⟨by unfold L0; simp, hst, fun _ => 0, 1, fun _ _ => Nat.zero_lt_one, fun v u i b hv he => absurd he (only v hv _)⟩, fun v hv => ?_, fun u hu hq _ => ?_, ?_⟩
  · cases List.mem_singleton.mp hv
    exact ⟨_, hst⟩
  · obtain ⟨e, he⟩ := hu
    exact absurd he (only u (fun z => hq (List.mem_singleton.mpr z)) e)
  · unfold L0
    rw [List.countP_set (by rw [List.length_replicate]; exact hs), List.countP_replicate]
    simp
    omega
theorem Qu.pop {n : Net} {f : Nat → Int} {s : Nat} {L : List Ent} {u : Nat} {Q : List Nat} {m : Nat} (h : Qu n f s (fun _ => False) L (u :: Q) m) : Qu n f s (fun v => v = u) L Q (m - 1) ∧ Seen L u ∧ m - 1 < m :=
  ⟨⟨h.fd, fun v hv => h.q v (List.mem_cons_of_mem _ hv), fun w hw hq hx => h.cl w hw (fun z => by
    rcases List.mem_cons.mp z with z | z
    · exact hx z
    · exact hq z) (fun z => z), by have := h.ct; simp at this; omega⟩, h.q u List.mem_cons_self, by have := h.ct; simp at this; omega⟩
theorem Qu.shut {n : Net} {f : Nat → Int} {s : Nat} {L : List Ent} {u : Nat} {Q : List Nat} {m : Nat} (h : Qu n f s (fun v => v = u) L Q m) (hs : Shut n f L u n.rs.length) : Qu n f s (fun _ => False) L Q m :=
  ⟨h.fd, h.q, fun w hw hq _ => by
    by_cases e : w = u
    · subst e; exact hs
    · exact h.cl w hw hq e, h.ct⟩
theorem Qu.done {n : Net} {f : Nat → Int} {s : Nat} {L : List Ent} {m : Nat} (h : Qu n f s (fun _ => False) L [] m) : SearchOk n f s L := ⟨h.fd, fun u hu => h.cl u hu (fun z => by cases z) (fun z => z)⟩
theorem Found.lt {n : Net} {f : Nat → Int} {s : Nat} {L : List Ent} (h : Found n f s L) {v : Nat} (hv : Seen L v) : v < n.names.length := by
  obtain ⟨e, he⟩ := hv
  rw [← h.len]
  exact (List.getElem?_eq_some_iff.mp he).1
theorem set_ent {L : List Ent} {v : Nat} {e : Ent} : (L.map entD).set v (entD e) = (L.set v e).map entD := by rw [List.map_set]
end TL

set_option autoImplicit true
set_option maxHeartbeats 200000
set_option maxRecDepth 512
set_option Elab.async false
set_option linter.all false
set_option autoImplicit false
set_option maxRecDepth 100000
set_option maxHeartbeats 1000000
/-! flows -/
namespace TL
open PySem PySem.Spec PyProof.Rows L2
def up (f : Nat → Int) (i : Nat) (x : Int) : Nat → Int := fun j => if j = i then x else f j
theorem up_same {f : Nat → Int} {i : Nat} {x : Int} : up f i x i = x := if_pos rfl
theorem up_ne {f : Nat → Int} {i j : Nat} {x : Int} (h : j ≠ i) : up f i x j = f j := if_neg h
theorem fn_set {l : List Int} {i : Nat} {x : Int} (h : i < l.length) : fn (l.set i x) = up (fn l) i x := by
  funext j
  unfold fn up
  by_cases e : j = i
  · subst e; rw [if_pos rfl, getD_set_self h]
  · rw [if_neg e, getD_set_ne (fun z => e z.symm)]
theorem ex_up {n : Net} {f : Nat → Int} {i v : Nat} {x : Int} : ∀ {k : Nat}, i < k → ex n (up f i x) k v = ex n f k v - (if (n.rd i).a = v then x - f i else 0) + (if (n.rd i).b = v then x - f i else 0)
  | 0, h => absurd h (by omega)
  | k + 1, h => by
    rw [ex, ex]
    by_cases e : i = k
    · subst e
      rw [up_same]
      have h2 : ex n (up f i x) i v = ex n f i v := ex_up_ge (Nat.le_refl _)
      rw [h2]
      split <;> split <;> omega
    · rw [ex_up (k := k) (by omega), up_ne (fun z => e z.symm)]
      omega
where
  ex_up_ge {n : Net} {f : Nat → Int} {i v : Nat} {x : Int} : ∀ {k : Nat}, k ≤ i → ex n (up f i x) k v = ex n f k v
  | 0, _ => rfl
  | k + 1, h => by rw [ex, ex, ex_up_ge (k := k) (by omega), up_ne (by omega)]
theorem ex_le {n : Net} {f : Nat → Int} {v : Nat} : ∀ {k : Nat}, (∀ i, i < k → -1 ≤ f i ∧ f i ≤ 1) → (∀ i, i < k → (n.rd i).a ≠ (n.rd i).b) → -(k : Int) ≤ ex n f k v ∧ ex n f k v ≤ k
  | 0, _, _ => by rw [ex]; omega
  | k + 1, h, hn => by
    have h1 := ex_le (k := k) (v := v) (fun i hi => h i (by omega)) (fun i hi => hn i (by omega))
    have h2 := h k (by omega)
    have h3 := hn k (by omega)
    rw [ex]
    by_cases ea : (n.rd k).a = v
    · rw [if_pos ea, if_neg (fun eb => h3 (ea.trans eb.symm))]; omega
    · rw [if_neg ea]
      split <;> omega
theorem ex_congr {n : Net} {f g : Nat → Int} {v : Nat} : ∀ {k : Nat}, (∀ i, i < k → f i = g i) → ex n f k v = ex n g k v
  | 0, _ => rfl
  | k + 1, h => by rw [ex, ex, ex_congr (k := k) fun i hi => h i (by omega), h k (by omega)]
theorem ex_zero {n : Net} {f : Nat → Int} {v : Nat} : ∀ {k : Nat}, (∀ i, i < k → f i = 0) → ex n f k v = 0
  | 0, _ => rfl
  | k + 1, h => by rw [ex, ex_zero (k := k) fun i hi => h i (by omega), h k (by omega)]; simp
structure Lim (n : Net) (s : Nat) (f : Nat → Int) : Prop where
  b : ∀ i, i < n.rs.length → -1 ≤ f i ∧ f i ≤ 1
  i1 : ∀ i, i < n.rs.length → (n.rd i).b = s → f i ≤ 0
  i2 : ∀ i, i < n.rs.length → (n.rd i).a = s → 0 ≤ f i
def one (p q : Nat) : Int := if p = q then 1 else 0
theorem one_self {p : Nat} : one p p = 1 := if_pos rfl
theorem one_ne {p q : Nat} (h : p ≠ q) : one p q = 0 := if_neg h
theorem Lim.step {n : Net} (ok : n.ok) {s u i v : Nat} {b : Int} {f : Nat → Int} (h : Lim n s f) (hr : Res n f u i b v) (hv : v ≠ s) : Lim n s (up f i (f i + b)) ∧ ∀ w, ex n (up f i (f i + b)) n.rs.length w = ex n f n.rs.length w + one w v - one w u := by
  have hi := hr.1
  have hb := h.b i hi
  have hn := ok.nei hi
  have a1 := h.i1 i hi
  have a2 := h.i2 i hi
  have split3 : ∀ j, j < n.rs.length → ∀ P : Int → Prop, P (f j) → (j = i → P (f i + b)) → P (up f i (f i + b) j) := fun j hj P p1 p2 => by
    by_cases e : j = i
    · rw [e, up_same]; exact p2 e
    · rw [up_ne e]; exact p1
  refine ⟨⟨fun j hj => split3 j hj (fun x => -1 ≤ x ∧ x ≤ 1) (h.b j hj) fun _ => ?_, fun j hj e => split3 j hj (fun x => x ≤ 0) (h.i1 j hj e) fun z => ?_, fun j hj e => split3 j hj (fun x => 0 ≤ x) (h.i2 j hj e) fun z => ?_⟩, fun w => ?_⟩
  · rcases hr.2 with ⟨_, _, e, _⟩ | ⟨_, _, e, _⟩ <;> omega
  · subst z
    rcases hr.2 with ⟨_, e2, _⟩ | ⟨_, _, e3, _⟩
    · exact absurd (e2.symm.trans e) hv
    · have := a1 e; omega
  · subst z
    rcases hr.2 with ⟨_, _, e3, _⟩ | ⟨_, e2, _⟩
    · have := a2 e; omega
    · exact absurd (e2.symm.trans e) hv
  · rw [ex_up hi]
    unfold one
    rcases hr.2 with ⟨e1, e2, e3, _⟩ | ⟨e1, e2, e3, _⟩
    all_goals
      rw [← e1, ← e2, e3]
      simp only [@eq_comm _ w]
      by_cases p : (n.rd i).a = w
      · have q : ¬ (n.rd i).b = w := fun q => hn (p.trans q.symm)
        simp only [if_pos p, if_neg q]; omega
      · by_cases q : (n.rd i).b = w
        · simp only [if_neg p, if_pos q]; omega
        · simp only [if_neg p, if_neg q]; omega
/-- a flow from s to t -/
structure Flow (n : Net) (s t : Nat) (f : Nat → Int) : Prop where
  l : Lim n s f
  ev : ∀ v, v < n.names.length → v ≠ s → v ≠ t → ex n f n.rs.length v = 0
  st : ex n f n.rs.length s + ex n f n.rs.length t = 0
/-- on the way back along what was found -/
structure Back (n : Net) (s t : Nat) (r : Nat → Nat) (f0 f : Nat → Int) (v : Nat) : Prop where
  l : Lim n s f
  e : ∀ w, ex n f n.rs.length w = ex n f0 n.rs.length w + one w t - one w v
  k : ∀ i, i < n.rs.length → r (n.rd i).a ≤ r v → r (n.rd i).b ≤ r v → f i = f0 i
theorem Back.start {n : Net} {s t : Nat} {r : Nat → Nat} {f : Nat → Int} (h : Lim n s f) : Back n s t r f f t := ⟨h, fun w => by omega, fun _ _ _ _ => rfl⟩
theorem Back.step {n : Net} (ok : n.ok) {s t u i v : Nat} {b : Int} {r : Nat → Nat} {f0 f : Nat → Int} (h : Back n s t r f0 f v) (hr : Res n f0 u i b v) (hv : v ≠ s) (hlt : r u < r v) : Back n s t r f0 (up f i (f i + b)) u := by
  have hf : f i = f0 i := by
    rcases hr.2 with ⟨e1, e2, _⟩ | ⟨e1, e2, _⟩
    · exact h.k i hr.1 (by rw [e1]; omega) (by rw [e2]; omega)
    · exact h.k i hr.1 (by rw [e2]; omega) (by rw [e1]; omega)
  have hr' : Res n f u i b v := by
    refine ⟨hr.1, ?_⟩
    rw [hf]; exact hr.2
  have hs := h.l.step ok hr' hv
  refine ⟨hs.1, fun w => by rw [hs.2, h.e]; omega, fun j hj ha hb => ?_⟩
  have hji : j ≠ i := fun e => by
    subst e
    rcases hr.2 with ⟨e1, e2, _⟩ | ⟨e1, e2, _⟩
    · rw [e2] at hb; omega
    · rw [e2] at ha; omega
  rw [up_ne hji]
  exact h.k j hj (by omega) (by omega)
theorem Back.done {n : Net} {s t : Nat} {r : Nat → Nat} {f0 f : Nat → Int} (hst : s ≠ t) (h0 : Flow n s t f0) (h : Back n s t r f0 f s) : Flow n s t f ∧ ex n f n.rs.length t = ex n f0 n.rs.length t + 1 :=
  ⟨⟨h.l, fun v hv h1 h2 => by rw [h.e, h0.ev v hv h1 h2, one_ne h1, one_ne h2]; rfl, by rw [h.e, h.e, one_self, one_self, one_ne hst, one_ne (fun e => hst e.symm)]; have := h0.st; omega⟩, by rw [h.e, one_self, one_ne (fun e => hst e.symm)]; omega⟩
structure MaxFlow (n : Net) (s t : Nat) (f : List Int) : Prop where
  len : f.length = n.rs.length
  fl : Flow n s t (fn f)
  no : ∃ L, SearchOk n (fn f) s L ∧ ¬ Seen L t
theorem flow0 {n : Net} {s t : Nat} : Flow n s t (fn (List.replicate n.rs.length 0)) := by
  have h0 : ∀ i, fn (List.replicate n.rs.length 0) i = 0 := fun i => by
    unfold fn
    rw [List.getD_eq_getElem?_getD, List.getElem?_replicate]
    split <;> rfl
  exact ⟨⟨fun i _ => by rw [h0]; omega, fun i _ _ => by rw [h0]; omega, fun i _ _ => by rw [h0]; omega⟩, fun v _ _ _ => ex_zero fun i _ => h0 i, by rw [ex_zero fun i _ => h0 i, ex_zero fun i _ => h0 i]; rfl⟩
theorem at_ent2 {L : List Ent} {v u : Nat} {i b : Int} (h : L[v]? = some (some (u, i, b))) : atI (L.map entD) (v : Int) = some (.tup [.int (u : Int), .int i, .int b]) := by
  refine L2.atI_nat ?_
  rw [List.getElem?_map, h]; rfl
/-- what is found is what can be reached: it does not depend on how -/
theorem SearchOk.sub {n : Net} {f : Nat → Int} {s : Nat} {L L' : List Ent} (h : SearchOk n f s L) (h' : SearchOk n f s L') {v : Nat} (hv : Seen L' v) : Seen L v := by
  obtain ⟨r, c, h1, h2⟩ := h'.fd.rk
  have key : ∀ k v, r v < k → Seen L' v → Seen L v := by
    intro k
    induction k with
    | zero => intro v hk; omega
    | succ k ih =>
      intro v hk hv
      by_cases e : v = s
      · rw [e]; exact ⟨_, h.fd.st⟩
      · obtain ⟨⟨u, i, b⟩, he⟩ := hv
        obtain ⟨j, rfl, hr, hs, hlt⟩ := h2 v u i b e he
        exact h.cl u (ih u (by omega) hs) j b v hr.1 hr
  exact key _ v (Nat.lt_succ_self _) hv
/-! ways of a flow -/
def OutAt (n : Net) (f : Nat → Int) (v i : Nat) : Prop := i < n.rs.length ∧ (((n.rd i).a = v ∧ f i = 1) ∨ ((n.rd i).b = v ∧ f i = -1))
theorem ex_out {n : Net} (ok : n.ok) {f : Nat → Int} {v : Nat} : ∀ {k : Nat}, k ≤ n.rs.length → (∀ i, i < n.rs.length → -1 ≤ f i ∧ f i ≤ 1) → (∀ i, ¬ OutAt n f v i) → 0 ≤ ex n f k v
  | 0, _, _, _ => by rw [ex]; omega
  | k + 1, hk, hb, h => by
    have ih := ex_out ok (k := k) (by omega) hb h
    have b := hb k (by omega)
    have ne := ok.nei (i := k) (by omega)
    rw [ex]
    by_cases ea : (n.rd k).a = v
    · rw [if_pos ea, if_neg (fun eb => ne (ea.trans eb.symm))]
      have : f k ≠ 1 := fun e => h k ⟨by omega, .inl ⟨ea, e⟩⟩
      omega
    · rw [if_neg ea]
      by_cases eb : (n.rd k).b = v
      · rw [if_pos eb]
        have : f k ≠ -1 := fun e => h k ⟨by omega, .inr ⟨eb, e⟩⟩
        omega
      · rw [if_neg eb]; omega
theorem ex_in {n : Net} (ok : n.ok) {f : Nat → Int} {s : Nat} (h : Lim n s f) : ∀ {k : Nat}, k ≤ n.rs.length → ex n f k s ≤ 0 ∧ ∀ i, i < k → OutAt n f s i → ex n f k s ≤ -1
  | 0, _ => ⟨by rw [ex]; omega, fun i hi => absurd hi (by omega)⟩
  | k + 1, hk => by
    have ih := ex_in ok h (k := k) (by omega)
    have b := h.b k (by omega)
    have ne := ok.nei (i := k) (by omega)
    rw [ex]
    have h1 := h.i1 k (by omega)
    have h2 := h.i2 k (by omega)
    have hout : ∀ i, i < k + 1 → OutAt n f s i → (i < k) ∨ ((n.rd k).a = s ∧ f k = 1) ∨ ((n.rd k).b = s ∧ f k = -1) := fun i hi ho => by
      by_cases e : i = k
      · subst e; exact .inr ho.2
      · exact .inl (by omega)
    by_cases ea : (n.rd k).a = s
    · have eb : ¬ (n.rd k).b = s := fun eb => ne (ea.trans eb.symm)
      rw [if_pos ea, if_neg eb]
      have := h2 ea
      refine ⟨by omega, fun i hi ho => ?_⟩
      rcases hout i hi ho with z | ⟨_, z⟩ | ⟨z, _⟩
      · have := ih.2 i z ho; omega
      · omega
      · exact absurd z eb
    · rw [if_neg ea]
      by_cases eb : (n.rd k).b = s
      · rw [if_pos eb]
        have := h1 eb
        refine ⟨by omega, fun i hi ho => ?_⟩
        rcases hout i hi ho with z | ⟨z, _⟩ | ⟨_, z⟩
        · have := ih.2 i z ho; omega
        · exact absurd z ea
        · omega
      · rw [if_neg eb]
        refine ⟨by omega, fun i hi ho => ?_⟩
        rcases hout i hi ho with z | ⟨z, _⟩ | ⟨z, _⟩
        · have := ih.2 i z ho; omega
        · exact absurd z ea
        · exact absurd z eb
/-- on a way from s, at v -/
structure Fwd (n : Net) (s : Nat) (f0 f : Nat → Int) (v : Nat) : Prop where
  l : Lim n s f
  e : ∀ w, ex n f n.rs.length w = ex n f0 n.rs.length w + one w s - one w v
theorem Fwd.start {n : Net} {s : Nat} {f : Nat → Int} (h : Lim n s f) : Fwd n s f f s := ⟨h, fun w => by omega⟩
theorem Fwd.out {n : Net} (ok : n.ok) {s t v : Nat} {f0 f : Nat → Int} (h0 : Flow n s t f0) (hs : ex n f0 n.rs.length s < 0) (h : Fwd n s f0 f v) (hv : v < n.names.length) (ht : v ≠ t) : ∃ i, OutAt n f v i := by
  refine Classical.byContradiction fun hno => ?_
  have h1 := ex_out ok (v := v) (Nat.le_refl _) h.l.b (fun i hi => hno ⟨i, hi⟩)
  rw [h.e, one_self] at h1
  by_cases e : v = s
  · subst e; rw [one_self] at h1; omega
  · rw [one_ne e, h0.ev v hv e ht] at h1; omega
def otherEnd (n : Net) (i v : Nat) : Nat := if (n.rd i).a = v then (n.rd i).b else (n.rd i).a
theorem otherEnd_int {n : Net} {f : Nat → Int} {i v : Nat} (h : OutAt n f v i) : (((n.rd i).a : Int) + (n.rd i).b - v) = (otherEnd n i v : Nat) := by
  unfold otherEnd
  rcases h.2 with ⟨e, _⟩ | ⟨e, _⟩
  · rw [if_pos e, ← e]; omega
  · split
    · rename_i q; rw [← q]; omega
    · rw [← e]; omega
theorem otherEnd_lt {n : Net} (ok : n.ok) {i v : Nat} (h : i < n.rs.length) : otherEnd n i v < n.names.length := by
  unfold otherEnd
  split
  · exact ok.bi h
  · exact ok.ai h
theorem Fwd.step {n : Net} (ok : n.ok) {s v i : Nat} {f0 f : Nat → Int} (h : Fwd n s f0 f v) (ho : OutAt n f v i) : Fwd n s f0 (up f i 0) (otherEnd n i v) := by
  have hi := ho.1
  have hn := ok.nei hi
  have split3 : ∀ j, j < n.rs.length → ∀ P : Int → Prop, P (f j) → P 0 → P (up f i 0 j) := fun j hj P p1 p2 => by
    by_cases e : j = i
    · rw [e, up_same]; exact p2
    · rw [up_ne e]; exact p1
  refine ⟨⟨fun j hj => split3 j hj (fun x => -1 ≤ x ∧ x ≤ 1) (h.l.b j hj) (by omega), fun j hj e => split3 j hj (fun x => x ≤ 0) (h.l.i1 j hj e) (by omega), fun j hj e => split3 j hj (fun x => 0 ≤ x) (h.l.i2 j hj e) (by omega)⟩, fun w => ?_⟩
  rw [ex_up hi, h.e]
  unfold one otherEnd
  rcases ho.2 with ⟨e1, e2⟩ | ⟨e1, e2⟩
  · rw [if_pos e1, ← e1, e2]
    simp only [@eq_comm _ w]
    by_cases p : (n.rd i).a = w
    · have q : ¬ (n.rd i).b = w := fun q => hn (p.trans q.symm)
      simp only [if_pos p, if_neg q]; omega
    · by_cases q : (n.rd i).b = w
      · simp only [if_neg p, if_pos q]; omega
      · simp only [if_neg p, if_neg q]; omega
  · have hq : ¬ (n.rd i).a = v := fun q => hn (q.trans e1.symm)
    rw [if_neg hq, ← e1, e2]
    simp only [@eq_comm _ w]
    by_cases p : (n.rd i).a = w
    · have q : ¬ (n.rd i).b = w := fun q => hn (p.trans q.symm)
      simp only [if_pos p, if_neg q]; omega
    · by_cases q : (n.rd i).b = w
      · simp only [if_neg p, if_pos q]; omega
      · simp only [if_neg p, if_neg q]; omega
theorem Fwd.done {n : Net} {s t : Nat} {f0 f : Nat → Int} (hst : s ≠ t) (h0 : Flow n s t f0) (h : Fwd n s f0 f t) : Flow n s t f ∧ ex n f n.rs.length t = ex n f0 n.rs.length t - 1 :=
  ⟨⟨h.l, fun v hv h1 h2 => by rw [h.e, h0.ev v hv h1 h2, one_ne h1, one_ne h2]; rfl, by rw [h.e, h.e, one_self, one_self, one_ne hst, one_ne (fun e => hst e.symm)]; have := h0.st; omega⟩, by rw [h.e, one_self, one_ne (fun e => hst e.symm)]; omega⟩
theorem cnt_set {l : List Int} {i : Nat} (hi : i < l.length) (h : fn l i ≠ 0) : (l.set i 0).countP (fun x => decide (x ≠ 0)) + 1 = l.countP (fun x => decide (x ≠ 0)) := by
  have e : l[i] = fn l i := by unfold fn; rw [List.getD_eq_getElem?_getD, List.getElem?_eq_getElem hi]; rfl
  have hd : decide (l[i] ≠ 0) = true := by rw [e]; exact decide_eq_true h
  have hp : 0 < l.countP (fun x => decide (x ≠ 0)) := List.countP_pos_iff.mpr ⟨_, List.getElem_mem hi, hd⟩
  rw [List.countP_set hi, if_pos hd, if_neg (by simp)]
  omega
/-! sides and cuts -/
def cutN (n : Net) (S : Nat → Bool) : Nat := (ixs n.rs.length fun i => S (n.rd i).a != S (n.rd i).b).length
def exS (n : Net) (f : Nat → Int) (S : Nat → Bool) : Nat → Int
  | 0 => 0
  | k + 1 => exS n f S k - (if S (n.rd k).a = true then f k else 0) + (if S (n.rd k).b = true then f k else 0)
def sumS (g : Nat → Int) (S : Nat → Bool) : Nat → Int
  | 0 => 0
  | k + 1 => sumS g S k + if S k = true then g k else 0
theorem sumS_two {g : Nat → Int} {S : Nat → Bool} {a b : Nat} {x y : Int} : ∀ {N : Nat}, sumS (fun v => g v - (if a = v then x else 0) + (if b = v then y else 0)) S N = sumS g S N - (if a < N ∧ S a = true then x else 0) + (if b < N ∧ S b = true then y else 0)
  | 0 => by rw [sumS, sumS, if_neg (by omega), if_neg (by omega)]; rfl
  | N + 1 => by
    rw [sumS, sumS, sumS_two (N := N)]
    have hA : ∀ c : Nat, ∀ z : Int, (if c < N + 1 ∧ S c = true then z else 0) = (if c < N ∧ S c = true then z else 0) + (if S N = true then (if c = N then z else 0) else 0) := fun c z => by
      by_cases h1 : c = N
      · subst h1
        by_cases h2 : S c = true
        · rw [if_pos ⟨by omega, h2⟩, if_neg (by omega), if_pos h2, if_pos rfl]; omega
        · rw [if_neg (fun q => h2 q.2), if_neg (by omega), if_neg h2]; rfl
      · by_cases h2 : S c = true
        · by_cases h3 : c < N
          · rw [if_pos ⟨by omega, h2⟩, if_pos ⟨h3, h2⟩, if_neg h1]; split <;> omega
          · rw [if_neg (by omega), if_neg (by omega), if_neg h1]; split <;> omega
        · rw [if_neg (fun q => h2 q.2), if_neg (fun q => h2 q.2), if_neg h1]; split <;> omega
    rw [hA a x, hA b y]
    by_cases h : S N = true
    · simp only [if_pos h]; omega
    · simp only [if_neg h]; omega
theorem sumS_congr {g g' : Nat → Int} {S : Nat → Bool} : ∀ {N : Nat}, (∀ v, v < N → S v = true → g v = g' v) → sumS g S N = sumS g' S N
  | 0, _ => rfl
  | N + 1, h => by
    rw [sumS, sumS, sumS_congr (N := N) fun v hv => h v (by omega)]
    by_cases q : S N = true
    · rw [if_pos q, if_pos q, h N (by omega) q]
    · rw [if_neg q, if_neg q]
theorem exS_sum {n : Net} (ok : n.ok) {f : Nat → Int} {S : Nat → Bool} : ∀ {k : Nat}, k ≤ n.rs.length → exS n f S k = sumS (ex n f k) S n.names.length
  | 0, _ => by
    have : ∀ N, sumS (ex n f 0) S N = 0 := fun N => by
      induction N with
      | zero => rfl
      | succ N ih => rw [sumS, ih, ex]; simp
    rw [exS, this]
  | k + 1, hk => by
    have e : ex n f (k + 1) = fun v => ex n f k v - (if (n.rd k).a = v then f k else 0) + (if (n.rd k).b = v then f k else 0) := by funext v; rw [ex]
    rw [e, sumS_two, exS, exS_sum ok (k := k) (by omega)]
    have ha := ok.ai (i := k) (by omega)
    have hb := ok.bi (i := k) (by omega)
    have e1 : ((n.rd k).a < n.names.length ∧ S (n.rd k).a = true) = (S (n.rd k).a = true) := by simp [ha]
    have e2 : ((n.rd k).b < n.names.length ∧ S (n.rd k).b = true) = (S (n.rd k).b = true) := by simp [hb]
    simp only [e1, e2]
theorem sumS_one {g : Nat → Int} {S : Nat → Bool} {t : Nat} (ht : S t = true) : ∀ {N : Nat}, (∀ v, v < N → S v = true → v ≠ t → g v = 0) → sumS g S N = if t < N then g t else 0
  | 0, _ => by rw [sumS, if_neg (by omega)]
  | N + 1, h => by
    rw [sumS, sumS_one ht (N := N) fun v hv => h v (by omega)]
    by_cases e : N = t
    · subst e; rw [if_neg (by omega), if_pos ht, if_pos (by omega)]; omega
    · by_cases q : S N = true
      · rw [if_pos q, h N (by omega) q e]
        by_cases z : t < N
        · rw [if_pos z, if_pos (by omega)]; omega
        · rw [if_neg z, if_neg (by omega)]; omega
      · rw [if_neg q]
        by_cases z : t < N
        · rw [if_pos z, if_pos (by omega)]; omega
        · rw [if_neg z, if_neg (by omega)]; omega
theorem flow_exS {n : Net} (ok : n.ok) {s t : Nat} {f : Nat → Int} (h : Flow n s t f) {S : Nat → Bool} (h0 : S s = false) (h1 : S t = true) (ht : t < n.names.length) : exS n f S n.rs.length = ex n f n.rs.length t := by
  rw [exS_sum ok (Nat.le_refl _), sumS_one h1 fun v hv hS hne => h.ev v hv (fun e => by rw [e, h0] at hS; cases hS) hne, if_pos ht]
theorem exS_le {n : Net} {f : Nat → Int} {S : Nat → Bool} : ∀ {k : Nat}, (∀ i, i < k → -1 ≤ f i ∧ f i ≤ 1) → exS n f S k ≤ (ixs k fun i => S (n.rd i).a != S (n.rd i).b).length
  | 0, _ => by rw [exS]; omega
  | k + 1, h => by
    have ih := exS_le (n := n) (S := S) (k := k) fun i hi => h i (by omega)
    have b := h k (by omega)
    rw [exS]
    cases ha : S (n.rd k).a <;> cases hb : S (n.rd k).b
    · rw [ixs_no (by rw [ha, hb]; rfl)]; simp; omega
    · rw [ixs_yes (by rw [ha, hb]; rfl)]; simp; omega
    · rw [ixs_yes (by rw [ha, hb]; rfl)]; simp; omega
    · rw [ixs_no (by rw [ha, hb]; rfl)]; simp; omega
theorem exS_full {n : Net} {f : Nat → Int} {S : Nat → Bool} : ∀ {k : Nat}, (∀ i, i < k → S (n.rd i).a = false → S (n.rd i).b = true → f i = 1) → (∀ i, i < k → S (n.rd i).a = true → S (n.rd i).b = false → f i = -1) → exS n f S k = (ixs k fun i => S (n.rd i).a != S (n.rd i).b).length
  | 0, _, _ => by rw [exS]; rfl
  | k + 1, h, h' => by
    have ih := exS_full (n := n) (S := S) (k := k) (fun i hi => h i (by omega)) (fun i hi => h' i (by omega))
    have b1 := h k (by omega)
    have b2 := h' k (by omega)
    rw [exS]
    cases ha : S (n.rd k).a <;> cases hb : S (n.rd k).b
    · rw [ixs_no (by rw [ha, hb]; rfl)]; simp; omega
    · rw [ixs_yes (by rw [ha, hb]; rfl), b1 ha hb]; simp; omega
    · rw [ixs_yes (by rw [ha, hb]; rfl), b2 ha hb]; simp; omega
    · rw [ixs_no (by rw [ha, hb]; rfl)]; simp; omega
structure LeastCut (n : Net) (t : Nat) (S : Nat → Bool) (c : Nat) : Prop where
  z : S 0 = false
  on : S t = true
  sz : cutN n S = c
  le : ∀ S' : Nat → Bool, S' 0 = false → S' t = true → c ≤ cutN n S'
structure MinCut (n : Net) (S : Nat → Bool) (c : Nat) : Prop where
  z : S 0 = false
  on : ∃ v, v < n.names.length ∧ S v = true
  sz : cutN n S = c
  le : ∀ S' : Nat → Bool, S' 0 = false → (∃ v, v < n.names.length ∧ S' v = true) → c ≤ cutN n S'
def unseen (L : List Ent) (v : Nat) : Bool := (L.getD v none).isNone
theorem least_of {n : Net} (ok : n.ok) {t : Nat} {f : List Int} (h : MaxFlow n 0 t f) (ht : t < n.names.length) {L : List Ent} (hL : SearchOk n (fn f) 0 L) : LeastCut n t (unseen L) (ex n (fn f) n.rs.length t).toNat ∧ 0 ≤ ex n (fn f) n.rs.length t := by
  obtain ⟨L', hL', hno⟩ := h.no
  have hz : unseen L 0 = false := by
    unfold unseen
    rw [List.getD_eq_getElem?_getD, hL.fd.st]; rfl
  have hun : ∀ v, v < n.names.length → ¬ Seen L v → unseen L v = true := fun v hv hs => by
    cases q : unseen L v with
    | true => rfl
    | false => exact absurd (getD_unseen (by rw [hL.fd.len]; exact hv) q) hs
  have hse : ∀ v, v < n.names.length → unseen L v = false → Seen L v := fun v hv q => getD_unseen (by rw [hL.fd.len]; exact hv) q
  have hne : ∀ v, v < n.names.length → unseen L v = true → ¬ Seen L v := fun v hv q => getD_seen (by rw [hL.fd.len]; exact hv) q
  have htt : unseen L t = true := hun t ht fun hs => hno (hL'.sub hL hs)
  have e1 := flow_exS ok h.fl hz htt ht
  have e2 : exS n (fn f) (unseen L) n.rs.length = cutN n (unseen L) := exS_full (fun i hi p q => ?_) (fun i hi p q => ?_)
  · refine ⟨⟨hz, htt, by omega, fun S' h0 h1 => ?_⟩, by omega⟩
    have e3 := flow_exS ok h.fl h0 h1 ht
    have e4 : exS n (fn f) S' n.rs.length ≤ cutN n S' := exS_le h.fl.l.b
    omega
  · have b := h.fl.l.b i hi
    refine Classical.byContradiction fun hf => ?_
    exact hne _ (ok.bi hi) q (hL.cl _ (hse _ (ok.ai hi) p) i 1 _ hi ⟨hi, .inl ⟨rfl, rfl, rfl, by omega⟩⟩)
  · have b := h.fl.l.b i hi
    refine Classical.byContradiction fun hf => ?_
    exact hne _ (ok.ai hi) p (hL.cl _ (hse _ (ok.bi hi) q) i (-1) _ hi ⟨hi, .inr ⟨rfl, rfl, rfl, by omega⟩⟩)
end TL

set_option autoImplicit true
set_option maxHeartbeats 200000
set_option maxRecDepth 512
set_option Elab.async false
set_option linter.all false
set_option autoImplicit false
set_option maxRecDepth 100000
set_option maxHeartbeats 1000000
/-! sorted by a key of one's own -/
namespace TL
open PySem PySem.Calls PySem.Spec PyProof.Rows L2 PySem.W
section
variable {X : Cx} {pins : List (Addr × Obj)} {σ : L2.St} {s : Shared} {H : Hp} {E : Value → Shared → Prop}
theorem eachIs_vals {H : Hp} {K : PySem.W.Frag} (I : Inv X pins σ H s) (hK : X.K = K) : ∀ {ks : List V} {us : List Value} {ds : List Dt}, Vals ks us → RpL K H ks ds → EachIs (fun v d => ∃ as, Reads s.heap v d as) us (ds.map Dt.d)
  | [], _, ds, h, r => by
    cases h
    cases ds with
    | nil => exact EachIs.nil
    | cons d ds => have := r.length; simp at this
  | k :: ks, _, ds, h, r => by
    cases h with
    | cons a b =>
      cases ds with
      | nil => have := r.length; simp at this
      | cons d ds =>
        obtain ⟨v, rr, e, h1, h2⟩ := rpl_inv r
        cases e
        exact EachIs.cons (Dp.reads I _ _ _ (hK ▸ h1) a) (eachIs_vals I hK b h2)
theorem sortVals_perm (κ : PyProof.Rows.KeyKind) {ks vs : List Value} (hl : ks.length = vs.length) : (sortVals κ false ks vs).Perm vs := by
  unfold sortVals
  have h := (List.mergeSort_perm (ks.zip vs) (sortLe κ.toKeyOrd false fun p : Keyed => keyD κ p.1)).map Prod.snd
  rwa [List.map_snd_zip (by omega)] at h
theorem hid_at {h : Heap} {a : Addr} : (h.update a fun o => { o with data := .freed }).get? a = none := by
  cases h
  simp only [Heap.update, Heap.get?, Array.getElem?_modify, if_true]
  cases q : (_ : Array Obj)[a]? <;> simp [q]
variable {f : Addr} {fd : FuncData} {ps : List Str} {k : Nat} {pre : List AV → (BV → Prop) → Prop} {kf : Dt → Dt} {a kS e1 : Nat} {xs : List V} {vs : List Value} {ds : List Dt} {P : PySem.Fin → Shared → Prop}
theorem fpOk_of {H' : Hp} {b : Addr} (h : FpOk X pins H b) (n : H' b = none) : FpOk X pins H' b := ⟨n, h.2⟩
theorem keyI_rest (F : FnOk X.prog X.w X.K X.mg X.base CX0 k f fd ps (spP X.K pre)) (hr : Room k X.A.in1.in1) (hb : Binds X.K fd ps [])
    (hpre : ∀ d ∈ ds, pre [.im d] (fun b => b = .im (kf d))) (I : Inv X pins σ H s) (rv : Vals xs vs) (rd : RpL X.K H xs ds) (hZ : vs.length ≤ sizeLine)
    (hal : AllAlike ((ds.map kf).map Dt.d)) (hsk : Sortable ((ds.map kf).map Dt.d)) (hu : ∀ d, d ∈ (ds.map kf).map Dt.d → X.A.in1.in1.units + d.depth < cLine)
    (ka : FpOk X pins H a) (kk : FpOk X pins H kS) (nk : s.heap.get? kS = some (seqObj "list" #[] 0)) (na : s.heap.get? a = some (seqObj "list" #[] e1)) (hka : kS ≠ a)
    (h : ∀ s' H' out c, Inv X pins σ H' s' → Same H H' → H' a = none → s'.heap.get? a = some (seqObj "list" (List.toArray out) c) → out.Perm vs → P (.done (.ret .none)) s') :
    wpAny (model X.prog X.w) X.A.in1.in1 (ksk_rest a (.ref f) false vs.toArray e1 (.ref kS)) P E s := by
  have hlv : vs.length = ds.length := by rw [← rv.length, rd.length]
  unfold ksk_rest
  refine wpAny_bind (wpAny_rule ?_)
  first
    | rw [List.forIn_toArray]
    | (rw [← Array.forIn_toList]; simp only [List.toList_toArray])
    | rw [← Array.forIn_toList]
  refine wpAny_bind (ksk_fold (fun i s' => ∃ H' kA e ks, Inv X pins σ H' s' ∧ Same H H' ∧ H' a = none ∧ H' kS = none ∧ s'.heap.get? kS = some (seqObj "list" kA e) ∧ s'.heap.get? a = some (seqObj "list" #[] e1) ∧ Vals ks kA.toList ∧ RpL X.K H' ks ((ds.take i).map kf)) vs 0 s
    ⟨H, #[], 0, [], I, Same.refl H, ka.1, kk.1, nk, na, .nil, by rw [List.take_zero]; exact rpl_nil⟩ ?step ?done)
  case step =>
    rintro j x s' hx ⟨H', kA, e, ks, I', sm, na0, nk0, nk', na', hv, hk⟩
    simp only [Nat.zero_add] at hk ⊢
    have hj : j < vs.length := (List.getElem?_eq_some_iff.mp hx).1
    have hjd : j < ds.length := by omega
    have hd : ds[j]? = some ds[j] := List.getElem?_eq_getElem hjd
    obtain ⟨w, hw, rw_⟩ : ∃ w, xs[j]? = some w ∧ Rp X.K H w ds[j] := rd.get hd
    have rwx : RelV w x := by
      obtain ⟨x', hx', r⟩ := rv.get hw
      rw [hx] at hx'; cases hx'; exact r
    have st : Tp X.K H H' := fun b ys q => by
      rcases q with (q | ⟨u, q⟩) | q
      · exact .inl (.inl (sm _ _ q))
      · exact .inl (.inr ⟨u, sm _ _ q⟩)
      · exact .inr q
    have rw' : Rp X.K H' w ds[j] := Rp.tp st _ _ rw_
    have hz : kA.size ≤ vs.length := by
      have h1 := hk.length
      have h2 : ks.length = kA.size := by rw [← Array.length_toList]; exact hv.length
      rw [List.length_map, List.length_take] at h1
      omega
    have hkS : kS ∉ frs X.stack := fun z => by
      rcases List.mem_cons.mp (I'.stkSub _ z) with q | q
      · exact kk.2.1 q
      · exact kk.2.2.1 q
    have haS : a ∉ frs X.stack := fun z => by
      rcases List.mem_cons.mp (I'.stkSub _ z) with q | q
      · exact ka.2.1 q
      · exact ka.2.2.1 q
    have hsp : spP X.K pre [w] H' (fun v H2 => Same H' H2 ∧ Rp X.K H2 v (kf ds[j])) E0 := ⟨[.im ds[j]], fun b => b = .im (kf ds[j]), .cons rw' .nil, hpre _ (List.getElem_mem hjd), fun y v H2 hy hs hr => by
      cases hy; exact ⟨hs, hr⟩, fun _ _ _ _ hy => by cases hy⟩
    have hl1 : [x].length = ps.length := by rw [← F.len _ _ _ _ hsp]; rfl
    refine wpAny_bind (wpAny_attempt (wpAny_call (codeAny_mono (F.run X.A.in1.in1 X.stack s' H' ⟨[x], []⟩ [x] [w] _ E0 hr I'.env0.in1.in1 (hb s' [x] I'.kIn hl1) (.cons rwx .nil) hsp) fun r s2 hq => ?_)))
    cases r with
    | error e => exact hq.elim
    | ok fl =>
      cases fl with
      | next => exact hq.elim
      | brk => exact hq.elim
      | cont => exact hq.elim
      | ret u =>
        obtain ⟨v, H2, os, bare, un, hok, ru, hs2, hr2⟩ := hq
        have I2 : Inv X pins σ H2 s2 := I'.call' (ch := []) os un hok bare (fun b z => absurd z (by simp))
        have nk2 := un.keep kS _ nk' nk0 hkS (by simp)
        have na2 := un.keep a _ na' na0 haS (by simp)
        have nk02 := un.free kS _ nk' nk0 (by simp)
        have na02 := un.free a _ na' na0 (by simp)
        have s1 := Heap.SameBut.update s2.heap kS (Obj.mapSeq (·.push u))
        obtain ⟨c2, hc2⟩ : ∃ c2, (s2.heap.update kS (Obj.mapSeq (·.push u))).get? kS = some (seqObj "list" (kA.push u) c2) := ⟨_, get?_update_seq nk2 (·.push u)⟩
        try dsimp only
        refine wpAny_bind (listUpdate_at nk2 rfl ?_ (Nat.le_trans hz hZ) (Nat.le_trans (Nat.le_of_eq (Array.size_push ..)) (Nat.succ_le_succ (Nat.le_trans hz hZ))))
        have st2 : Tp X.K H' H2 := fun b ys q => by
          rcases q with (q | ⟨u, q⟩) | q
          · exact .inl (.inl (hs2 _ _ q))
          · exact .inl (.inr ⟨u, hs2 _ _ q⟩)
          · exact .inr q
        refine wpAny_pure ⟨rfl, H2, kA.push u, c2, ks ++ [v], I2.turnedL (ch := [kS]) (t' := s2.toks) (fun b o hb e => (s1.2 b (by simpa using hb)).trans e) (fun b hb => by
          cases List.mem_singleton.mp hb
          exact fpOk_of kk nk02), Same.trans sm hs2, na02, nk02, hc2, (s1.2 a hka.symm).trans na2, ?_, ?_⟩
        · rw [show (kA.push u).toList = kA.toList ++ [u] by simp]
          exact hv.append (.cons ru .nil)
        · rw [List.take_add_one, hd, List.map_append]
          exact (RpL.tp st2 _ _ hk).snoc hr2
  case done =>
    rintro s' ⟨H', kA, e, ks, I', sm, na0, nk0, nk', na', hv, hk⟩
    simp only [Nat.zero_add] at hk
    have e3 : ds.take vs.length = ds := List.take_of_length_le (by omega)
    rw [e3] at hk
    have hsz : kA.size = vs.length := by
      have h1 := hk.length
      have h2 : ks.length = kA.size := by rw [← Array.length_toList]; exact hv.length
      rw [List.length_map] at h1
      omega
    have hk' := eachIs_vals I' rfl hv hk
    try dsimp only
    refine wpAny_bind (listItems_at nk' rfl ?_)
    refine keyH_end (κ := dataKind s'.heap ((ds.map kf).map Dt.d)) (h₁ := s'.heap.update kS fun o => { o with data := .freed }) (fun b o hb q => ?_) hid_at nk' na' hka (SortsAt.data (s := s') hk' hal hsk hu) hsz hZ fun h3 tk3 c k3 n3 => ?_
    · by_cases z : b = kS
      · subst z; rw [hid_at] at q; cases q
      · rw [Heap.get?_update_ne _ _ _ _ z] at q; exact q
    · have hf : ∀ b ∈ [kS, a], FpOk X pins H' b := fun b hb => by
        rcases List.mem_cons.mp hb with z | hb
        · rw [z]; exact fpOk_of kk nk0
        · cases List.mem_singleton.mp hb
          exact fpOk_of ka na0
      refine h _ H' _ c (I'.turnedL (ch := [kS, a]) (t' := tk3) (fun b o hb q => ?_) hf) sm na0 n3 (sortVals_perm _ (by rw [Array.length_toList]; exact hsz))
      simp only [List.mem_cons, List.not_mem_nil, or_false, not_or] at hb
      exact k3 b o hb.2 (by rw [Heap.get?_update_ne _ _ _ _ hb.1]; exact q)
theorem keyI_tree (F : FnOk X.prog X.w X.K X.mg X.base CX0 k f fd ps (spP X.K pre)) (hr : Room k X.A.in1.in1) (hb : Binds X.K fd ps [])
    (hpre : ∀ d ∈ ds, pre [.im d] (fun b => b = .im (kf d))) (I : Inv X pins σ H s) (rv : Vals xs vs) (rd : RpL X.K H xs ds) (hZ : vs.length ≤ sizeLine)
    (hal : AllAlike ((ds.map kf).map Dt.d)) (hsk : Sortable ((ds.map kf).map Dt.d)) (hu : ∀ d, d ∈ (ds.map kf).map Dt.d → X.A.in1.in1.units + d.depth < cLine)
    (ka : FpOk X pins H a) (ho : s.heap.get? a = some (seqObj "list" vs.toArray e1))
    (h : ∀ s' H' out c, Inv X pins σ H' s' → Same H H' → H' a = none → s'.heap.get? a = some (seqObj "list" (List.toArray out) c) → out.Perm vs → P (.done (.ret .none)) s') :
    wpAny (model X.prog X.w) X.A.in1.in1 (ksk_tree a (.ref f) false) P E s := by
  have ha : a < s.heap.objs.size := Heap.lt_size ho
  obtain ⟨e1, ho1⟩ : ∃ e1, (s.heap.update a (Obj.mapSeq fun _ => (#[] : Array Value))).get? a = some (seqObj "list" #[] e1) := ⟨_, get?_update_seq ho fun _ => #[]⟩
  have hkS : ((s.heap.update a (Obj.mapSeq fun _ => (#[] : Array Value))).push (seqObj "tuple" vs.toArray 0)).objs.size = s.heap.objs.size + 1 := by rw [size_push', Heap.size_update]
  unfold ksk_tree
  refine wpAny_bind (listItems_at ho rfl ?_)
  refine wpAny_bind (listUpdate_at ho rfl ?_ (by rw [List.size_toArray]; exact hZ) (Nat.zero_le _))
  refine wpAny_bind (seqEpoch_at ho1 rfl ?_)
  refine wpAny_bind (wpAny_newTuple ?_ (by show vs.length ≤ _; exact hZ))
  refine wpAny_bind (wpAny_newList ?_ (Nat.zero_le _))
  refine wpAny_holding ?_
  have old : ∀ b o, b ≠ a → s.heap.get? b = some o → (((s.heap.update a (Obj.mapSeq fun _ => (#[] : Array Value))).push (seqObj "tuple" vs.toArray 0)).push (seqObj "list" #[] 0)).get? b = some o := fun b o hb e =>
    Heap.get?_push_of_some _ (Heap.get?_push_of_some _ (by rw [Heap.get?_update_ne _ _ _ _ hb]; exact e))
  have I2 : Inv X pins σ H { s with heap := ((s.heap.update a (Obj.mapSeq fun _ => (#[] : Array Value))).push (seqObj "tuple" vs.toArray 0)).push (seqObj "list" #[] 0) } :=
    I.turnedL (ch := [a]) (t' := s.toks) (fun b o hb e => old b o (by simpa using hb) e) (fun b hb => by
      cases List.mem_singleton.mp hb
      exact ka)
  have hfr : s.heap.objs.size ≤ s.heap.objs.size + 1 := Nat.le_succ _
  refine keyI_rest (s := { s with heap := ((s.heap.update a (Obj.mapSeq fun _ => (#[] : Array Value))).push (seqObj "tuple" vs.toArray 0)).push (seqObj "list" #[] 0) }) (kS := ((s.heap.update a (Obj.mapSeq fun _ => (#[] : Array Value))).push (seqObj "tuple" vs.toArray 0)).objs.size)
    F hr hb hpre I2 rv rd hZ hal hsk hu ka (I.fpOk (by rw [hkS]; exact hfr) (I.hok.fresh (by rw [hkS]; exact hfr))) (Heap.get?_push_size _ rfl) (Heap.get?_push_of_some _ (Heap.get?_push_of_some _ ho1)) (by rw [hkS]; omega) h
/-- sorted(xs, key=f), f a def of the text that keeps a promise: of what comes out it is told that it is the same in some order -/
def rSortK (K : PySem.W.Frag) (pre : List AV → (BV → Prop) → Prop) (f : Addr) : List V → List V → Hp → VK → Prop := fun vs zs H Q => ∃ (a : Addr) (xs : List V) (ds : List Dt) (kf : Dt → Dt), vs = [V.ref a] ∧ zs = [V.ref f] ∧ SqL K H a xs ∧ RpL K H xs ds ∧
  (∀ d ∈ ds, pre [.im d] (fun b => b = .im (kf d))) ∧ AllAlike ((ds.map kf).map Dt.d) ∧ Sortable ((ds.map kf).map Dt.d) ∧ (∀ d, d ∈ (ds.map kf).map Dt.d → d.depth ≤ 60) ∧
  ∀ H' p ys, Same H H' → H' p = none → ys.Perm xs → Q (.ref p) (upd H' p (.lst ys))
theorem vals_perm {xs : List V} {us out : List Value} (h : Vals xs us) (p : out.Perm us) : ∃ ys : List V, Vals ys out ∧ ys.Perm xs := by
  induction p generalizing xs with
  | nil => cases h; exact ⟨[], .nil, .refl _⟩
  | cons x _ ih =>
    cases h with
    | cons a b =>
      obtain ⟨ys, h1, h2⟩ := ih b
      exact ⟨_ :: ys, .cons a h1, h2.cons _⟩
  | swap x y l =>
    cases h with
    | cons a b =>
      cases b with
      | cons a' b' => exact ⟨_ :: _ :: _, .cons a' (.cons a b'), .swap _ _ _⟩
  | trans _ _ ih1 ih2 =>
    obtain ⟨ys, h1, h2⟩ := ih2 h
    obtain ⟨zs, h3, h4⟩ := ih1 h1
    exact ⟨zs, h3, h4.trans h2⟩
theorem cr_sortK (F : FnOk X.prog X.w X.K X.mg X.base CX0 k f fd ps (spP X.K pre)) (hr : Room (k + 2) X.A) (hb : Binds X.K fd ps []) : CallRK X (.builtin "sorted") [Str.ofString "key"] (rSortK X.K pre f) := by
  intro pins s σ H vs zs us ws Q I r rz h
  obtain ⟨a, xs, ds, kf, rfl, rfl, hs, rd, hpre, hal, hsk, hdp, q⟩ := h
  obtain rfl := Vals.ref1 r
  obtain rfl := Vals.ref1 rz
  obtain ⟨its, rv, hl, hz⟩ := I.list hs
  have hzv : its.length ≤ sizeLine := by rw [← rv.length]; exact hz
  show wpAny (model X.prog X.w) X.A (call (.builtin "sorted") [.ref a] [(Str.ofString "key", .ref f)]) _ _ s
  refine sorted_of_sort hl.isList hzv (ksk_s1 _ _) (fun _ => ksk_l1 _ _) fun E' => ?_
  rw [ksk_t1]
  have Ic : Inv X pins σ H { s with heap := copyHeap s.heap its } := I.kept (t' := s.toks) fun b o e => copyHeap_old e
  have fa : FpOk X pins H (s.heap.objs.size + 1) := I.fpOk (Nat.le_succ _) (I.hok.fresh (Nat.le_succ _))
  refine keyI_tree (s := { s with heap := copyHeap s.heap its }) F hr.in1.in1 hb hpre Ic rv rd hzv hal hsk (fun d hd => ?_) fa (copyHeap_at s.heap its) fun s' H' out c I' sm na ho hp => ⟨rfl, ?_⟩
  · have := hdp d hd
    have := hr.in1.in1.units
    omega
  · obtain ⟨ys, h1, h2⟩ := vals_perm rv hp
    have hz' : ys.length ≤ sizeLine := by rw [h2.length_eq]; exact hz
    exact ⟨.ref _, upd H' (s.heap.objs.size + 1) (.lst ys), I'.take (t' := s'.toks) (h' := s'.heap) (fun b o _ e => e) (fpOk_of fa na) ⟨hz', out, c, h1, ho⟩, rfl, q H' _ ys sm na h2⟩
end
end TL

set_option autoImplicit true
set_option maxHeartbeats 200000
set_option maxRecDepth 512
set_option Elab.async false
set_option linter.all false
set_option autoImplicit false
set_option maxRecDepth 100000
set_option maxHeartbeats 1000000
namespace TL
open PySem PySem.Spec PyProof.Rows L2 PySem.W
theorem rpl_perm {K : PySem.W.Frag} {H : Hp} {xs ys : List V} {ds : List Dt} (h : RpL K H xs ds) (p : ys.Perm xs) : ∃ es : List Dt, RpL K H ys es ∧ es.Perm ds := by
  induction p generalizing ds with
  | nil => 
    have := h.length
    cases ds with
    | nil => exact ⟨[], rpl_nil, .refl _⟩
    | cons d ds => simp at this
  | cons x _ ih =>
    cases ds with
    | nil => have := h.length; simp at this
    | cons d ds =>
      obtain ⟨v, r, e, h1, h2⟩ := rpl_inv h
      cases e
      obtain ⟨es, a, b⟩ := ih h2
      exact ⟨_ :: es, rpl_cons h1 a, b.cons _⟩
  | swap x y l =>
    cases ds with
    | nil => have := h.length; simp at this
    | cons d ds =>
      obtain ⟨v, r, e, h1, h2⟩ := rpl_inv h
      cases e
      cases ds with
      | nil => have := h2.length; simp at this
      | cons d' ds =>
        obtain ⟨v, r, e, h3, h4⟩ := rpl_inv h2
        cases e
        exact ⟨_ :: _ :: _, rpl_cons h3 (rpl_cons h1 h4), .swap _ _ _⟩
  | trans _ _ ih1 ih2 =>
    obtain ⟨es, h1, h2⟩ := ih2 h
    obtain ⟨fs, h3, h4⟩ := ih1 h1
    exact ⟨fs, h3, h4.trans h2⟩
theorem we_sortK {c : Cn} {F : Fp} {M : Mem} {δ : List (Option RV)} {te : TE} {Ψ : PR} {pre : List AV → (BV → Prop) → Prop} {f : Addr} (h : We c te F δ M fun x F1 M1 => ∃ a ds kf, x = .ad (.ref a) ∧ Lk c F1 M1 a ds ∧ (∀ d ∈ ds, pre [.im d] (fun b => b = .im (kf d))) ∧
      AllAlike ((ds.map kf).map Dt.d) ∧ Sortable ((ds.map kf).map Dt.d) ∧ (∀ d, d ∈ (ds.map kf).map Dt.d → d.depth ≤ 60) ∧ ∀ n es, es.Perm ds → Ψ (.ad (.ref n)) F1 ((n, es) :: M1)) : We c (tCKw (rSortK c.K pre f) (tCons te tNil) (tCons (tC (.ref f)) tNil)) F δ M Ψ := fun σ H Q e s q =>
  h σ H _ e s fun x F1 M1 v H1 p e1 s1 v1 => by
    obtain ⟨a, ds, kf, rfl, hL, hp, hal, hsk, hdp, k⟩ := p
    obtain ⟨vs, h1, r1⟩ := hL H1 e1
    have v1' : v = .ref a := v1
    subst v1'
    refine ⟨a, vs, ds, kf, rfl, rfl, h1, r1, hp, hal, hsk, hdp, fun H' p ys sm hn hy => ?_⟩
    obtain ⟨e2, s2⟩ := e1.same sm
    obtain ⟨es, r2, pm⟩ := rpl_perm (RpL.tp (e1.tp s2) _ _ r1) hy
    exact q _ F1 _ _ _ (k p es pm) (e2.allocL hn r2) ((s1.trans s2).trans (Stay.new hn)) rfl
noncomputable def Has.f {P : Program} {w : World} {K : PySem.W.Frag} {mg : Str → Option Value} {base : Heap} {k : Nat} {x : Str} {ps : List Str} {sp : Sp} (G : Has P w K mg base k x ps sp) : Addr := Classical.choose G.ex
theorem Has.peSort {X : Cx} {k : Nat} {x : Str} {ps : List Str} {pre : List AV → (BV → Prop) → Prop} (G : Has X.prog X.w X.K X.mg X.base k x ps (spP X.K pre)) (hr : Room (k + 2) X.A) {p p2 p3 pos : Pos} {e : Expr} {t : TE} (hg : Gl X "sorted") (hm : X.mg "sorted" = none) (hgx : Gl X x) (ha : PA X [e] (tCons t tNil))
    (hdb : (x == ("__debug__" : Str)) = false := by decide)
    (he : backTo pos (starEach [e] X.env) = (false, eval e X.env) :: backTo pos (starEach [] X.env) := by rfl) (hpl : (backTo pos (starEach [e] X.env)).any (·.1) = false := by rfl) :
    PE X (.Call (.Name "sorted" p) [e] [⟨some "key", .Name x p2, p3⟩] pos) (tCKw (rSortK X.K pre G.f) (tCons t tNil) (tCons (tC (.ref G.f)) tNil)) := by
  obtain ⟨fd, FO, hmx, hk, hb⟩ := Classical.choose_spec G.ex
  exact pe_callBK (cr_sortK FO hr hb) hg hm bb_sorted ha (pk_cons (pe_glob (v := .ref G.f) hgx hmx rfl hdb) pk_nil) (by decide) (by decide) he hpl
theorem pe_mw {X : Cx} {x : Str} {i : Int} {pos : Pos} (hg : Gl X x) (h : ∃ t, X.mg x = some (.int i t)) (hd : (x == ("__debug__" : Str)) = false := by decide) : PE X (.Name x pos) (tC (.int i)) := by
  obtain ⟨t, h⟩ := h
  exact pe_glob hg h ⟨_, rfl⟩ hd
end TL

set_option autoImplicit true
set_option maxHeartbeats 200000
set_option maxRecDepth 512
set_option Elab.async false
set_option linter.all false
set_option autoImplicit false
set_option maxRecDepth 100000
set_option maxHeartbeats 1000000
/-! rows of heights of which some are known -/
namespace TL
open PySem PySem.Spec PyProof.Rows L2
abbrev Row := List (Option Int)
def optD : Option Int → Dt
  | none => .non
  | some x => .int x
theorem optD_isN (e : Option Int) : (optD e).isN = e.isNone := by cases e <;> rfl
@[reducible] def rowD (r : Row) : Dt := .tup (r.map optD)
theorem optD_inj {x y : Option Int} (h : optD x = optD y) : x = y := by
  cases x <;> cases y <;> simp [optD] at h ⊢
  exact h
theorem rowD_inj {x y : Row} (h : rowD x = rowD y) : x = y := by
  have h' : x.map optD = y.map optD := by injection h
  exact List.map_inj_right (fun _ _ q => optD_inj q) |>.mp h'
def hby (r : Rd) (row : Row) : Option (Nat × Int) :=
  match row.getD r.a none, row.getD r.b none with
  | some x, none => some (r.b, x + r.v)
  | none, some y => some (r.a, y - r.v)
  | _, _ => none
def pairD : Option (Nat × Int) → Dt
  | none => .non
  | some (v, x) => .tup [.int (v : Int), .int x]
theorem pairD_isN (e : Option (Nat × Int)) : (pairD e).isN = e.isNone := by
  cases e with
  | none => rfl
  | some p => cases p; rfl
def bad (r : Rd) (row : Row) : Bool :=
  match row.getD r.a none, row.getD r.b none with
  | some x, some y => !decide (y - x = r.v)
  | _, _ => false
def cl (n : Net) (row : Row) : Nat := (ixs n.rs.length fun i => bad (n.rd i) row).length
def tolds (n : Net) (row : Row) : List Nat := ixs n.rs.length fun i => (hby (n.rd i) row).isSome
/-- g is row with one more height, by one of the first readings that tell one -/
def Nx (n : Net) (k : Nat) (row g : Row) : Prop := ∃ i ∈ (tolds n row).take (k - cl n row + 1), ∃ v x, hby (n.rd i) row = some (v, x) ∧ g = row.set v (some x) ∧ cl n g ≤ k
/-- `x or 0` of a height -/
theorem we_orOpt {c : Cn} {F : Fp} {M : Mem} {δ : List (Option RV)} {ta : TE} {Ψ : PR} (h : We c ta F δ M fun r F1 M1 => ∃ e, r = .im (optD e) ∧ Ψ (.im (.int (e.getD 0))) F1 M1) : We c (tOrT c.K ta (tC (.int 0))) F δ M Ψ := fun σ H Q e s q =>
  h σ H _ e s fun r F1 M1 v H1 p1 e1 s1 v1 => by
    obtain ⟨x, rfl, k⟩ := p1
    cases x with
    | none =>
      obtain rfl := rp_non v1
      exact ⟨false, rfl, q _ F1 M1 _ H1 k e1 s1 mk_int⟩
    | some i =>
      obtain rfl := rp_int v1
      refine ⟨i != 0, rfl, ?_⟩
      by_cases z : i = 0
      · subst z
        exact q _ F1 M1 _ H1 k e1 s1 mk_int
      · rw [if_pos (by simpa using z)]
        exact q _ F1 M1 _ H1 k e1 s1 mk_int
theorem at_opt {r : Row} {i : Nat} (hi : i < r.length) : atI (r.map optD) (i : Int) = some (optD (r.getD i none)) := by
  refine L2.atI_nat ?_
  rw [List.getElem?_map, List.getElem?_eq_getElem hi, List.getD_eq_getElem?_getD, List.getElem?_eq_getElem hi]; rfl
structure FurtherOk (n : Net) (k : Nat) (row : Row) (found : List Row) : Prop where
  nd : found.Nodup
  mem : ∀ g, g ∈ found ↔ Nx n k row g
  len : found.length ≤ k + 1
structure StepOk (n : Net) (k : Nat) (rows more : List Row) : Prop where
  nd : more.Nodup
  mem : ∀ g, g ∈ more ↔ ∃ row ∈ rows, Nx n k row g
def row0 (n : Net) : Row := some 0 :: List.replicate (n.names.length - 1) none
/-- the key of a row -/
def keyE : Dt → Dt
  | .int i => .tup [.bl true, .int i]
  | _ => .tup [.bl false, .int 0]
def kfD : Dt → Dt
  | .tup xs => .tup (xs.map keyE)
  | d => d
theorem keyE_opt (x : Option Int) : keyE (optD x) = .tup [.bl x.isSome, .int (x.getD 0)] := by cases x <;> rfl
theorem keyE_d (x : Dt) : ∃ b i, (keyE x).d = .tuple [.bool b, .int i] := by
  have h : ∃ b i, keyE x = .tup [.bl b, .int i] := by
    cases x <;> first | exact ⟨_, _, rfl⟩
  obtain ⟨b, i, e⟩ := h
  refine ⟨b, i, ?_⟩
  rw [e, Dt.d, Dt.ds, Dt.ds, Dt.ds, Dt.d, Dt.d]
theorem alike_keys : ∀ xs ys : List Dt, PySem.W.alikeAll (Dt.ds (xs.map keyE)) (Dt.ds (ys.map keyE)) = true
  | [], ys => by rw [List.map_nil, Dt.ds, PySem.W.alikeAll]
  | x :: xs, [] => by rw [List.map_nil, List.map_cons, Dt.ds, Dt.ds, PySem.W.alikeAll]
  | x :: xs, y :: ys => by
    rw [List.map_cons, List.map_cons, Dt.ds, Dt.ds, PySem.W.alikeAll, alike_keys xs ys]
    obtain ⟨b, i, e⟩ := keyE_d x
    obtain ⟨b', i', e'⟩ := keyE_d y
    rw [e, e']; rfl
theorem depth_keys : ∀ xs : List Dt, PyData.depthAll (Dt.ds (xs.map keyE)) ≤ 3
  | [] => by rw [List.map_nil, Dt.ds, PyData.depthAll]; omega
  | x :: xs => by
    rw [List.map_cons, Dt.ds, PyData.depthAll]
    obtain ⟨b, i, e⟩ := keyE_d x
    have := depth_keys xs
    have h2 : (keyE x).d.depth ≤ 3 := by rw [e]; simp [PyData.depth, PyData.depthAll]
    omega
theorem kf_row {r : Row} : kfD (rowD r) = .tup ((r.map optD).map keyE) := rfl
theorem keys_alike {rows : List Row} : PySem.W.AllAlike (((rows.map rowD).map kfD).map Dt.d) := fun d hd d' hd' => by
  simp only [List.map_map, List.mem_map] at hd hd'
  obtain ⟨r, _, rfl⟩ := hd
  obtain ⟨r', _, rfl⟩ := hd'
  show PySem.W.alike (kfD (rowD r)).d (kfD (rowD r')).d = true
  rw [kf_row, kf_row, Dt.d, Dt.d, PySem.W.alike]
  exact alike_keys _ _
theorem keys_sortable {rows : List Row} (h : ∀ r ∈ rows, r ≠ []) : PySem.W.Sortable (((rows.map rowD).map kfD).map Dt.d) := .inl fun d hd => by
  simp only [List.map_map, List.mem_map] at hd
  obtain ⟨r, hr, rfl⟩ := hd
  show ∃ x q, (kfD (rowD r)).d = _
  rw [kf_row, Dt.d]
  cases r with
  | nil => exact absurd rfl (h _ hr)
  | cons x r => exact ⟨_, _, by rw [List.map_cons, List.map_cons, Dt.ds]⟩
theorem keys_depth {rows : List Row} : ∀ d, d ∈ ((rows.map rowD).map kfD).map Dt.d → d.depth ≤ 60 := fun d hd => by
  simp only [List.map_map, List.mem_map] at hd
  obtain ⟨r, hr, rfl⟩ := hd
  show (kfD (rowD r)).d.depth ≤ 60
  rw [kf_row, Dt.d]
  have := depth_keys (r.map optD)
  show PyData.depthAll _ + 1 ≤ 60
  omega
theorem opt_ok (e : Option Int) : (optD e).ok ∧ (optD e).dep = 0 := by
  cases e with
  | none => exact ⟨ok_non, by show Dt.non.dep = 0; rw [Dt.dep] <;> simp⟩
  | some x => exact ⟨ok_int, dep_int⟩
theorem row_ok (r : Row) : (rowD r).ok := by
  refine ok_tup (fun x hx => ?_) (fun x hx => ?_)
  · obtain ⟨e, _, rfl⟩ := List.mem_map.mp hx
    exact (opt_ok e).1
  · obtain ⟨e, _, rfl⟩ := List.mem_map.mp hx
    rw [(opt_ok e).2]; omega
theorem rows_ok (rows : List Row) : Dt.oks (rows.map rowD) := fun x hx => by
  obtain ⟨r, _, rfl⟩ := List.mem_map.mp hx
  exact row_ok r
theorem mem_rows {rows : List Row} {r : Row} : rowD r ∈ rows.map rowD ↔ r ∈ rows := ⟨fun h => by
  obtain ⟨r', h1, h2⟩ := List.mem_map.mp h
  rw [← rowD_inj h2]; exact h1, fun h => List.mem_map.mpr ⟨r, h, rfl⟩⟩
theorem hby_lt {n : Net} (ok : n.ok) {i : Nat} (hi : i < n.rs.length) {row : Row} {v : Nat} {x : Int} (h : hby (n.rd i) row = some (v, x)) : v < n.names.length := by
  unfold hby at h
  split at h
  · cases h; exact ok.bi hi
  · cases h; exact ok.ai hi
  · cases h
theorem row_cut {row : Row} {v : Nat} {x : Int} (h : v < row.length) : (row.map optD).take v ++ [.int x] ++ (row.map optD).drop (v + 1) = (row.set v (some x)).map optD := by
  rw [List.map_set, List.set_eq_take_append_cons_drop, if_pos (by rw [List.length_map]; exact h), List.append_assoc]
  rfl
theorem nodup_snoc {rows : List Row} {r : Row} (h : rows.Nodup) (hr : r ∉ rows) : (rows ++ [r]).Nodup := by
  rw [List.nodup_append]
  exact ⟨h, by simp, fun a ha b hb e => by
    rw [List.mem_singleton.mp hb] at e
    exact hr (e ▸ ha)⟩
def unopt : Dt → Option Int
  | .int i => some i
  | _ => none
def unrow : Dt → Row
  | .tup xs => xs.map unopt
  | _ => []
theorem unrow_row (r : Row) : unrow (rowD r) = r := by
  show (r.map optD).map unopt = r
  rw [List.map_map]
  have : ∀ x : Option Int, (unopt ∘ optD) x = x := fun x => by cases x <;> rfl
  induction r with
  | nil => rfl
  | cons x r ih => rw [List.map_cons, this, ih]
theorem rows_perm {rows : List Row} {es : List Dt} (h : es.Perm (rows.map rowD)) : ∃ rows' : List Row, es = rows'.map rowD ∧ rows'.Perm rows := by
  refine ⟨es.map unrow, ?_, ?_⟩
  · rw [List.map_map]
    have : ∀ x ∈ es, (rowD ∘ unrow) x = x := fun x hx => by
      obtain ⟨r, _, rfl⟩ := List.mem_map.mp (h.mem_iff.mp hx)
      show rowD (unrow (rowD r)) = rowD r
      rw [unrow_row]
    rw [List.map_congr_left this, List.map_id']
  · have h2 := h.map unrow
    rw [List.map_map] at h2
    have : ∀ x ∈ rows, (unrow ∘ rowD) x = x := fun x _ => unrow_row x
    rw [List.map_congr_left this, List.map_id'] at h2
    exact h2
theorem pow4 {t : Nat} (h : t ≤ 5) : 4 ^ t ≤ 1024 := by
  have := Nat.pow_le_pow_right (n := 4) (by omega) h
  exact this
/-- the worlds come to the heights h alone -/
structure Lone (n : Net) (k : Nat) (h : List Int) : Prop where
  n6 : n.names.length ≤ 6
  k3 : k ≤ 3
  hl : h.length = n.names.length
  cut : n.names.length ≠ 1 → ∀ c S, MinCut n S c → k + 1 ≤ c
  go : ∃ G : Nat → List Row → Prop, G 0 [row0 n] ∧ (∀ t rows rows', t < n.names.length - 1 → G t rows → StepOk n k rows rows' → G (t + 1) rows') ∧ (∀ t rows, G t rows → ∀ r ∈ rows, r.length = n.names.length ∧ cl n r ≤ k) ∧
    (∀ rows, G (n.names.length - 1) rows → rows = [h.map some])
theorem row_some {h : List Int} : rowD (h.map some) = .tup (h.map Dt.int) := by
  show Dt.tup ((h.map some).map optD) = _
  rw [List.map_map]; rfl
/-! twins -/
def sideZ (N : Nat) (S : Nat → Bool) : List Int := (ixs N S).map fun v : Nat => (v : Int)
theorem sideZ_nat {N : Nat} {S : Nat → Bool} : natD (ixs N S) = (sideZ N S).map Dt.int := natD_ints _
theorem in_side {N : Nat} {S : Nat → Bool} {v : Nat} (h : v < N) : decide ((v : Int) ∈ sideZ N S) = S v := by
  have : (v : Int) ∈ sideZ N S ↔ S v = true := by
    unfold sideZ
    rw [List.mem_map]
    constructor
    · rintro ⟨w, hw, e⟩
      have : w = v := by omega
      subst this
      exact (mem_ixs.mp hw).2
    · intro hS
      exact ⟨v, mem_ixs.mpr ⟨h, hS⟩, rfl⟩
  rw [dec_iff this]
  cases S v <;> rfl
def cutL (n : Net) (S : Nat → Bool) : List Nat := ixs n.rs.length fun i => S (n.rd i).a != S (n.rd i).b
def bI (b : Bool) : Int := if b = true then 1 else 0
def twV (n : Net) (S : Nat → Bool) (k i : Nat) : Int := if i ∈ (cutL n S).take k then bI (S (n.rd i).b) - bI (S (n.rd i).a) else 0
def twNet (n : Net) (S : Nat → Bool) (k : Nat) : Net := ⟨n.names, (List.range n.rs.length).map fun i => ⟨(n.rd i).a, (n.rd i).b, twV n S k i⟩⟩
def twD (n : Net) (S : Nat → Bool) (k : Nat) : Dt := .tup [.tup (natD (ixs n.names.length S)), netD (twNet n S k), .tup (List.replicate n.names.length (.int 0)), .tup ((List.range n.names.length).map fun v => .int (bI (S v)))]
theorem ixs_congr {n : Nat} {p q : Nat → Bool} (h : ∀ i, i < n → p i = q i) : ixs n p = ixs n q := by
  unfold ixs
  exact List.filter_congr fun i hi => by rw [h i (List.mem_range.mp hi)]
end TL

set_option autoImplicit true
set_option maxHeartbeats 200000
set_option maxRecDepth 512
set_option Elab.async false
set_option linter.all false
set_option autoImplicit false
set_option maxRecDepth 100000
set_option maxHeartbeats 1000000
/-! least ways by going over all steps again and again -/
namespace TL
open PySem PySem.Spec PyProof.Rows L2
def cnN (g : Row) : Nat := g.countP Option.isNone
def sumN (F : Nat → Nat) : Nat → Nat
  | 0 => 0
  | k + 1 => sumN F k + F k
theorem sumN_congr {F G : Nat → Nat} : ∀ {N : Nat}, (∀ v, v < N → F v = G v) → sumN F N = sumN G N
  | 0, _ => rfl
  | N + 1, h => by rw [sumN, sumN, sumN_congr (N := N) fun v hv => h v (by omega), h N (by omega)]
theorem sumN_pt {F G : Nat → Nat} {v : Nat} (h : ∀ w, w ≠ v → F w = G w) : ∀ {N : Nat}, v < N → sumN F N + G v = sumN G N + F v
  | 0, hv => absurd hv (by omega)
  | N + 1, hv => by
    rw [sumN, sumN]
    by_cases e : v = N
    · subst e
      rw [sumN_congr (F := F) (G := G) fun w hw => h w (by omega)]
      omega
    · have := sumN_pt h (N := N) (by omega)
      rw [h N (by omega)]
      omega
def valN (p : Nat → Int) (g : Row) (v : Nat) : Nat := ((g.getD v none).map fun x => (x - p v).toNat).getD 0
def meas (p : Nat → Int) (C : Nat) (g : Row) : Nat := cnN g * (g.length * C + 1) + sumN (valN p g) g.length
structure BF (N : Nat) (p : Nat → Int) (C : Nat) (g : Row) : Prop where
  len : g.length = N
  bd : ∀ v x, g[v]? = some (some x) → p v ≤ x ∧ x - p v ≤ ((N - cnN g : Nat) : Int) * C
theorem getD_of {g : Row} {v : Nat} {e : Option Int} (h : g[v]? = some e) : g.getD v none = e := by
  rw [List.getD_eq_getElem?_getD, h]; rfl
theorem of_getD {g : Row} {v : Nat} {x : Int} (h : g.getD v none = some x) : g[v]? = some (some x) := by
  rw [List.getD_eq_getElem?_getD] at h
  cases q : g[v]? with
  | none => rw [q] at h; cases h
  | some e => rw [q] at h; exact congrArg some h
theorem getD_set_neR {g : Row} {v w : Nat} {e : Option Int} (h : w ≠ v) : (g.set v e).getD w none = g.getD w none := by
  rw [List.getD_eq_getElem?_getD, List.getElem?_set_ne h.symm, ← List.getD_eq_getElem?_getD]
theorem getD_set_selfR {g : Row} {v : Nat} {e : Option Int} (h : v < g.length) : (g.set v e).getD v none = e := by
  rw [List.getD_eq_getElem?_getD, List.getElem?_set_self h]; rfl
theorem cnN_le {g : Row} : cnN g ≤ g.length := List.countP_le_length
theorem cnN_none {g : Row} {v : Nat} {y : Int} (hv : v < g.length) (h : g.getD v none = none) : cnN (g.set v (some y)) + 1 = cnN g := by
  unfold cnN
  have e : g[v].isNone = true := by
    have : g[v]? = some g[v] := List.getElem?_eq_getElem hv
    rw [getD_of this] at h
    rw [h]; rfl
  have hp : 0 < g.countP Option.isNone := List.countP_pos_iff.mpr ⟨_, List.getElem_mem hv, e⟩
  rw [List.countP_set hv, if_pos e, if_neg (by simp)]
  omega
theorem cnN_some {g : Row} {v : Nat} {x y : Int} (hv : v < g.length) (h : g.getD v none = some x) : cnN (g.set v (some y)) = cnN g := by
  unfold cnN
  have e : g[v].isNone = false := by
    have : g[v]? = some g[v] := List.getElem?_eq_getElem hv
    rw [getD_of this] at h
    rw [h]; rfl
  rw [List.countP_set hv, e, if_neg (by simp), if_neg (by simp)]
  omega
theorem mulC {a b C : Nat} (h : a ≤ b) : ((a : Nat) : Int) * C ≤ ((b : Nat) : Int) * C := by
  have : a * C ≤ b * C := Nat.mul_le_mul_right C h
  exact_mod_cast this
theorem BF.upd {N : Nat} {p : Nat → Int} {C : Nat} {g : Row} {u v : Nat} {x c : Int} (h : BF N p C g) (hv : v < N) (hu : g[u]? = some (some x)) (h0 : 0 ≤ c + p u - p v) (h1 : c + p u - p v ≤ C) (hnew : ∀ y, g.getD v none = some y → x + c < y) :
    BF N p C (g.set v (some (x + c))) ∧ meas p C (g.set v (some (x + c))) < meas p C g := by
  have hl := h.len
  have hvl : v < g.length := by omega
  obtain ⟨b1, b2⟩ := h.bd u x hu
  have hcn : cnN (g.set v (some (x + c))) ≤ cnN g := by
    cases e : g.getD v none with
    | none => have := cnN_none (y := x + c) hvl e; omega
    | some y => rw [cnN_some (y := x + c) hvl e]; omega
  have hle := cnN_le (g := g)
  have new : x + c - p v ≤ ((N - cnN (g.set v (some (x + c))) : Nat) : Int) * C := by
    cases e : g.getD v none with
    | none =>
      have e1 := cnN_none (y := x + c) hvl e
      have e2 : N - cnN (g.set v (some (x + c))) = (N - cnN g) + 1 := by omega
      rw [e2]
      have e3 : (((N - cnN g) + 1 : Nat) : Int) * C = ((N - cnN g : Nat) : Int) * C + C := by
        rw [Int.natCast_add, Int.add_mul]; simp
      rw [e3]
      omega
    | some y =>
      rw [cnN_some (y := x + c) hvl e]
      obtain ⟨_, b3⟩ := h.bd v y (of_getD e)
      have := hnew y e
      omega
  refine ⟨⟨by rw [List.length_set]; exact hl, fun w z hw => ?_⟩, ?_⟩
  · by_cases q : w = v
    · subst q
      rw [List.getElem?_set_self hvl] at hw
      cases hw
      exact ⟨by omega, new⟩
    · rw [List.getElem?_set_ne (fun z => q z.symm)] at hw
      obtain ⟨b3, b4⟩ := h.bd w z hw
      have := mulC (C := C) (show N - cnN g ≤ N - cnN (g.set v (some (x + c))) by omega)
      exact ⟨b3, by omega⟩
  · have hs := sumN_pt (F := valN p (g.set v (some (x + c)))) (G := valN p g) (v := v) (fun w hw => by unfold valN; rw [getD_set_neR hw]) (N := g.length) hvl
    have hF : valN p (g.set v (some (x + c))) v = (x + c - p v).toNat := by unfold valN; rw [getD_set_selfR hvl]; rfl
    unfold meas
    rw [List.length_set]
    cases e : g.getD v none with
    | none =>
      have e1 := cnN_none (y := x + c) hvl e
      have hG : valN p g v = 0 := by unfold valN; rw [e]; rfl
      have hb : x + c - p v ≤ (N * C : Nat) := by
        have := mulC (C := C) (show N - cnN (g.set v (some (x + c))) ≤ N by omega)
        rw [Int.natCast_mul]
        omega
      have e4 : cnN g * (g.length * C + 1) = cnN (g.set v (some (x + c))) * (g.length * C + 1) + (g.length * C + 1) := by
        rw [← e1, Nat.add_mul, Nat.one_mul]
      rw [e4, hl]
      rw [hl] at hs
      omega
    | some y =>
      rw [cnN_some (y := x + c) hvl e]
      have hG : valN p g v = (y - p v).toNat := by unfold valN; rw [e]; rfl
      have := hnew y e
      have := (h.bd v y (of_getD e)).1
      omega
abbrev Edge := Nat × Nat × Int
@[reducible] def bD (e : Edge) : Dt := .tup [.int (e.1 : Int), .int (e.2.1 : Int), .int e.2.2]
structure Great (N : Nat) (E : List Edge) (g : Row) : Prop where
  len : g.length = N
  z : g.getD 0 none = some 0
  tight : ∀ e ∈ E, ∀ x, g.getD e.1 none = some x → ∃ y, g.getD e.2.1 none = some y ∧ y ≤ x + e.2.2
structure Feas (N : Nat) (E : List Edge) (p : Nat → Int) (C : Nat) : Prop where
  z : p 0 = 0
  lt : ∀ e ∈ E, e.1 < N ∧ e.2.1 < N
  lo : ∀ e ∈ E, 0 ≤ e.2.2 + p e.1 - p e.2.1
  hi : ∀ e ∈ E, e.2.2 + p e.1 - p e.2.1 ≤ C
def g0 (N : Nat) : Row := (List.replicate N none).set 0 (some 0)
theorem bf0 {N : Nat} (hN : 0 < N) {p : Nat → Int} {C : Nat} (hp : p 0 = 0) : BF N p C (g0 N) := by
  refine ⟨by unfold g0; simp, fun v x h => ?_⟩
  unfold g0 at h
  by_cases e : v = 0
  · subst e
    rw [List.getElem?_set_self (by rw [List.length_replicate]; exact hN)] at h
    cases h
    have : (0 : Int) ≤ ((N - cnN (g0 N) : Nat) : Int) * C := Int.mul_nonneg (by omega) (by omega)
    rw [hp]
    exact ⟨by omega, by omega⟩
  · rw [List.getElem?_set_ne (fun z => e z.symm), List.getElem?_replicate] at h
    split at h <;> cases h
/-- the bounds that a flow makes -/
def bnd (n : Net) (f : Nat → Int) : Nat → List Edge
  | 0 => []
  | k + 1 => bnd n f k ++ ((if 0 ≤ f k then [((n.rd k).a, (n.rd k).b, (n.rd k).v)] else []) ++ (if f k ≤ 0 then [((n.rd k).b, (n.rd k).a, -(n.rd k).v)] else []))
def swapE (e : Edge) : Edge := (e.2.1, e.1, e.2.2)
structure Best (n : Net) (h f : List Int) : Prop where
  hl : h.length = n.names.length
  fl : f.length = n.rs.length
  fb : ∀ x ∈ f, -1 ≤ x ∧ x ≤ 1
  up : ∀ i, i < n.rs.length → fn f i < 1 → n.miss h i ≤ 0
  dn : ∀ i, i < n.rs.length → -1 < fn f i → 0 ≤ n.miss h i
  ev : evenF n (fn f)
  z : h.getD 0 0 = 0
theorem bnd_len {n : Net} {f : Nat → Int} : ∀ {k : Nat}, (bnd n f k).length ≤ 2 * k
  | 0 => Nat.le_refl _
  | k + 1 => by
    have := bnd_len (n := n) (f := f) (k := k)
    rw [bnd]
    simp only [List.length_append]
    split <;> split <;> simp <;> omega
theorem mem_bnd {n : Net} {f : Nat → Int} {e : Edge} : ∀ {k : Nat}, e ∈ bnd n f k ↔ ∃ i, i < k ∧ ((0 ≤ f i ∧ e = ((n.rd i).a, (n.rd i).b, (n.rd i).v)) ∨ (f i ≤ 0 ∧ e = ((n.rd i).b, (n.rd i).a, -(n.rd i).v)))
  | 0 => by rw [bnd]; exact ⟨fun h => (by cases h), fun ⟨i, hi, _⟩ => absurd hi (by omega)⟩
  | k + 1 => by
    rw [bnd, List.mem_append, List.mem_append, mem_bnd (k := k)]
    constructor
    · rintro (⟨i, hi, h⟩ | h | h)
      · exact ⟨i, by omega, h⟩
      · split at h
        · rename_i q; exact ⟨k, by omega, .inl ⟨q, List.mem_singleton.mp h⟩⟩
        · cases h
      · split at h
        · rename_i q; exact ⟨k, by omega, .inr ⟨q, List.mem_singleton.mp h⟩⟩
        · cases h
    · rintro ⟨i, hi, h⟩
      by_cases e : i = k
      · subst e
        rcases h with ⟨q, h⟩ | ⟨q, h⟩
        · exact .inr (.inl (by rw [if_pos q]; exact List.mem_singleton.mpr h))
        · exact .inr (.inr (by rw [if_pos q]; exact List.mem_singleton.mpr h))
      · exact .inl ⟨i, by omega, h⟩
theorem le_sum_of {E : List Edge} {F : Edge → Nat} {e : Edge} (h : e ∈ E) : F e ≤ (E.map F).sum := by
  induction E with
  | nil => cases h
  | cons x E ih =>
    rw [List.map_cons, List.sum_cons]
    rcases List.mem_cons.mp h with rfl | h
    · omega
    · have := ih h; omega
theorem Best.feas {n : Net} (ok : n.ok) {h f : List Int} (b : Best n h f) : ∃ C, Feas n.names.length (bnd n (fn f) n.rs.length) (fn h) C := by
  refine ⟨((bnd n (fn f) n.rs.length).map fun e => (e.2.2 + fn h e.1 - fn h e.2.1).toNat).sum, b.z, fun e he => ?_, fun e he => ?_, fun e he => ?_⟩
  · obtain ⟨i, hi, ⟨_, rfl⟩ | ⟨_, rfl⟩⟩ := mem_bnd.mp he
    · exact ⟨ok.ai hi, ok.bi hi⟩
    · exact ⟨ok.bi hi, ok.ai hi⟩
  · obtain ⟨i, hi, ⟨q, rfl⟩ | ⟨q, rfl⟩⟩ := mem_bnd.mp he
    · have := b.dn i hi (by omega)
      unfold Net.miss missR at this
      show 0 ≤ (n.rd i).v + h.getD (n.rd i).a 0 - h.getD (n.rd i).b 0
      omega
    · have := b.up i hi (by omega)
      unfold Net.miss missR at this
      show 0 ≤ -(n.rd i).v + h.getD (n.rd i).b 0 - h.getD (n.rd i).a 0
      omega
  · have := le_sum_of (F := fun e : Edge => (e.2.2 + fn h e.1 - fn h e.2.1).toNat) he
    omega
theorem Feas.swap {N : Nat} {E : List Edge} {p : Nat → Int} {C : Nat} (h : Feas N E p C) : Feas N (E.map swapE) (fun v => -p v) C := by
  refine ⟨by show -p 0 = 0; rw [h.z]; rfl, fun e he => ?_, fun e he => ?_, fun e he => ?_⟩ <;> obtain ⟨e', he', rfl⟩ := List.mem_map.mp he
  · exact ⟨(h.lt e' he').2, (h.lt e' he').1⟩
  · have := h.lo e' he'
    show 0 ≤ e'.2.2 + -p e'.2.1 - -p e'.1
    omega
  · have := h.hi e' he'
    show e'.2.2 + -p e'.2.1 - -p e'.1 ≤ C
    omega
/-- between what heights the best ones lie: just h -/
def SpanOk (n : Net) (h : List Int) : Prop := h.length = n.names.length ∧ ∀ h' f, Best n h' f → (∀ g, Great n.names.length (bnd n (fn f) n.rs.length) g → g = h.map some) ∧ (∀ g, Great n.names.length ((bnd n (fn f) n.rs.length).map swapE) g → g = h.map fun x => some (-x))
end TL

set_option autoImplicit true
set_option maxHeartbeats 200000
set_option maxRecDepth 512
set_option Elab.async false
set_option linter.all false
set_option autoImplicit false
set_option maxRecDepth 100000
set_option maxHeartbeats 1000000
/-! objects of the class Search -/
namespace TL
open PySem PySem.Spec PyProof.Rows L2
@[reducible] def onesD (n : Net) : Dt := .tup ((List.replicate n.rs.length (1 : Int)).map Dt.int)
structure KS (K : PySem.W.Frag) (C : Addr) : Prop where
  c : Cls K C
  net : NoAttr K C "net"
  weights : NoAttr K C "weights"
  many : NoAttr K C "many"
  heights : NoAttr K C "heights"
  flow : NoAttr K C "flow"
def meths : List Str := ["excess", "steps", "shortest", "push", "run"]
/-- the fields of the object at a -/
structure SFd (K : PySem.W.Frag) (H : Hp) (C a : Addr) (n : Net) (lh lf : Addr) : Prop where
  ex : ∃ dx fs vn vw, H a = some (.ins C dx fs) ∧ fs.lookup ("net" : Str) = some vn ∧ Rp K H vn (netD n) ∧ fs.lookup ("weights" : Str) = some vw ∧ Rp K H vw (onesD n) ∧ fs.lookup ("many" : Str) = some (.int n.names.length) ∧
    fs.lookup ("heights" : Str) = some (.ref lh) ∧ fs.lookup ("flow" : Str) = some (.ref lf) ∧ ∀ m ∈ meths, fs.lookup m = none
structure SSt (K : PySem.W.Frag) (H : Hp) (C a : Addr) (n : Net) (lh lf : Addr) (h f : List Int) : Prop where
  fd : SFd K H C a n lh lf
  hh : H lh = some (.lst (h.map V.int))
  hf : H lf = some (.lst (f.map V.int))
  ne : lh ≠ lf
def FS (lh lf : Addr) (h f : List Int) : Fp := fun H => H lh = some (.lst (h.map V.int)) ∧ H lf = some (.lst (f.map V.int))
abbrev cS (K : PySem.W.Frag) (H : Hp) (lh lf : Addr) (R : Mem) : Cn := ⟨K, H, fun x => x = lh ∨ x = lf, R⟩
/-- what a method knows of its object -/
structure Me (c : Cn) (C a : Addr) (n : Net) (lh lf : Addr) : Prop where
  k : KS c.K C
  fd : SFd c.K c.H0 C a n lh lf
  na : ¬ c.B a
  bh : c.B lh
  bf : c.B lf
  ne : lh ≠ lf
  on : ∀ x, c.B x → x = lh ∨ x = lf
section
variable {c : Cn} {F : Fp} {M M' : Mem} {δ : List (Option RV)} {Ψ : PR} {C a lh lf : Addr} {n : Net} {h f : List Int} {i : Nat} {H H1 : Hp} {K : PySem.W.Frag} {te : TE}
theorem Me.at (m : Me c C a n lh lf) (e : HE c F M H) : ∃ dx fs vn vw, H a = some (.ins C dx fs) ∧ fs.lookup ("net" : Str) = some vn ∧ Rp c.K H vn (netD n) ∧ fs.lookup ("weights" : Str) = some vw ∧ Rp c.K H vw (onesD n) ∧ fs.lookup ("many" : Str) = some (.int n.names.length) ∧
    fs.lookup ("heights" : Str) = some (.ref lh) ∧ fs.lookup ("flow" : Str) = some (.ref lf) ∧ ∀ m ∈ meths, fs.lookup m = none := by
  obtain ⟨dx, fs, vn, vw, e0, e1, r1, e2, r2, r⟩ := m.fd.ex
  exact ⟨dx, fs, vn, vw, e.st _ _ e0 m.na, e1, Rp.tp e.tp0 _ _ r1, e2, Rp.tp e.tp0 _ _ r2, r⟩
theorem we_fN (m : Me c C a n lh lf) (h : We c te F δ M fun x F1 M1 => x = .ad (.ref a) ∧ Ψ (.im (netD n)) F1 M1) : We c (tFld c.K te "net") F δ M Ψ := fun σ H Q e s q =>
  h σ H _ e s fun x F1 M1 v H1 p e1 s1 v1 => by
    obtain ⟨rfl, k⟩ := p
    have v1' : v = .ref a := v1
    subst v1'
    obtain ⟨dx, fs, vn, vw, g0, g1, r1, _⟩ := m.at e1
    exact ⟨a, C, dx, fs, vn, rfl, g0, m.k.c, m.k.net, g1, q _ F1 M1 vn H1 k e1 s1 r1⟩
theorem we_fW (m : Me c C a n lh lf) (h : We c te F δ M fun x F1 M1 => x = .ad (.ref a) ∧ Ψ (.im (onesD n)) F1 M1) : We c (tFld c.K te "weights") F δ M Ψ := fun σ H Q e s q =>
  h σ H _ e s fun x F1 M1 v H1 p e1 s1 v1 => by
    obtain ⟨rfl, k⟩ := p
    have v1' : v = .ref a := v1
    subst v1'
    obtain ⟨dx, fs, vn, vw, g0, g1, r1, g2, r2, _⟩ := m.at e1
    exact ⟨a, C, dx, fs, vw, rfl, g0, m.k.c, m.k.weights, g2, q _ F1 M1 vw H1 k e1 s1 r2⟩
theorem we_fM (m : Me c C a n lh lf) (h : We c te F δ M fun x F1 M1 => x = .ad (.ref a) ∧ Ψ (.im (.int n.names.length)) F1 M1) : We c (tFld c.K te "many") F δ M Ψ := fun σ H Q e s q =>
  h σ H _ e s fun x F1 M1 v H1 p e1 s1 v1 => by
    obtain ⟨rfl, k⟩ := p
    have v1' : v = .ref a := v1
    subst v1'
    obtain ⟨dx, fs, vn, vw, g0, g1, r1, g2, r2, g3, _⟩ := m.at e1
    exact ⟨a, C, dx, fs, _, rfl, g0, m.k.c, m.k.many, g3, q _ F1 M1 _ H1 k e1 s1 mk_int⟩
theorem we_fH (m : Me c C a n lh lf) (h : We c te F δ M fun x F1 M1 => x = .ad (.ref a) ∧ Ψ (.ad (.ref lh)) F1 M1) : We c (tFld c.K te "heights") F δ M Ψ := fun σ H Q e s q =>
  h σ H _ e s fun x F1 M1 v H1 p e1 s1 v1 => by
    obtain ⟨rfl, k⟩ := p
    have v1' : v = .ref a := v1
    subst v1'
    obtain ⟨dx, fs, vn, vw, g0, g1, r1, g2, r2, g3, g4, _⟩ := m.at e1
    exact ⟨a, C, dx, fs, _, rfl, g0, m.k.c, m.k.heights, g4, q _ F1 M1 _ H1 k e1 s1 rfl⟩
theorem we_fF (m : Me c C a n lh lf) (h : We c te F δ M fun x F1 M1 => x = .ad (.ref a) ∧ Ψ (.ad (.ref lf)) F1 M1) : We c (tFld c.K te "flow") F δ M Ψ := fun σ H Q e s q =>
  h σ H _ e s fun x F1 M1 v H1 p e1 s1 v1 => by
    obtain ⟨rfl, k⟩ := p
    have v1' : v = .ref a := v1
    subst v1'
    obtain ⟨dx, fs, vn, vw, g0, g1, r1, g2, r2, g3, g4, g5, _⟩ := m.at e1
    exact ⟨a, C, dx, fs, _, rfl, g0, m.k.c, m.k.flow, g5, q _ F1 M1 _ H1 k e1 s1 rfl⟩
theorem HE.fs (e : HE c (FS lh lf h f) M H) : H lh = some (.lst (h.map V.int)) ∧ H lf = some (.lst (f.map V.int)) := e.fr H fun _ _ => rfl
theorem lkH : Lk c (FS lh lf h f) M lh (h.map Dt.int) := fun H e => ⟨_, .inl (.inl e.fs.1), mk_ints⟩
theorem lkF : Lk c (FS lh lf h f) M lf (f.map Dt.int) := fun H e => ⟨_, .inl (.inl e.fs.2), mk_ints⟩
theorem tp_lst {K : PySem.W.Frag} {p : Addr} {xs ys : List V} (e : H p = some (.lst xs)) : Tp K H (upd H p (.lst ys)) := by
  intro a us q
  rcases q with (q | ⟨u, q⟩) | q
  · exact .inl (.inl (by rw [upd_ne (ne_of q e (by intro z; cases z))]; exact q))
  · exact .inl (.inr ⟨u, by rw [upd_ne (ne_of q e (by intro z; cases z))]; exact q⟩)
  · exact .inr q
theorem HE.writeB {G : Fp} {p : Addr} {xs ys : List V} (e : HE c F M H) (b : c.B p) (hp : H p = some (.lst xs)) (hG : ∀ H', (∀ a, c.H0 a ≠ none → H' a = upd H p (.lst ys) a) → G H') : HE c G M (upd H p (.lst ys)) := by
  have t : Tp c.K H (upd H p (.lst ys)) := tp_lst hp
  refine ⟨fun a o z nb => ?_, fun a b' => ⟨(e.bm a b').1, ?_⟩, hG, fun q hq => ?_, e.nd, e.rd⟩
  · rw [upd_ne (by intro y; subst y; exact nb b)]; exact e.st a o z nb
  · by_cases y : a = p
    · subst y; rw [upd_same]; exact trivial
    · rw [upd_ne y]; exact (e.bm a b').2
  · obtain ⟨n0, vs, hv, r⟩ := e.mm q hq
    refine ⟨n0, vs, ?_, RpL.tp t _ _ r⟩
    rw [upd_ne (by intro y; rw [y] at n0; exact e.n0 b n0)]; exact hv
theorem wrH (m : Me c C a n lh lf) (h' : List Int) : Wr c lh (FS lh lf h f) M (h.map Dt.int) (h'.map Dt.int) (FS lh lf h' f) M := fun H e => by
  refine ⟨_, e.fs.1, mk_ints, fun vs' r' => ?_⟩
  cases rpl_ints r'
  refine ⟨e.writeB m.bh e.fs.1 fun H' k => ?_, tp_lst e.fs.1⟩
  refine ⟨by rw [k _ (e.n0 m.bh), upd_same], by rw [k _ (e.n0 m.bf), upd_ne m.ne.symm]; exact e.fs.2⟩
theorem wrF (m : Me c C a n lh lf) (f' : List Int) : Wr c lf (FS lh lf h f) M (f.map Dt.int) (f'.map Dt.int) (FS lh lf h f') M := fun H e => by
  refine ⟨_, e.fs.2, mk_ints, fun vs' r' => ?_⟩
  cases rpl_ints r'
  refine ⟨e.writeB m.bf e.fs.2 fun H' k => ?_, tp_lst e.fs.2⟩
  refine ⟨by rw [k _ (e.n0 m.bh), upd_ne m.ne]; exact e.fs.1, by rw [k _ (e.n0 m.bf), upd_same]⟩
theorem set_H {N : Fp → Mem → Prop} {z : Int} {j : Nat} {i : Int} (m : Me c C a n lh lf) (hj : j < h.length) (hi : i = (j : Int)) (hn : N (FS lh lf (h.set j z) f) M) :
    ∃ a' ds' i' j' d' F3 M3, RV.ad (.ref lh) = .ad (.ref a') ∧ RV.im (.int i) = .im (.int i') ∧ RV.im (.int z) = .im d' ∧ ixN ds'.length i' = some j' ∧ Wr c a' (FS lh lf h f) M ds' (ds'.set j' d') F3 M3 ∧ N F3 M3 :=
  ⟨lh, h.map Dt.int, i, j, .int z, _, M, rfl, rfl, rfl, by rw [hi]; exact ixn (by rw [List.length_map]; exact hj), by rw [← List.map_set]; exact wrH m _, hn⟩
theorem set_F {N : Fp → Mem → Prop} {z : Int} {j : Nat} {i : Int} (m : Me c C a n lh lf) (hj : j < f.length) (hi : i = (j : Int)) (hn : N (FS lh lf h (f.set j z)) M) :
    ∃ a' ds' i' j' d' F3 M3, RV.ad (.ref lf) = .ad (.ref a') ∧ RV.im (.int i) = .im (.int i') ∧ RV.im (.int z) = .im d' ∧ ixN ds'.length i' = some j' ∧ Wr c a' (FS lh lf h f) M ds' (ds'.set j' d') F3 M3 ∧ N F3 M3 :=
  ⟨lf, f.map Dt.int, i, j, .int z, _, M, rfl, rfl, rfl, by rw [hi]; exact ixn (by rw [List.length_map]; exact hj), by rw [← List.map_set]; exact wrF m _, hn⟩
end
/-! promises of methods -/
/-- a list argument lies apart from the object's lists -/
def AvW (K : PySem.W.Frag) (H : Hp) (lh lf : Addr) (x : AV) (v : V) : Prop := AvOk K H x v ∧ ∀ ds, x = .ls ds → v ≠ .ref lh ∧ v ≠ .ref lf
abbrev PreR := Net → List Int → List Int → List AV → (List Dt → Prop) → Prop
def spR (K : PySem.W.Frag) (C : Addr) (pre : PreR) : Sp := fun vs H Q _ => ∃ a rest n lh lf h f as post, vs = .ref a :: rest ∧ SSt K H C a n lh lf h f ∧ Paired (AvW K H lh lf) as rest ∧ pre n h f as post ∧
  ∀ ds b vs' H', post ds → Same H H' → H b = none → H' b = some (.lst vs') → RpL K H' vs' ds → Q (.ref b) H'
abbrev PreSh := Net → List Int → List Int → List AV → (List Dt → List Dt → Prop) → Prop
def spSh (K : PySem.W.Frag) (C : Addr) (pre : PreSh) : Sp := fun vs H Q _ => ∃ a rest n lh lf h f as post, vs = .ref a :: rest ∧ SSt K H C a n lh lf h f ∧ Paired (AvW K H lh lf) as rest ∧ pre n h f as post ∧
  ∀ ds es b d p vs' us' H', post ds es → Same H H' → H b = none → H d = none → b ≠ d → H' b = some (.lst vs') → RpL K H' vs' ds → H' d = some (.lst us') → RpL K H' us' es → SqT K H' p [.ref b, .ref d] → Q (.ref p) H'
abbrev PreW := Net → List Int → List Int → List AV → (List Int → List Int → Prop) → Prop
def spW (K : PySem.W.Frag) (C : Addr) (pre : PreW) : Sp := fun vs H Q _ => ∃ a rest n lh lf h f as post, vs = .ref a :: rest ∧ SSt K H C a n lh lf h f ∧ Paired (AvW K H lh lf) as rest ∧ pre n h f as post ∧
  ∀ h' f' H', post h' f' → (∀ b o, H b = some o → b ≠ lh → b ≠ lf → H' b = some o) → H' lh = some (.lst (h'.map V.int)) → H' lf = some (.lst (f'.map V.int)) → Q .non H'
section
variable {c : Cn} {F : Fp} {M M' : Mem} {δ : List (Option RV)} {Ψ : PR} {C a lh lf : Addr} {n : Net} {h f : List Int} {i : Nat} {H H1 : Hp} {K : PySem.W.Frag} {te : TE} {ta : TA} {E : XK} {m : Str}
/-- a symbolic value as an argument of a method -/
inductive ViewW (F : Fp) (M : Mem) : RV → AV → Prop
  | im (x : Dt) : ViewW F M (.im x) (.im x)
  | ls {a : Addr} {ds : List Dt} (h : (a, ds) ∈ M) : ViewW F M (.ad (.ref a)) (.ls ds)
theorem ViewW.oks (me : Me c C a n lh lf) (e : HE c F M H) : ∀ {rs : List RV} {as : List AV} {vs : List V}, Paired (ViewW F M) rs as → Paired (VOk c.K H) rs vs → Paired (AvW c.K H lh lf) as vs
  | _, _, _, .nil, .nil => .nil
  | _, _, _, .cons w ws, .cons h hs => .cons (by
      cases w with
      | im x => exact ⟨h, fun ds z => by cases z⟩
      | ls hm =>
        obtain ⟨n0, us, hu, ru⟩ := e.mm _ hm
        have h' := h
        refine ⟨⟨_, us, h', .inl (.inl hu), ru⟩, fun ds z => ?_⟩
        refine ⟨fun q => ?_, fun q => ?_⟩
        · rw [h'] at q; cases q; exact e.n0 me.bh n0
        · rw [h'] at q; cases q; exact e.n0 me.bf n0) (ViewW.oks me e ws hs)
theorem Me.sst (me : Me c C a n lh lf) (e : HE c (FS lh lf h f) M H) : SSt c.K H C a n lh lf h f := ⟨⟨me.at e⟩, e.fs.1, e.fs.2, me.ne⟩
theorem we_methR {pre : PreR} (me : Me c C a n lh lf) (hm : m ∈ meths) (hx : We c te F δ M fun x F0 M0 => x = .ad (.ref a) ∧ Wa c ta F0 δ M0 fun rs F1 M1 => ∃ as h f, F1 = FS lh lf h f ∧ Paired (ViewW F1 M1) rs as ∧ pre n h f as fun ds => ∀ b, Ψ (.ad (.ref b)) F1 ((b, ds) :: M1)) :
    We c (tMeth C m (spR c.K C pre) [] E te ta) F δ M Ψ := fun σ H Q e s q =>
  hx σ H _ e s fun x F0 M0 v H0 p e0 s0 v0 => by
    obtain ⟨rfl, p⟩ := p
    have v0' : v = .ref a := v0
    subst v0'
    obtain ⟨dx, fs, vn, vw, g0, _, _, _, _, _, _, _, g⟩ := me.at e0
    refine ⟨a, dx, fs, rfl, g0, g m hm, p σ H0 _ e0 (s.tp (e.tp s0)) fun rs F1 M1 vs H1 p1 e1 s1 v1 => ?_⟩
    obtain ⟨as, h, f, rfl, hv, hp⟩ := p1
    refine ⟨a, vs, n, lh, lf, h, f, as, _, by rw [List.append_nil], me.sst e1, ViewW.oks me e1 hv v1, hp, fun ds b vs' H' hx hs hb hl hr => ?_⟩
    obtain ⟨e2, s2⟩ := e1.same hs
    refine q _ _ _ _ H' (hx b) (e2.adopt (fun q hq z => ?_) (e1.free hb) hl hr) ((s0.trans s1).trans s2) rfl
    obtain ⟨_, us, hu, _⟩ := e1.mm q hq
    rw [z, hb] at hu; cases hu
theorem we_methSh {pre : PreSh} (me : Me c C a n lh lf) (hm : m ∈ meths) (hx : We c te F δ M fun x F0 M0 => x = .ad (.ref a) ∧ Wa c ta F0 δ M0 fun rs F1 M1 => ∃ as h f, F1 = FS lh lf h f ∧ Paired (ViewW F1 M1) rs as ∧ pre n h f as fun ds es => ∀ b d, Ψ (.tu [.ref b, .ref d]) F1 ((b, ds) :: (d, es) :: M1)) :
    We c (tMeth C m (spSh c.K C pre) [] E te ta) F δ M Ψ := fun σ H Q e s q =>
  hx σ H _ e s fun x F0 M0 v H0 p e0 s0 v0 => by
    obtain ⟨rfl, p⟩ := p
    have v0' : v = .ref a := v0
    subst v0'
    obtain ⟨dx, fs, vn, vw, g0, _, _, _, _, _, _, _, g⟩ := me.at e0
    refine ⟨a, dx, fs, rfl, g0, g m hm, p σ H0 _ e0 (s.tp (e.tp s0)) fun rs F1 M1 vs H1 p1 e1 s1 v1 => ?_⟩
    obtain ⟨as, h, f, rfl, hv, hp⟩ := p1
    refine ⟨a, vs, n, lh, lf, h, f, as, _, by rw [List.append_nil], me.sst e1, ViewW.oks me e1 hv v1, hp, fun ds es b d p vs' us' H' hx hs hb hd hbd hl hr hl2 hr2 ht => ?_⟩
    obtain ⟨e2, s2⟩ := e1.same hs
    have nd : ∀ q ∈ M1, q.1 ≠ d := fun q hq z => by
      obtain ⟨_, us, hu, _⟩ := e1.mm q hq
      rw [z, hd] at hu; cases hu
    have nb : ∀ q ∈ M1, q.1 ≠ b := fun q hq z => by
      obtain ⟨_, us, hu, _⟩ := e1.mm q hq
      rw [z, hb] at hu; cases hu
    refine q _ _ _ _ H' (hx b d) ((e2.adopt nd (e1.free hd) hl2 hr2).adopt (fun q hq z => ?_) (e1.free hb) hl hr) ((s0.trans s1).trans s2) ⟨p, rfl, ht⟩
    rcases List.mem_cons.mp hq with rfl | hq
    · exact hbd z.symm
    · exact nb q hq z
theorem we_methW {pre : PreW} (me : Me c C a n lh lf) (hm : m ∈ meths) (hx : We c te F δ M fun x F0 M0 => x = .ad (.ref a) ∧ Wa c ta F0 δ M0 fun rs F1 M1 => ∃ as h f, F1 = FS lh lf h f ∧ Paired (ViewW F1 M1) rs as ∧ pre n h f as fun h' f' => Ψ (.im .non) (FS lh lf h' f') M1) :
    We c (tMeth C m (spW c.K C pre) [] E te ta) F δ M Ψ := fun σ H Q e s q =>
  hx σ H _ e s fun x F0 M0 v H0 p e0 s0 v0 => by
    obtain ⟨rfl, p⟩ := p
    have v0' : v = .ref a := v0
    subst v0'
    obtain ⟨dx, fs, vn, vw, g0, _, _, _, _, _, _, _, g⟩ := me.at e0
    refine ⟨a, dx, fs, rfl, g0, g m hm, p σ H0 _ e0 (s.tp (e.tp s0)) fun rs F1 M1 vs H1 p1 e1 s1 v1 => ?_⟩
    obtain ⟨as, h, f, rfl, hv, hp⟩ := p1
    refine ⟨a, vs, n, lh, lf, h, f, as, _, by rw [List.append_nil], me.sst e1, ViewW.oks me e1 hv v1, hp, fun h' f' H' hx hs hh hf => ?_⟩
    have s2 : Stay c H1 H' := fun b o z nb => hs b o z (fun q => nb (q ▸ me.bh)) (fun q => nb (q ▸ me.bf))
    have t := e1.tp s2
    have e2 : HE c (FS lh lf h' f') M1 H' := by
      refine ⟨fun b o z nb => s2 b o (e1.st b o z nb) nb, fun b hb => ⟨(e1.bm b hb).1, ?_⟩, fun H'' k => ?_, fun q hq => ?_, e1.nd, e1.rd⟩
      · rcases me.on b hb with rfl | rfl
        · rw [hh]; exact trivial
        · rw [hf]; exact trivial
      · exact ⟨by rw [k _ (e1.n0 me.bh), hh], by rw [k _ (e1.n0 me.bf), hf]⟩
      · obtain ⟨n0, us, hu, ru⟩ := e1.mm q hq
        exact ⟨n0, us, s2 _ _ hu (fun b => e1.n0 b n0), RpL.tp t _ _ ru⟩
    exact q _ _ _ _ H' hx e2 ((s0.trans s1).trans s2) mk_non
end
/-- a comprehension, told with what stands of the heap -/
theorem we_lcpF {c : Cn} {F : Fp} {M : Mem} {δ : List (Option RV)} {g : TG} {te : TE} {wi : TI} {tt : TT} {js : List Nat} {Ψ : PR} (p : Nat → Bool) (f : Nat → Dt) (h : Wi c wi F δ M fun n Y S F1 M1 => n ≤ 100000 ∧ S F1 M1 ∧
      (∀ i r, i < n → Y i r → ∃ rs, Gn c g js r rs ∧ Wt c tt F1 (setD (js.foldr (fun j δ => δ.set j none) δ) js rs) M1 fun b F3 M3 => b = p i ∧ F3 = F1 ∧ M1.Sublist M3 ∧ (p i = true → We c te F3 (setD (js.foldr (fun j δ => δ.set j none) δ) js rs) M3 fun y F4 M4 => y = .im (f i) ∧ F4 = F1 ∧ M1.Sublist M4)) ∧
      (∀ a, ((ixs n p).map f).length ≤ n → Ψ (.ad (.ref a)) F1 ((a, (ixs n p).map f) :: M1))) : We c (tLc wi g tt te js) F δ M Ψ := by
  refine we_lc fun σ H Q e s q => h σ H Q e s fun n Y S F1 M1 J H1 hx e1 s1 w => q n Y S F1 M1 J H1 ?_ e1 s1 w
  obtain ⟨hn, hS, ht, hd⟩ := hx
  refine ⟨hn, fun i acc F' => acc = (ixs i p).map f ∧ F' = F1, ⟨rfl, rfl⟩, fun i acc F' _ z => by rw [z.2]; exact hS, fun i r acc F' hi _ hY he => ?_, fun acc F' hl he a => by obtain ⟨rfl, rfl⟩ := he; exact hd a hl⟩
  obtain ⟨he1, rfl⟩ := he
  obtain ⟨rs, hg, hw⟩ := ht i r hi hY
  refine ⟨rs, hg, fun σ2 H2 Q2 e2 s2 q2 => hw σ2 H2 Q2 e2 s2 fun b F3 M3 H3 hb e3 s3 => q2 b F3 M3 H3 ?_ e3 s3⟩
  obtain ⟨rfl, rfl, sub, hy⟩ := hb
  refine ⟨fun hp => (hy hp).mono fun y F4 M4 hz => ?_, fun hp => ⟨sub, by show acc = (ixs (i + 1) p).map f; rw [he1, ixs_no hp], rfl⟩⟩
  exact ⟨f i, hz.1, hz.2.2, by show acc ++ [f i] = (ixs (i + 1) p).map f; rw [he1, ixs_yes hp, List.map_append]; rfl, hz.2.1⟩
theorem kFld {X : Cx} {K : PySem.W.Frag} (h : X.K = K) {e : Expr} {ta : TE} {f : Str} {pos : Pos} (he : PE X e ta) (hb : attributeBase e f X.env (eval e X.env) = eval e X.env) : PE X (.Attribute e f pos) (tFld K ta f) := h ▸ pe_fld he hb
end TL

set_option autoImplicit true
set_option maxHeartbeats 200000
set_option maxRecDepth 512
set_option Elab.async false
set_option linter.all false
set_option autoImplicit false
set_option maxRecDepth 100000
set_option maxHeartbeats 1000000
/-! methods of the class Search -/
namespace TL
open PySem PySem.Spec PyProof.Rows L2
section
variable {c : Cn} {F : Fp} {M M' : Mem} {δ : List (Option RV)} {Ψ : PR} {C a lh lf : Addr} {n : Net} {h f : List Int} {i : Nat} {H H1 : Hp} {K : PySem.W.Frag}
theorem we_fNv (m : Me c C a n lh lf) (hi : δ[i]? = some (some (.ad (.ref a)))) (k : Ψ (.im (netD n)) F M) : We c (tFld c.K (tVar i) "net") F δ M Ψ := we_fN m (we_var hi ⟨rfl, k⟩)
theorem we_fWv (m : Me c C a n lh lf) (hi : δ[i]? = some (some (.ad (.ref a)))) (k : Ψ (.im (onesD n)) F M) : We c (tFld c.K (tVar i) "weights") F δ M Ψ := we_fW m (we_var hi ⟨rfl, k⟩)
theorem we_fMv (m : Me c C a n lh lf) (hi : δ[i]? = some (some (.ad (.ref a)))) (k : Ψ (.im (.int n.names.length)) F M) : We c (tFld c.K (tVar i) "many") F δ M Ψ := we_fM m (we_var hi ⟨rfl, k⟩)
theorem we_fHv (m : Me c C a n lh lf) (hi : δ[i]? = some (some (.ad (.ref a)))) (k : Ψ (.ad (.ref lh)) F M) : We c (tFld c.K (tVar i) "heights") F δ M Ψ := we_fH m (we_var hi ⟨rfl, k⟩)
theorem we_fFv (m : Me c C a n lh lf) (hi : δ[i]? = some (some (.ad (.ref a)))) (k : Ψ (.ad (.ref lf)) F M) : We c (tFld c.K (tVar i) "flow") F δ M Ψ := we_fF m (we_var hi ⟨rfl, k⟩)
variable {te : TE} {ta : TA} {E : XK} {m : Str}
theorem we_methRv {pre : PreR} (me : Me c C a n lh lf) (hm : m ∈ meths) (hi : δ[i]? = some (some (.ad (.ref a)))) (k : Wa c ta F δ M fun rs F1 M1 => ∃ as h f, F1 = FS lh lf h f ∧ Paired (ViewW F1 M1) rs as ∧ pre n h f as fun ds => ∀ b, Ψ (.ad (.ref b)) F1 ((b, ds) :: M1)) :
    We c (tMeth C m (spR c.K C pre) [] E (tVar i) ta) F δ M Ψ := we_methR me hm (we_var hi ⟨rfl, k⟩)
theorem we_methShv {pre : PreSh} (me : Me c C a n lh lf) (hm : m ∈ meths) (hi : δ[i]? = some (some (.ad (.ref a)))) (k : Wa c ta F δ M fun rs F1 M1 => ∃ as h f, F1 = FS lh lf h f ∧ Paired (ViewW F1 M1) rs as ∧ pre n h f as fun ds es => ∀ b d, Ψ (.tu [.ref b, .ref d]) F1 ((b, ds) :: (d, es) :: M1)) :
    We c (tMeth C m (spSh c.K C pre) [] E (tVar i) ta) F δ M Ψ := we_methSh me hm (we_var hi ⟨rfl, k⟩)
theorem we_methWv {pre : PreW} (me : Me c C a n lh lf) (hm : m ∈ meths) (hi : δ[i]? = some (some (.ad (.ref a)))) (k : Wa c ta F δ M fun rs F1 M1 => ∃ as h f, F1 = FS lh lf h f ∧ Paired (ViewW F1 M1) rs as ∧ pre n h f as fun h' f' => Ψ (.im .non) (FS lh lf h' f') M1) :
    We c (tMeth C m (spW c.K C pre) [] E (tVar i) ta) F δ M Ψ := we_methW me hm (we_var hi ⟨rfl, k⟩)
/-- (e, e') of lists -/
theorem we_tup2 {tb : TE} {x y : V} (k : We c te F δ M fun r F1 M1 => r = .ad x ∧ We c tb F1 δ M1 fun r2 F2 M2 => r2 = .ad y ∧ Ψ (.tu [x, y]) F2 M2) : We c (tTup (tCons te (tCons tb tNil))) F δ M Ψ := fun σ H Q e s q =>
  k σ H _ e s fun r F1 M1 v H1 p e1 s1 v1 => by
    obtain ⟨rfl, p⟩ := p
    have v1' : v = x := v1
    subst v1'
    refine p σ H1 _ e1 (s.tp (e.tp s1)) fun r2 F2 M2 u H2 p2 e2 s2 v2 => ?_
    obtain ⟨rfl, p2⟩ := p2
    have v2' : u = y := v2
    subst v2'
    refine ⟨by show 2 ≤ sizeLine; decide, fun p hn => ?_⟩
    exact q _ F2 M2 _ _ p2 (e2.alloc hn) ((s1.trans s2).trans (Stay.new hn)) ⟨p, rfl, .inl (.inl upd_same)⟩
theorem wg_tup2 {u : TGs} {x y : V} {N : PN} (k : Wgs c u [.ad x, .ad y] F δ M N) : Wg c (gTup c.K 2 u) (.tu [x, y]) F δ M N := fun v σ H Q e s v1 q => by
  obtain ⟨p, rfl, h1⟩ := v1
  exact ⟨p, [x, y], rfl, h1, rfl, k [x, y] σ H Q e s (.cons rfl (.cons rfl .nil)) q⟩
theorem me_start {R : Mem} (ks : KS K C) (st : SSt K H C a n lh lf h f) : Me (cS K H lh lf R) C a n lh lf := by
  refine ⟨ks, st.fd, fun b => ?_, .inl rfl, .inr rfl, st.ne, fun x b => b⟩
  obtain ⟨dx, fs, vn, vw, e0, _⟩ := st.fd.ex
  rcases b with rfl | rfl
  · rw [st.hh] at e0; cases e0
  · rw [st.hf] at e0; cases e0
theorem he_start {R : Mem} (st : SSt K H C a n lh lf h f) (hR : ∀ p ∈ R, (p.1 ≠ lh ∧ p.1 ≠ lf) ∧ ∃ us, SqL K H p.1 us ∧ RpL K H us p.2) : HE (cS K H lh lf R) (FS lh lf h f) [] H := by
  refine ⟨fun a o e _ => e, fun a b => ?_, fun H' k => ?_, fun p hp => (nomatch hp), List.nodup_nil, fun p hp => ⟨fun b => b.elim (hR p hp).1.1 (hR p hp).1.2, (hR p hp).2⟩⟩
  · rcases b with rfl | rfl
    · exact ⟨by show Mut (H _); rw [st.hh]; exact trivial, by rw [st.hh]; exact trivial⟩
    · exact ⟨by show Mut (H _); rw [st.hf]; exact trivial, by rw [st.hf]; exact trivial⟩
  · exact ⟨by rw [k lh (by show H lh ≠ none; rw [st.hh]; simp)]; exact st.hh, by rw [k lf (by show H lf ≠ none; rw [st.hf]; simp)]; exact st.hf⟩
theorem entW_ex : ∀ {as : List AV} {vs : List V}, Paired (AvW K H lh lf) as vs → ∃ g, Paired (VOk K H) (entR as g) vs ∧ ∀ p ∈ entM as g, (p.1 ≠ lh ∧ p.1 ≠ lf) ∧ ∃ us, SqL K H p.1 us ∧ RpL K H us p.2
  | _, _, .nil => ⟨fun _ => 0, .nil, fun p hp => (nomatch hp)⟩
  | .im x :: as, _, .cons w ws => by
    obtain ⟨g, h1, h2⟩ := entW_ex ws
    exact ⟨fun i => g (i - 1), .cons w.1 h1, h2⟩
  | .ob x :: as, _, .cons w ws => by
    obtain ⟨g, h1, h2⟩ := entW_ex ws
    exact ⟨fun i => g (i - 1), .cons w.1 h1, h2⟩
  | .ls ds :: as, _, .cons w ws => by
    obtain ⟨g, h1, h2⟩ := entW_ex ws
    obtain ⟨b, us, rfl, q1, q2⟩ := w.1
    have q3 := w.2 ds rfl
    refine ⟨fun i => match i with | 0 => b | i + 1 => g i, .cons rfl h1, fun p hp => ?_⟩
    rcases List.mem_cons.mp hp with rfl | hp
    · exact ⟨⟨fun z => q3.1 (by rw [show b = lh from z]), fun z => q3.2 (by rw [show b = lf from z])⟩, us, q1, q2⟩
    · exact h2 p hp
theorem same_end {R : Mem} (e0 : HE (cS K H lh lf R) (FS lh lf h f) [] H) (e : HE (cS K H lh lf R) (FS lh lf h f) M H1) : Same H H1 := fun b o z => by
  by_cases hb : b = lh ∨ b = lf
  · rcases hb with rfl | rfl
    · rw [e0.fs.1] at z; cases z; exact e.fs.1
    · rw [e0.fs.2] at z; cases z; exact e.fs.2
  · exact e.st b o z hb
abbrev δS (N : List Str) (a : Addr) (as : List AV) (g : Nat → Addr) : List (Option RV) := (RV.ad (.ref a) :: entR as g).map some ++ List.replicate (N.length - (RV.ad (.ref a) :: entR as g).length) none
theorem spR_start {pre : PreR} {vs : List V} {Q : VK} {t : TS} {N : List Str} (ks : KS K C) (hs : spR K C pre vs H Q E)
    (k : ∀ a n lh lf h f as post g, Me (cS K H lh lf (entM as g)) C a n lh lf → pre n h f as post → Ws (cS K H lh lf (entM as g)) t (FS lh lf h f) (δS N a as g) [] (fun _ _ _ => False) (fun r F' M' => F' = FS lh lf h f ∧ ∃ b ds, r = .ad (.ref b) ∧ (b, ds) ∈ M' ∧ post ds)) :
    t { nx := fun _ H' => Q .non H', rt := Q } (L2.start N vs) H := by
  obtain ⟨a, rest, n, lh, lf, h, f, as, post, rfl, st, ha, hp, q⟩ := hs
  obtain ⟨g, h1, h2⟩ := entW_ex ha
  have e0 := he_start (R := entM as g) st h2
  have hv : Paired (VOk K H) (RV.ad (.ref a) :: entR as g) (V.ref a :: rest) := .cons rfl h1
  refine k a n lh lf h f as post g (me_start ks st) hp (L2.start N _) H _ e0 (slots_start hv) (fun F' δ' M' σ' H' z _ _ _ => z.elim) (fun r F' M' v H' hr e hv => ?_)
  obtain ⟨rfl, b, ds, rfl, hm, hpost⟩ := hr
  have hv' : v = .ref b := hv
  subst hv'
  obtain ⟨n0, us, hu, ru⟩ := e.mm _ hm
  exact q ds b us H' hpost (same_end e0 e) n0 hu ru
theorem spSh_start {pre : PreSh} {vs : List V} {Q : VK} {t : TS} {N : List Str} (ks : KS K C) (hs : spSh K C pre vs H Q E)
    (k : ∀ a n lh lf h f as post g, Me (cS K H lh lf (entM as g)) C a n lh lf → pre n h f as post → Ws (cS K H lh lf (entM as g)) t (FS lh lf h f) (δS N a as g) [] (fun _ _ _ => False) (fun r F' M' => F' = FS lh lf h f ∧ ∃ b d ds es, r = .tu [.ref b, .ref d] ∧ [(d, es), (b, ds)].Sublist M' ∧ post ds es)) :
    t { nx := fun _ H' => Q .non H', rt := Q } (L2.start N vs) H := by
  obtain ⟨a, rest, n, lh, lf, h, f, as, post, rfl, st, ha, hp, q⟩ := hs
  obtain ⟨g, h1, h2⟩ := entW_ex ha
  have e0 := he_start (R := entM as g) st h2
  have hv : Paired (VOk K H) (RV.ad (.ref a) :: entR as g) (V.ref a :: rest) := .cons rfl h1
  refine k a n lh lf h f as post g (me_start ks st) hp (L2.start N _) H _ e0 (slots_start hv) (fun F' δ' M' σ' H' z _ _ _ => z.elim) (fun r F' M' v H' hr e hv => ?_)
  obtain ⟨rfl, b, d, ds, es, rfl, hm, hpost⟩ := hr
  obtain ⟨p, rfl, hp'⟩ := hv
  have e' := e.weak hm
  obtain ⟨n0, us, hu, ru⟩ := e'.mm (b, ds) (by simp)
  obtain ⟨n1, us1, hu1, ru1⟩ := e'.mm (d, es) (by simp)
  have nd := e'.nd
  exact q ds es b d p us us1 H' hpost (same_end e0 e) n0 n1 (fun z => by simp [z] at nd) hu ru hu1 ru1 hp'
theorem spW_start {pre : PreW} {vs : List V} {Q : VK} {t : TS} {N : List Str} (ks : KS K C) (hs : spW K C pre vs H Q E)
    (k : ∀ a n lh lf h f as post g, Me (cS K H lh lf (entM as g)) C a n lh lf → pre n h f as post → Ws (cS K H lh lf (entM as g)) t (FS lh lf h f) (δS N a as g) [] (fun F' _ _ => ∃ h' f', F' = FS lh lf h' f' ∧ post h' f') (fun _ _ _ => False)) :
    t { nx := fun _ H' => Q .non H', rt := Q } (L2.start N vs) H := by
  obtain ⟨a, rest, n, lh, lf, h, f, as, post, rfl, st, ha, hp, q⟩ := hs
  obtain ⟨g, h1, h2⟩ := entW_ex ha
  have e0 := he_start (R := entM as g) st h2
  have hv : Paired (VOk K H) (RV.ad (.ref a) :: entR as g) (V.ref a :: rest) := .cons rfl h1
  refine k a n lh lf h f as post g (me_start ks st) hp (L2.start N _) H _ e0 (slots_start hv) (fun F' δ' M' σ' H' z e _ _ => ?_) (fun r F' M' v H' hr e hv => hr.elim)
  obtain ⟨h', f', rfl, hpost⟩ := z
  exact q h' f' H' hpost (fun b o z b1 b2 => e.st b o z fun b => b.elim b1 b2) e.fs.1 e.fs.2
end
/-- a method's text -/
def DfM (K : PySem.W.Frag) (C : Addr) (m qual : Str) (st : Stmt) (ps : List Str) : Prop := ∃ f fd, FunD K m qual (defArgs st) (defBody st) (defScope st) [] [] f fd ∧ Meth K C m f ∧ L2.Binds K fd ps []
structure HasM (P : Program) (w : World) (K : PySem.W.Frag) (mg : Str → Option Value) (base : Heap) (k : Nat) (C : Addr) (m : Str) (ps : List Str) (sp : Sp) : Prop where
  ex : ∃ f fd, FnOk P w K mg base CX0 k f fd ps sp ∧ Meth K C m f ∧ Binds K fd ps []
section
variable {X : Cx} {k : Nat} {C : Addr} {m : Str} {ps : List Str} {sp : Sp} {pos apos : Pos} {o e : Expr} {es : List Expr} {ta : TE} {t : TA}
theorem HasM.pe0 {pl : Sem Bool} (G : HasM X.prog X.w X.K X.mg X.base k C m ps sp) (cl : Cls X.K C) (hr : Room k X.A) (he : PE X o ta)
    (ht : eval (.Call (.Attribute o m apos) [] [] pos) X.env = (do
      let ov ← eval o X.env
      standAt apos.atName
      let (f, first) ← holding [ov] (getMethod ov m pl)
      callWith pos f first (backTo pos (starEach [] X.env)) (backToKw pos (keywordEach [] X.env))) := by rfl) : PE X (.Call (.Attribute o m apos) [] [] pos) (tMeth C m sp [] E0 ta tNil) := by
  obtain ⟨f, fd, FO, hm, hb⟩ := G.ex
  exact pe_meth0 he cl hm FO hr hb .nil pass0 ht
theorem HasM.pe {pl : Sem Bool} (G : HasM X.prog X.w X.K X.mg X.base k C m ps sp) (cl : Cls X.K C) (hr : Room k X.A) (he : PE X o ta) (ha : PA X (e :: es) t)
    (hst : starEach (e :: es) X.env = (false, eval e X.env) :: starEach es X.env := by rfl) (hpl : (backTo pos (starEach es X.env)).any (·.1) = false := by rfl)
    (ht : eval (.Call (.Attribute o m apos) (e :: es) [] pos) X.env = (do
      let ov ← eval o X.env
      standAt apos.atName
      let (f, first) ← holding [ov] (getMethod ov m pl)
      callWith pos f first (backTo pos (starEach (e :: es) X.env)) (backToKw pos (keywordEach [] X.env))) := by rfl) : PE X (.Call (.Attribute o m apos) (e :: es) [] pos) (tMeth C m sp [] E0 ta t) := by
  obtain ⟨f, fd, FO, hm, hb⟩ := G.ex
  exact pe_meth he cl hm FO hr hb .nil pass0 ha hst hpl ht
end
section
variable {P : Program} {w : World} {K : PySem.W.Frag} {mg : Str → Option Value} {base : Heap} {k : Nat} {m qual : Str} {params : Arguments} {body : List Stmt} {scope : Scope} {f C : Addr} {fd : FuncData} {N ps : List Str}
theorem hasM_of {sp : Sp} (F : FunD K m qual params body scope [] [] f fd) (hm : Meth K C m f) (S : FnScope N ps scope) (hb : Binds K fd ps []) (len : ∀ vs H Q E, sp vs H Q E → vs.length = ps.length)
    (hbody : ∀ (cdv : Value) (A : Around) (outer : List Env) (s : Shared) (H : Hp) (E : XK), Room k (A.deeper (envOfC qual scope s.heap.objs.size f cdv)) →
      ∃ t, PSs (cxOf CX0 P w K mg base N qual scope f cdv A outer s H E).nox body t ∧ ∀ vs Q, sp vs H Q E → t { nx := fun _ H' => Q .non H', rt := Q } (L2.start N vs) H) : HasM P w K mg base (k + 1) C m ps sp := by
  refine ⟨f, fd, F.ok S len (fun cdv A outer s H vs Q E hr h => ?_), hm, hb⟩
  obtain ⟨t, ht, hw⟩ := hbody cdv A outer s H E hr
  exact ⟨t, ht.nox, hw vs Q h⟩
end
theorem lenR {K : PySem.W.Frag} {C : Addr} {pre : PreR} {j : Nat} (h : ∀ n h f as post, pre n h f as post → as.length = j) : ∀ vs H Q E, spR K C pre vs H Q E → vs.length = j + 1 := fun vs H Q E ⟨a, rest, n, lh, lf, h', f, as, post, e, _, ha, hp, _⟩ => by
  rw [e, List.length_cons, ← h n h' f as post hp, paired_len ha]
theorem lenSh {K : PySem.W.Frag} {C : Addr} {pre : PreSh} {j : Nat} (h : ∀ n h f as post, pre n h f as post → as.length = j) : ∀ vs H Q E, spSh K C pre vs H Q E → vs.length = j + 1 := fun vs H Q E ⟨a, rest, n, lh, lf, h', f, as, post, e, _, ha, hp, _⟩ => by
  rw [e, List.length_cons, ← h n h' f as post hp, paired_len ha]
theorem lenW {K : PySem.W.Frag} {C : Addr} {pre : PreW} {j : Nat} (h : ∀ n h f as post, pre n h f as post → as.length = j) : ∀ vs H Q E, spW K C pre vs H Q E → vs.length = j + 1 := fun vs H Q E ⟨a, rest, n, lh, lf, h', f, as, post, e, _, ha, hp, _⟩ => by
  rw [e, List.length_cons, ← h n h' f as post hp, paired_len ha]
end TL

set_option autoImplicit true
set_option maxHeartbeats 200000
set_option maxRecDepth 512
set_option Elab.async false
set_option linter.all false
set_option autoImplicit false
set_option maxRecDepth 100000
set_option maxHeartbeats 1000000
namespace TL
open PySem PySem.Spec PyProof.Rows L2
theorem first_at {z : Int} : ∀ {l : List Int}, z ∈ l → ∃ j : Nat, l[j]? = some z ∧ ∀ m : Nat, m < j → l[m]? ≠ some z
  | [], h => by cases h
  | x :: l, h => by
    by_cases e : x = z
    · exact ⟨0, by rw [e]; rfl, fun m hm => absurd hm (by omega)⟩
    · have h' : z ∈ l := by
        rcases List.mem_cons.mp h with q | q
        · exact absurd q.symm e
        · exact q
      obtain ⟨j, h1, h2⟩ := first_at h'
      refine ⟨j + 1, h1, fun m hm => ?_⟩
      cases m with
      | zero => intro q; exact e (Option.some.inj q)
      | succ m => exact h2 m (by omega)
theorem eqV_ii (i j : Int) : eqV (.int i) (.int j) = decide (i = j) := by
  have := eqV_int j [i]
  unfold inV at this
  simp at this
  rw [this]
  exact dec_iff ⟨fun h => h.symm, fun h => h.symm⟩
theorem we_index {c : Cn} {F : Fp} {M : Mem} {δ : List (Option RV)} {Ψ : PR} {to te : TE} (l : List Int) (h : We c to F δ M fun x F1 M1 => ∃ a, x = .ad (.ref a) ∧ Lk c F1 M1 a (l.map Dt.int) ∧ We c te F1 δ M1 fun y F2 M2 => ∃ z : Int, y = .im (.int z) ∧ Lk c F2 M2 a (l.map Dt.int) ∧ z ∈ l ∧ ∀ j : Nat, l[j]? = some z → Ψ (.im (.int (j : Int))) F2 M2) :
    We c (tBM c.K "list" (rIndex c.K) to (tCons te tNil)) F δ M Ψ := fun σ H Q e s q =>
  h σ H _ e s fun x F1 M1 xv H1 p1 e1 s1 w1 => by
    obtain ⟨a, rfl, hL, p1⟩ := p1
    have w1' : xv = .ref a := w1
    subst w1'
    obtain ⟨vs0, hs0, _⟩ := hL H1 e1
    refine ⟨.inl ⟨rfl, vs0, hs0⟩, ?_⟩
    refine p1 σ H1 _ e1 (s.tp (e.tp s1)) fun y F2 M2 yv H2 p2 e2 s2 w2 => ?_
    obtain ⟨z, rfl, hL2, hz, k⟩ := p2
    obtain rfl := rp_int w2
    obtain ⟨vs, hs, r⟩ := hL2 H2 e2
    cases rpl_ints r
    obtain ⟨j, hj, hno⟩ := first_at hz
    refine ⟨a, l.map V.int, .int z, j, .int z, rfl, rfl, hs, rfl, flat_ints l, by rw [List.getElem?_map, hj]; rfl, by rw [eqV_ii]; exact decide_eq_true rfl, fun m z' hm hz' => ?_, q _ F2 M2 _ H2 (k j hj) e2 (s1.trans s2) mk_int⟩
    rw [List.getElem?_map] at hz'
    cases e3 : l[m]? with
    | none => rw [e3] at hz'; cases hz'
    | some w =>
      rw [e3] at hz'
      cases hz'
      rw [eqV_ii]
      exact decide_eq_false fun q => hno m hm (by rw [e3, q])
end TL

set_option autoImplicit true
set_option maxHeartbeats 200000
set_option maxRecDepth 512
set_option Elab.async false
set_option linter.all false
set_option autoImplicit false
set_option maxRecDepth 100000
set_option maxHeartbeats 1000000
/-! least ways in what can be gone, and what is led along them -/
namespace TL
open PySem PySem.Spec PyProof.Rows L2
/-- a step that can be gone -/
structure Stp where
  u : Nat
  v : Nat
  c : Int
  i : Nat
  s : Int
@[reducible] def stD (x : Stp) : Dt := .tup [.int (x.u : Int), .int (x.v : Int), .int x.c, .int (x.i : Int), .int x.s]
structure StepsOk (n : Net) (h : List Int) (f : Nat → Int) (k : Nat) (L : List Stp) : Prop where
  ok : ∀ x ∈ L, Res n f x.u x.i x.s x.v ∧ x.c = -(x.s * n.miss h x.i)
  all : ∀ u i b v, i < k → Res n f u i b v → ∃ x ∈ L, x.u = u ∧ x.v = v ∧ x.i = i ∧ x.s = b
  len : L.length ≤ 2 * k
def lstD : Option Stp → Dt
  | none => .non
  | some x => stD x
theorem lstD_isN (e : Option Stp) : (lstD e).isN = e.isNone := by cases e <;> rfl
/-- heights and a flow that fit -/
structure Slack (n : Net) (h : List Int) (f : Nat → Int) : Prop where
  up : ∀ i, i < n.rs.length → f i < 1 → n.miss h i ≤ 0
  dn : ∀ i, i < n.rs.length → -1 < f i → 0 ≤ n.miss h i
theorem Slack.pos {n : Net} {h : List Int} {f : Nat → Int} (k : Slack n h f) {u i v : Nat} {b : Int} (r : Res n f u i b v) : 0 ≤ -(b * n.miss h i) := by
  rcases r.2 with ⟨_, _, rfl, z⟩ | ⟨_, _, rfl, z⟩
  · have := k.up i r.1 z; omega
  · have := k.dn i r.1 z; omega
def TreeC (n : Net) (h : List Int) (f : Nat → Int) (s : Nat) (g : Row) (last : List (Option Stp)) (r : Nat → Nat) : Prop := ∀ v x, v ≠ s → g.getD v none = some x → ∃ st, last.getD v none = some st ∧ st.v = v ∧ Res n f st.u st.i st.s v ∧ st.c = -(st.s * n.miss h st.i) ∧ (∃ d, g.getD st.u none = some d ∧ d + st.c ≤ x) ∧ r st.u < r v
structure Way (n : Net) (h : List Int) (f : Nat → Int) (s : Nat) (C : Nat) (g : Row) (last : List (Option Stp)) : Prop where
  bf : BF n.names.length (fun _ => 0) C g
  ll : last.length = n.names.length
  z : g.getD s none = some 0
  tr : ∃ r, TreeC n h f s g last r
structure ShortOk (n : Net) (h : List Int) (f : Nat → Int) (s : Nat) (g : Row) (last : List (Option Stp)) : Prop where
  gl : g.length = n.names.length
  ll : last.length = n.names.length
  z : g.getD s none = some 0
  nn : ∀ v x, g.getD v none = some x → 0 ≤ x
  tight : ∀ u i b v x, Res n f u i b v → g.getD u none = some x → ∃ y, g.getD v none = some y ∧ y ≤ x + -(b * n.miss h i)
  tr : ∃ r, TreeC n h f s g last r
inductive Desc (s : Nat) (last : List (Option Stp)) (v : Nat) : Nat → Prop
  | self : Desc s last v v
  | step {w : Nat} {st : Stp} (hw : w ≠ s) (hl : last.getD w none = some st) (hd : Desc s last v st.u) : Desc s last v w
theorem Way.upd {n : Net} (ok : n.ok) {h : List Int} {f : Nat → Int} {s : Nat} {C : Nat} {g : Row} {last : List (Option Stp)} (sl : Slack n h f) (k : Way n h f s C g last) {st : Stp} {d : Int} (hr : Res n f st.u st.i st.s st.v) (hc : st.c = -(st.s * n.miss h st.i)) (hC : st.c ≤ C)
    (hu : g.getD st.u none = some d) (hnew : ∀ y, g.getD st.v none = some y → d + st.c < y) :
    Way n h f s C (g.set st.v (some (d + st.c))) (last.set st.v (some st)) ∧ meas (fun _ => 0) C (g.set st.v (some (d + st.c))) < meas (fun _ => 0) C g := by
  classical
  have c0 : 0 ≤ st.c := by rw [hc]; exact sl.pos hr
  have hv := (hr.lt ok).2
  have hgl := k.bf.len
  obtain ⟨b1, b2⟩ := k.bf.upd (v := st.v) (c := st.c) hv (of_getD hu) (by show 0 ≤ st.c + 0 - 0; omega) (by show st.c + 0 - 0 ≤ _; omega) hnew
  have nn : ∀ v x, g.getD v none = some x → 0 ≤ x := fun v x e => (k.bf.bd v x (of_getD e)).1
  have hd0 := nn _ _ hu
  have hvs : st.v ≠ s := fun e => by
    have := hnew 0 (by rw [e]; exact k.z)
    omega
  have huv : st.u ≠ st.v := fun e => by
    have := hnew d (by rw [← e]; exact hu)
    omega
  obtain ⟨r, tr⟩ := k.tr
  have desc : ∀ w, Desc s last st.v w → ∀ z, g.getD w none = some z → ∃ y, g.getD st.v none = some y ∧ y ≤ z := by
    intro w hw
    induction hw with
    | self => intro z e; exact ⟨z, e, Int.le_refl _⟩
    | @step w st' hws hl _ ih =>
      intro z e
      obtain ⟨st2, e1, _, hr2, hc2, ⟨d2, e2, h2⟩, _⟩ := tr w z hws e
      rw [hl] at e1
      cases e1
      obtain ⟨y, e3, h3⟩ := ih d2 e2
      have c2 : 0 ≤ st'.c := by rw [hc2]; exact sl.pos hr2
      exact ⟨y, e3, by omega⟩
  have hnd : ¬ Desc s last st.v st.u := fun q => by
    obtain ⟨y, e, hy⟩ := desc _ q d hu
    have := hnew y e
    omega
  refine ⟨⟨b1, by rw [List.length_set]; exact k.ll, by rw [getD_set_neR (fun e => hvs e.symm)]; exact k.z, ?_⟩, b2⟩
  have hlast : ∀ w, w ≠ st.v → (last.set st.v (some st)).getD w none = last.getD w none := fun w hw => by
    rw [List.getD_eq_getElem?_getD, List.getElem?_set_ne (fun e => hw e.symm), ← List.getD_eq_getElem?_getD]
  have hself : (last.set st.v (some st)).getD st.v none = some st := by
    rw [List.getD_eq_getElem?_getD, List.getElem?_set_self (by rw [k.ll]; exact hv)]; rfl
  have gself : (g.set st.v (some (d + st.c))).getD st.v none = some (d + st.c) := getD_set_selfR (by rw [hgl]; exact hv)
  refine ⟨fun w => if Desc s last st.v w then r w + r st.u + 1 else r w, fun w x hws hx => ?_⟩
  by_cases hwv : w = st.v
  · subst hwv
    rw [gself] at hx
    cases hx
    refine ⟨st, hself, rfl, hr, hc, ⟨d, by rw [getD_set_neR huv]; exact hu, Int.le_refl _⟩, ?_⟩
    show (if _ then _ else _) < (if _ then _ else _)
    rw [if_neg hnd, if_pos Desc.self]
    omega
  · rw [getD_set_neR hwv] at hx
    obtain ⟨st2, e1, e2, hr2, hc2, ⟨d2, e3, h3⟩, hlt⟩ := tr w x hws hx
    refine ⟨st2, by rw [hlast w hwv]; exact e1, e2, hr2, hc2, ?_, ?_⟩
    · by_cases q : st2.u = st.v
      · rw [q, gself]
        rw [q] at e3
        have := hnew d2 e3
        exact ⟨_, rfl, by omega⟩
      · rw [getD_set_neR q]
        exact ⟨d2, e3, h3⟩
    · show (if _ then _ else _) < (if _ then _ else _)
      by_cases q : Desc s last st.v st2.u
      · rw [if_pos q, if_pos (Desc.step hws e1 q)]
        omega
      · rw [if_neg q]
        by_cases q2 : Desc s last st.v w
        · rw [if_pos q2]; omega
        · rw [if_neg q2]; exact hlt
theorem at_lst {l : List (Option Stp)} {v : Nat} (hl : v < l.length) : atI (l.map lstD) (v : Int) = some (lstD (l.getD v none)) := by
  refine L2.atI_nat ?_
  rw [List.getElem?_map, List.getElem?_eq_getElem hl, List.getD_eq_getElem?_getD, List.getElem?_eq_getElem hl]; rfl
def gS (N s : Nat) : Row := (List.replicate N none).set s (some 0)
theorem way0 {n : Net} {h : List Int} {f : Nat → Int} {s : Nat} {C : Nat} (hs : s < n.names.length) : Way n h f s C (gS n.names.length s) (List.replicate n.names.length none) := by
  have only : ∀ v x, (gS n.names.length s).getD v none = some x → v = s ∧ x = 0 := fun v x e => by
    have e' := of_getD e
    unfold gS at e'
    by_cases q : v = s
    · subst q
      rw [List.getElem?_set_self (by rw [List.length_replicate]; exact hs)] at e'
      cases e'
      exact ⟨rfl, rfl⟩
    · rw [List.getElem?_set_ne (fun z => q z.symm), List.getElem?_replicate] at e'
      split at e' <;> cases e'
  refine ⟨⟨by unfold gS; simp, fun v x e => ?_⟩, by simp, by unfold gS; exact getD_set_selfR (by rw [List.length_replicate]; exact hs), fun _ => 0, fun v x hv e => absurd (only v x e).1 hv⟩
  obtain ⟨_, rfl⟩ := only v x (by rw [getD_of e])
  have : (0 : Int) ≤ ((n.names.length - cnN (gS n.names.length s) : Nat) : Int) * C := Int.mul_nonneg (by omega) (by omega)
  exact ⟨Int.le_refl _, by omega⟩
theorem le_sum_st {E : List Stp} {F : Stp → Nat} {e : Stp} (h : e ∈ E) : F e ≤ (E.map F).sum := by
  induction E with
  | nil => cases h
  | cons x E ih =>
    rw [List.map_cons, List.sum_cons]
    rcases List.mem_cons.mp h with rfl | h
    · omega
    · have := ih h; omega
end TL

set_option autoImplicit true
set_option maxHeartbeats 200000
set_option maxRecDepth 512
set_option Elab.async false
set_option linter.all false
set_option autoImplicit false
set_option maxRecDepth 100000
set_option maxHeartbeats 1000000
/-! making an object of the class Search -/
namespace TL
open PySem PySem.Spec PyProof.Rows L2
def FI (x C dx : Addr) (fs : List (Str × V)) : Fp := fun H => H x = some (.ins C dx fs)
abbrev cI (K : PySem.W.Frag) (H : Hp) (x : Addr) : Cn := ⟨K, H, fun y => y = x, []⟩
section
variable {c : Cn} {F : Fp} {M M' : Mem} {δ : List (Option RV)} {Ψ : PR} {N : PN} {R : PR} {x C dx : Addr} {fs : List (Str × V)} {K : PySem.W.Frag} {H : Hp} {tv : TE} {f : Str} {i : Nat} {v : V} {d : Dt} {r : R2} {y : RV}
theorem rr_sh (h0 : Rp c.K c.H0 v d) (k : Rr c r (.im d) y F M Ψ) : Rr c r (.ad v) y F M Ψ := fun H Q w u e p q f => by
  have p' : w = v := p
  subst p'
  exact k H Q w u e (Rp.tp e.tp0 _ _ h0) q f
theorem we_sh (hi : δ[i]? = some (some (.ad v))) (h0 : Rp c.K c.H0 v d) (k : Ψ (.im d) F M) : We c (tVar i) F δ M Ψ := fun σ H Q e s q => by
  obtain ⟨w, a, b⟩ := s.2 i _ hi
  have b' : w = v := b
  subst b'
  exact ⟨w, a, q _ F M w H k e Stay.refl (Rp.tp e.tp0 _ _ h0)⟩
theorem ins_tp {K : PySem.W.Frag} {p : Addr} {a b : List (Str × V)} (e : H p = some (.ins C dx a)) : Tp K H (upd H p (.ins C dx b)) := by
  intro q us z
  rcases z with (z | ⟨u, z⟩) | z
  · exact .inl (.inl (by rw [upd_ne (ne_of z e (by intro z; cases z))]; exact z))
  · exact .inl (.inr ⟨u, by rw [upd_ne (ne_of z e (by intro z; cases z))]; exact z⟩)
  · exact .inr z
theorem ws_put (cc : Cls K C) (na : NoAttr K C f) (hi : δ[0]? = some (some (.ad (.ref x)))) (hv : We (cI K H x) tv F δ M fun r F1 M1 => ∃ v fs, (r = .ad v ∨ ∃ i, r = .im (.int i) ∧ v = .int i) ∧ F1 = FI x C dx fs ∧ fs.length < 1000 ∧ N (FI x C dx (putF f v fs)) δ M1) :
    Ws (cI K H x) (sFld K (tVar 0) tv f) F δ M N R := fun σ H1 D e s n q =>
  hv σ H1 _ e s fun r F1 M1 y H2 p e2 s2 v2 => by
    obtain ⟨v, fs, hr, rfl, hl, hN⟩ := p
    have hy : y = v := by
      rcases hr with rfl | ⟨i, rfl, rfl⟩
      · exact v2
      · exact rp_int v2
    subst hy
    have sl := s.tp (e.tp s2)
    obtain ⟨w, a, b⟩ := sl.2 0 _ hi
    have b' : w = .ref x := b
    subst b'
    have hx : H2 x = some (.ins C dx fs) := e2.fr H2 fun _ _ => rfl
    have t := ins_tp (K := K) (b := putF f y fs) hx
    have hb0 : H x ≠ none := e2.n0 (c := cI K H x) rfl
    refine ⟨_, a, x, C, dx, fs, rfl, hx, cc, na, hl, n _ _ _ σ _ hN ⟨fun b o z nb => ?_, fun b hb => ?_, fun H' k => ?_, fun p hp => ?_, e2.nd, e2.rd⟩ (sl.tp t) ((e.tp s2).trans t)⟩
    · rw [upd_ne (by intro z; exact nb z)]; exact e2.st b o z nb
    · refine ⟨(e2.bm b hb).1, ?_⟩
      have hb' : b = x := hb
      rw [hb', upd_same]; exact trivial
    · show H' x = _
      rw [k x hb0, upd_same]
    · obtain ⟨n0, us, hu, ru⟩ := e2.mm p hp
      refine ⟨n0, us, ?_, RpL.tp t _ _ ru⟩
      rw [upd_ne (by intro z; rw [z] at n0; exact hb0 n0)]; exact hu
/-- a whole number among the fields is read -/
theorem we_fI {fs : List (Str × V)} {z : Int} (cc : Cls K C) (na : NoAttr K C f) (hi : δ[0]? = some (some (.ad (.ref x)))) (hl : fs.lookup f = some (.int z)) (k : Ψ (.im (.int z)) (FI x C dx fs) M) : We (cI K H x) (tFld K (tVar 0) f) (FI x C dx fs) δ M Ψ := fun σ H1 Q e s q => by
  obtain ⟨w, a, b⟩ := s.2 0 _ hi
  have b' : w = .ref x := b
  subst b'
  have hx : H1 x = some (.ins C dx fs) := e.fr H1 fun _ _ => rfl
  exact ⟨_, a, x, C, dx, fs, _, rfl, hx, cc, na, hl, q _ _ M _ H1 k e Stay.refl mk_int⟩
end
def spI (K : PySem.W.Frag) (C : Addr) : Sp := fun vs H Q _ => ∃ x dx n vn vw, vs = [.ref x, vn, vw] ∧ H x = some (.ins C dx []) ∧ Rp K H vn (netD n) ∧ Rp K H vw (onesD n) ∧ n.ok ∧
  ∀ H' lh lf h f, (∀ b o, H b = some o → b ≠ x → H' b = some o) → SSt K H' C x n lh lf h f → h.length = n.names.length → f.length = n.rs.length → (∀ i, i < n.rs.length → -1 ≤ fn f i ∧ fn f i ≤ 1) → Slack n h (fn f) → H lh = none → H lf = none → Q .non H'
end TL

set_option autoImplicit true
set_option maxHeartbeats 200000
set_option maxRecDepth 512
set_option Elab.async false
set_option linter.all false
set_option autoImplicit false
set_option maxRecDepth 100000
set_option maxHeartbeats 1000000
/-! flow is led along a least way -/
namespace TL
open PySem PySem.Spec PyProof.Rows L2
def capN (g : Row) (most : Int) (v : Nat) : Int := match g.getD v none with
  | none => most
  | some x => if most < x then most else x
theorem cap_le {g : Row} {most : Int} {v : Nat} : capN g most v ≤ most := by
  unfold capN
  split
  · omega
  · split <;> omega
def shifted (n : Net) (h : List Int) (g : Row) (most : Int) : List Int := (List.range n.names.length).map fun v => h.getD v 0 - capN g most v
theorem shifted_get {n : Net} {h : List Int} {g : Row} {most : Int} {v : Nat} (hv : v < n.names.length) : (shifted n h g most).getD v 0 = h.getD v 0 - capN g most v := by
  unfold shifted
  rw [List.getD_eq_getElem?_getD, List.getElem?_map, List.getElem?_range hv]; rfl
theorem shifted_miss {n : Net} (ok : n.ok) {h : List Int} {g : Row} {most : Int} {i : Nat} (hi : i < n.rs.length) : n.miss (shifted n h g most) i = n.miss h i + capN g most (n.rd i).b - capN g most (n.rd i).a := by
  unfold Net.miss missR
  rw [shifted_get (ok.ai hi), shifted_get (ok.bi hi)]
  omega
theorem cap_tight {n : Net} {h : List Int} {f : Nat → Int} {s : Nat} {g : Row} {last : List (Option Stp)} (k : ShortOk n h f s g last) (sl : Slack n h f) {most : Int} {u i v : Nat} {b : Int} (r : Res n f u i b v) : capN g most v ≤ capN g most u + -(b * n.miss h i) := by
  have c0 := sl.pos r
  cases e : g.getD u none with
  | none =>
    have : capN g most u = most := by unfold capN; rw [e]
    have := cap_le (g := g) (most := most) (v := v)
    omega
  | some x =>
    obtain ⟨y, e2, h2⟩ := k.tight u i b v x r e
    unfold capN
    rw [e, e2]
    dsimp only
    split <;> split <;> omega
/-- where one is after j steps back -/
def vx (P : List Stp) (mk j : Nat) : Nat := if j = 0 then mk else (P.getD (j - 1) ⟨0, 0, 0, 0, 0⟩).u
def gap (n : Net) (f : Nat → Int) (st : Stp) : Int := 1 - st.s * f st.i
/-- the way back from mk to v -/
structure PathOk (n : Net) (h : List Int) (f : Nat → Int) (g : Row) (most : Int) (r : Nat → Nat) (mk v : Nat) (P : List Stp) : Prop where
  res : ∀ st ∈ P, Res n f st.u st.i st.s st.v
  zero : ∀ st ∈ P, -(st.s * n.miss h st.i) + capN g most st.u - capN g most st.v = 0
  nd : (P.map (·.i)).Nodup
  rk : ∀ st ∈ P, r v ≤ r st.u ∧ r st.u < r st.v
  ch : ∀ j st, P[j]? = some st → st.v = vx P mk j
  at_ : vx P mk P.length = v
  x : ∃ x, g.getD v none = some x ∧ x ≤ most
theorem PathOk.nil {n : Net} {h : List Int} {f : Nat → Int} {g : Row} {most : Int} {r : Nat → Nat} {mk : Nat} (hx : g.getD mk none = some most) : PathOk n h f g most r mk mk [] :=
  ⟨fun _ h => (by cases h), fun _ h => (by cases h), List.nodup_nil, fun _ h => (by cases h), fun j st h => (by simp at h), rfl, most, hx, Int.le_refl _⟩
theorem vx_snoc {P : List Stp} {st : Stp} {mk j : Nat} (h : j ≤ P.length) : vx (P ++ [st]) mk j = vx P mk j := by
  unfold vx
  by_cases e : j = 0
  · rw [if_pos e, if_pos e]
  · rw [if_neg e, if_neg e, List.getD_eq_getElem?_getD, List.getElem?_append_left (by omega), ← List.getD_eq_getElem?_getD]
theorem PathOk.snoc {n : Net} {h : List Int} {f : Nat → Int} {s : Nat} {g : Row} {last : List (Option Stp)} {most : Int} {r : Nat → Nat} {mk v : Nat} {P : List Stp} (k : ShortOk n h f s g last) (sl : Slack n h f) (tr : TreeC n h f s g last r) (p : PathOk n h f g most r mk v P) (hv : v ≠ s) :
    ∃ st, last.getD v none = some st ∧ PathOk n h f g most r mk st.u (P ++ [st]) ∧ r st.u < r v ∧ st.i < n.rs.length ∧ Res n f st.u st.i st.s v := by
  obtain ⟨x, hx, hxm⟩ := p.x
  obtain ⟨st, e1, e2, hr, hc, ⟨d, e3, h3⟩, hlt⟩ := tr v x hv hx
  obtain ⟨y, e4, h4⟩ := k.tight _ _ _ _ d hr e3
  rw [hx] at e4
  cases e4
  have c0 := sl.pos hr
  have hd : d ≤ most := by omega
  have capv : capN g most v = x := by unfold capN; rw [hx]; dsimp only; rw [if_neg (by omega)]
  have capu : capN g most st.u = d := by unfold capN; rw [e3]; dsimp only; rw [if_neg (by omega)]
  refine ⟨st, e1, ⟨fun t ht => ?_, fun t ht => ?_, ?_, fun t ht => ?_, fun j t ht => ?_, ?_, d, e3, hd⟩, hlt, hr.1, hr⟩
  · rcases List.mem_append.mp ht with ht | ht
    · exact p.res t ht
    · cases List.mem_singleton.mp ht
      rw [e2]; exact hr
  · rcases List.mem_append.mp ht with ht | ht
    · exact p.zero t ht
    · cases List.mem_singleton.mp ht
      rw [e2, capv, capu]
      omega
  · rw [List.map_append, List.nodup_append]
    refine ⟨p.nd, by simp, fun i hi j hj e => ?_⟩
    have hj' : j = st.i := by simpa using hj
    obtain ⟨t, ht, hti⟩ := List.mem_map.mp hi
    have hrt := p.res t ht
    obtain ⟨k1, k2⟩ := p.rk t ht
    have ei : t.i = st.i := by rw [hti, e, hj']
    have hrt2 := hrt.2
    rw [ei] at hrt2
    rcases hr.2 with ⟨q1, q2, _, _⟩ | ⟨q1, q2, _, _⟩ <;> rcases hrt2 with ⟨z1, z2, _, _⟩ | ⟨z1, z2, _, _⟩
    · have : st.u = t.u := by rw [← q1, z1]
      rw [this] at hlt; omega
    · have : st.u = t.v := by rw [← q1, z2]
      rw [this] at hlt; omega
    · have : st.u = t.v := by rw [← q1, z2]
      rw [this] at hlt; omega
    · have : st.u = t.u := by rw [← q1, z1]
      rw [this] at hlt; omega
  · rcases List.mem_append.mp ht with ht | ht
    · have := p.rk t ht
      omega
    · cases List.mem_singleton.mp ht
      rw [e2]; exact ⟨Nat.le_refl _, hlt⟩
  · by_cases q : j < P.length
    · rw [List.getElem?_append_left q] at ht
      rw [vx_snoc (by omega)]
      exact p.ch j t ht
    · by_cases q2 : j = P.length
      · subst q2
        rw [List.getElem?_concat_length] at ht
        cases ht
        rw [vx_snoc (Nat.le_refl _), p.at_, e2]
      · rw [List.getElem?_eq_none (by rw [List.length_append]; simp; omega)] at ht
        cases ht
  · unfold vx
    rw [if_neg (by rw [List.length_append]; simp)]
    rw [List.getD_eq_getElem?_getD, List.length_append]
    show ((P ++ [st])[P.length + 1 - 1]?.getD _).u = _
    rw [Nat.add_sub_cancel, List.getElem?_concat_length]; rfl
/-- the flow after j of the steps -/
structure Led (n : Net) (f : Nat → Int) (mk : Nat) (many : Int) (P : List Stp) (j : Nat) (f' : Nat → Int) : Prop where
  out : ∀ i, (∀ t st, t < j → P[t]? = some st → st.i ≠ i) → f' i = f i
  on : ∀ t st, t < j → P[t]? = some st → f' st.i = f st.i + st.s * many
  e : ∀ w, ex n f' n.rs.length w = ex n f n.rs.length w + many * (one w mk - one w (vx P mk j))
theorem Led.start {n : Net} {f : Nat → Int} {mk : Nat} {many : Int} {P : List Stp} : Led n f mk many P 0 f := ⟨fun _ _ => rfl, fun _ _ h => absurd h (by omega), fun w => by unfold vx; rw [if_pos rfl]; simp⟩
theorem Led.step {n : Net} (ok : n.ok) {h : List Int} {f f' : Nat → Int} {g : Row} {most many : Int} {r : Nat → Nat} {mk v j : Nat} {P : List Stp} {st : Stp} (p : PathOk n h f g most r mk v P) (l : Led n f mk many P j f') (hst : P[j]? = some st) : f' st.i = f st.i ∧ Led n f mk many P (j + 1) (up f' st.i (f' st.i + st.s * many)) := by
  have hm := List.mem_of_getElem? hst
  have hres := p.res st hm
  have hfi : f' st.i = f st.i := l.out st.i fun t st' ht e q => by
    have h1 : (P.map (·.i))[t]? = some st.i := by rw [List.getElem?_map, e]; exact congrArg some q
    have h2 : (P.map (·.i))[j]? = some st.i := by rw [List.getElem?_map, hst]; rfl
    have hl : t < (P.map (·.i)).length := (List.getElem?_eq_some_iff.mp h1).1
    have := (List.getElem?_inj hl p.nd).mp (h1.trans h2.symm)
    omega
  refine ⟨hfi, fun i hi => ?_, fun t st' ht e => ?_, fun w => ?_⟩
  · rw [up_ne (fun e => hi j st (by omega) hst e.symm)]
    exact l.out i fun t st' ht => hi t st' (by omega)
  · by_cases q : t = j
    · subst q
      rw [hst] at e
      cases e
      rw [up_same, hfi]
    · have hne : st'.i ≠ st.i := fun z => by
        have h1 : (P.map (·.i))[t]? = some st.i := by rw [List.getElem?_map, e]; exact congrArg some z
        have h2 : (P.map (·.i))[j]? = some st.i := by rw [List.getElem?_map, hst]; rfl
        have hl : t < (P.map (·.i)).length := (List.getElem?_eq_some_iff.mp h1).1
        exact q ((List.getElem?_inj hl p.nd).mp (h1.trans h2.symm))
      rw [up_ne hne]
      exact l.on t st' (by omega) e
  · have hv : st.v = vx P mk j := p.ch j st hst
    have hu : vx P mk (j + 1) = st.u := by
      unfold vx
      rw [if_neg (by omega), Nat.add_sub_cancel, List.getD_eq_getElem?_getD, hst]; rfl
    have hn := ok.nei hres.1
    have hx : f' st.i + st.s * many - f' st.i = st.s * many := by omega
    rw [ex_up hres.1, l.e w, ← hv, hu, hx]
    unfold one
    rcases hres.2 with ⟨e1, e2, e3, _⟩ | ⟨e1, e2, e3, _⟩
    all_goals
      rw [← e1, ← e2, e3]
      simp only [@eq_comm _ w]
      by_cases p1 : (n.rd st.i).a = w
      · have q1 : ¬ (n.rd st.i).b = w := fun q => hn (p1.trans q.symm)
        simp only [if_pos p1, if_neg q1, Int.mul_sub, Int.mul_zero, Int.mul_one]; omega
      · by_cases q1 : (n.rd st.i).b = w
        · simp only [if_neg p1, if_pos q1, Int.mul_sub, Int.mul_zero, Int.mul_one]; omega
        · simp only [if_neg p1, if_neg q1, Int.mul_sub, Int.mul_zero, Int.mul_one]; omega
def posEx (n : Net) (f : Nat → Int) : Nat := sumN (fun v => (ex n f n.rs.length v).toNat) n.names.length
structure PushOk (n : Net) (f : Nat → Int) (h' f' : List Int) : Prop where
  hl : h'.length = n.names.length
  fl : f'.length = n.rs.length
  fb : ∀ i, i < n.rs.length → -1 ≤ fn f' i ∧ fn f' i ≤ 1
  sl : Slack n h' (fn f')
  dec : posEx n (fn f') < posEx n f
theorem push_ok {n : Net} (ok : n.ok) {h : List Int} {f : Nat → Int} {s : Nat} {g : Row} {last : List (Option Stp)} {most many : Int} {r : Nat → Nat} {mk : Nat} {P : List Stp} {fl : List Int} (k : ShortOk n h f s g last) (sl : Slack n h f) (hfb : ∀ i, i < n.rs.length → -1 ≤ f i ∧ f i ≤ 1)
    (p : PathOk n h f g most r mk s P) (hl : fl.length = n.rs.length) (l : Led n f mk many P P.length (fn fl)) (h1 : 1 ≤ many) (h2 : many ≤ ex n f n.rs.length s) (h3 : many ≤ -ex n f n.rs.length mk) (hs : s < n.names.length) (h4 : ∀ st ∈ P, many ≤ gap n f st) : PushOk n f (shifted n h g most) fl := by
  have on : ∀ st ∈ P, fn fl st.i = f st.i + st.s * many := fun st hst => by
    obtain ⟨t, ht⟩ := List.getElem?_of_mem hst
    exact l.on t st (List.getElem?_eq_some_iff.mp ht).1 ht
  have off : ∀ i, (∀ st ∈ P, st.i ≠ i) → fn fl i = f i := fun i hi => l.out i fun t st _ ht => hi st (List.mem_of_getElem? ht)
  have miss0 : ∀ st ∈ P, n.miss (shifted n h g most) st.i = 0 := fun st hst => by
    have hz := p.zero st hst
    have hr := p.res st hst
    rw [shifted_miss ok hr.1]
    rcases hr.2 with ⟨e1, e2, e3, _⟩ | ⟨e1, e2, e3, _⟩
    · rw [e1, e2]; rw [e3] at hz; omega
    · rw [e1, e2]; rw [e3] at hz; omega
  refine ⟨by unfold shifted; simp, hl, fun i hi => ?_, ⟨fun i hi hlt => ?_, fun i hi hlt => ?_⟩, ?_⟩
  · by_cases q : ∃ st ∈ P, st.i = i
    · obtain ⟨st, hst, rfl⟩ := q
      rw [on st hst]
      have hb := hfb st.i hi
      have hg := h4 st hst
      unfold gap at hg
      rcases (p.res st hst).2 with ⟨_, _, e3, _⟩ | ⟨_, _, e3, _⟩
      · rw [e3] at hg ⊢; omega
      · rw [e3] at hg ⊢; omega
    · rw [off i fun st hst e => q ⟨st, hst, e⟩]
      exact hfb i hi
  · by_cases q : ∃ st ∈ P, st.i = i
    · obtain ⟨st, hst, rfl⟩ := q
      rw [miss0 st hst]; omega
    · rw [off i fun st hst e => q ⟨st, hst, e⟩] at hlt
      have := cap_tight k sl (most := most) (u := (n.rd i).a) (v := (n.rd i).b) (b := 1) ⟨hi, .inl ⟨rfl, rfl, rfl, hlt⟩⟩
      rw [shifted_miss ok hi]
      omega
  · by_cases q : ∃ st ∈ P, st.i = i
    · obtain ⟨st, hst, rfl⟩ := q
      rw [miss0 st hst]; omega
    · rw [off i fun st hst e => q ⟨st, hst, e⟩] at hlt
      have := cap_tight k sl (most := most) (u := (n.rd i).b) (v := (n.rd i).a) (b := -1) ⟨hi, .inr ⟨rfl, rfl, rfl, hlt⟩⟩
      rw [shifted_miss ok hi]
      omega
  · have hms : mk ≠ s := fun e => by rw [e] at h3; omega
    have he : ∀ w, ex n (fn fl) n.rs.length w = ex n f n.rs.length w + many * (one w mk - one w s) := fun w => by rw [l.e w, p.at_]
    unfold posEx
    have hpt := sumN_pt (F := fun v => (ex n (fn fl) n.rs.length v).toNat) (G := fun v => (ex n f n.rs.length v).toNat) (v := s) (fun w hw => by
      show (ex n (fn fl) n.rs.length w).toNat = (ex n f n.rs.length w).toNat
      rw [he w, one_ne hw]
      by_cases q : w = mk
      · subst q
        rw [one_self]
        omega
      · rw [one_ne q]
        simp) (N := n.names.length) hs
    have hes : ex n (fn fl) n.rs.length s = ex n f n.rs.length s - many := by
      rw [he s, one_self, one_ne (fun e => hms e.symm)]
      omega
    rw [hes] at hpt
    omega
theorem exS_sat {n : Net} {f : Nat → Int} {S : Nat → Bool} : ∀ {k : Nat}, (∀ i, i < k → S (n.rd i).a = true → S (n.rd i).b = false → f i = 1) → (∀ i, i < k → S (n.rd i).a = false → S (n.rd i).b = true → f i = -1) → exS n f S k ≤ 0
  | 0, _, _ => by rw [exS]; omega
  | k + 1, h, h' => by
    have ih := exS_sat (n := n) (S := S) (k := k) (fun i hi => h i (by omega)) (fun i hi => h' i (by omega))
    have b1 := h k (by omega)
    have b2 := h' k (by omega)
    rw [exS]
    cases ha : S (n.rd k).a <;> cases hb : S (n.rd k).b
    · simp; omega
    · rw [b2 ha hb]; simp; omega
    · rw [b1 ha hb]; simp; omega
    · simp; omega
theorem sumS_ge {g : Nat → Int} {S : Nat → Bool} : ∀ {N : Nat}, (∀ v, v < N → S v = true → 0 ≤ g v) → 0 ≤ sumS g S N ∧ ∀ v, v < N → S v = true → g v ≤ sumS g S N
  | 0, _ => ⟨by rw [sumS]; omega, fun v hv => absurd hv (by omega)⟩
  | N + 1, h => by
    have ih := sumS_ge (N := N) fun v hv => h v (by omega)
    have hN := h N (by omega)
    rw [sumS]
    by_cases q : S N = true
    · rw [if_pos q]
      have := hN q
      refine ⟨by omega, fun v hv hS => ?_⟩
      by_cases e : v = N
      · subst e; omega
      · have := ih.2 v (by omega) hS; omega
    · rw [if_neg q]
      refine ⟨by omega, fun v hv hS => ?_⟩
      by_cases e : v = N
      · subst e; exact absurd hS q
      · have := ih.2 v (by omega) hS; omega
theorem deficit {n : Net} (ok : n.ok) {h : List Int} {f : Nat → Int} {s : Nat} {g : Row} {last : List (Option Stp)} (k : ShortOk n h f s g last) (hfb : ∀ i, i < n.rs.length → -1 ≤ f i ∧ f i ≤ 1) (hs : s < n.names.length) (hp : 0 < ex n f n.rs.length s) :
    ∃ v, v < n.names.length ∧ ex n f n.rs.length v < 0 ∧ ∃ x, g.getD v none = some x := by
  refine Classical.byContradiction fun hno => ?_
  have hS : ∀ v, (g.getD v none).isSome = false → g.getD v none = none := fun v e => by
    cases q : g.getD v none with
    | none => rfl
    | some x => rw [q] at e; cases e
  have h1 : exS n f (fun v => (g.getD v none).isSome) n.rs.length ≤ 0 := exS_sat (fun i hi ha hb => by
    refine Classical.byContradiction fun hf => ?_
    obtain ⟨x, hx⟩ := Option.isSome_iff_exists.mp ha
    have b := hfb i hi
    obtain ⟨y, hy, _⟩ := k.tight (n.rd i).a i 1 (n.rd i).b x ⟨hi, .inl ⟨rfl, rfl, rfl, by omega⟩⟩ hx
    rw [hy] at hb; cases hb) (fun i hi ha hb => by
    refine Classical.byContradiction fun hf => ?_
    obtain ⟨x, hx⟩ := Option.isSome_iff_exists.mp hb
    have b := hfb i hi
    obtain ⟨y, hy, _⟩ := k.tight (n.rd i).b i (-1) (n.rd i).a x ⟨hi, .inr ⟨rfl, rfl, rfl, by omega⟩⟩ hx
    rw [hy] at ha; cases ha)
  rw [exS_sum ok (Nat.le_refl _)] at h1
  have h2 := sumS_ge (g := ex n f n.rs.length) (S := fun v => (g.getD v none).isSome) (N := n.names.length) fun v hv hSv => by
    refine Classical.byContradiction fun hneg => hno ⟨v, hv, by omega, Option.isSome_iff_exists.mp hSv⟩
  have := h2.2 s hs (by show (g.getD s none).isSome = true; rw [k.z]; rfl)
  omega
theorem exS_true {n : Net} {f : Nat → Int} : ∀ {k : Nat}, exS n f (fun _ => true) k = 0
  | 0 => rfl
  | k + 1 => by rw [exS, exS_true (k := k)]; simp; omega
theorem sumS_le0 {g : Nat → Int} : ∀ {N : Nat}, (∀ v, v < N → g v ≤ 0) → sumS g (fun _ => true) N ≤ 0 ∧ ∀ v, v < N → sumS g (fun _ => true) N ≤ g v
  | 0, _ => ⟨by rw [sumS]; omega, fun v hv => absurd hv (by omega)⟩
  | N + 1, h => by
    have ih := sumS_le0 (N := N) fun v hv => h v (by omega)
    have hN := h N (by omega)
    rw [sumS, if_pos rfl]
    refine ⟨by omega, fun v hv => ?_⟩
    by_cases e : v = N
    · subst e; omega
    · have := ih.2 v (by omega); omega
theorem even_end {n : Net} (ok : n.ok) {f : Nat → Int} (h : ∀ v, v < n.names.length → ex n f n.rs.length v ≤ 0) : evenF n f := fun v hv => by
  have h1 := exS_sum ok (f := f) (S := fun _ => true) (Nat.le_refl _)
  rw [exS_true] at h1
  have h2 := (sumS_le0 (g := ex n f n.rs.length) (N := n.names.length) h).2 v hv
  have := h v hv
  omega
def shiftK (n : Net) (h : List Int) (g : Row) (most : Int) (k : Nat) : List Int := (List.range n.names.length).map fun v => if v < k then h.getD v 0 - capN g most v else h.getD v 0
theorem shiftK_len {n : Net} {h : List Int} {g : Row} {most : Int} {k : Nat} : (shiftK n h g most k).length = n.names.length := by unfold shiftK; simp
theorem shiftK_get {n : Net} {h : List Int} {g : Row} {most : Int} {k : Nat} (hk : k < n.names.length) : (shiftK n h g most k).getD k 0 = h.getD k 0 := by
  unfold shiftK
  rw [List.getD_eq_getElem?_getD, List.getElem?_map, List.getElem?_range hk]
  simp
theorem shiftK_zero {n : Net} {h : List Int} {g : Row} {most : Int} (hl : h.length = n.names.length) : shiftK n h g most 0 = h := by
  unfold shiftK
  refine List.ext_getElem? fun v => ?_
  rw [List.getElem?_map]
  by_cases q : v < n.names.length
  · rw [List.getElem?_range q]
    simp [hl, q]
  · rw [List.getElem?_eq_none (by simp; omega), List.getElem?_eq_none (by omega)]; rfl
theorem shiftK_all {n : Net} {h : List Int} {g : Row} {most : Int} : shiftK n h g most n.names.length = shifted n h g most := by
  unfold shiftK shifted
  refine List.map_congr_left fun v hv => ?_
  rw [if_pos (List.mem_range.mp hv)]
theorem shiftK_step {n : Net} {h : List Int} {g : Row} {most : Int} {k : Nat} (hk : k < n.names.length) : (shiftK n h g most k).set k (h.getD k 0 - capN g most k) = shiftK n h g most (k + 1) := by
  refine List.ext_getElem? fun v => ?_
  by_cases q : v < n.names.length
  · by_cases e : k = v
    · subst e
      rw [List.getElem?_set_self (by rw [shiftK_len]; exact hk)]
      unfold shiftK
      rw [List.getElem?_map, List.getElem?_range hk]
      simp
    · rw [List.getElem?_set_ne e]
      unfold shiftK
      rw [List.getElem?_map, List.getElem?_map, List.getElem?_range q]
      show some (if v < k then h.getD v 0 - capN g most v else h.getD v 0) = some (if v < k + 1 then h.getD v 0 - capN g most v else h.getD v 0)
      by_cases z : v < k
      · rw [if_pos z, if_pos (by omega)]
      · rw [if_neg z, if_neg (by omega)]
  · rw [List.getElem?_eq_none (by rw [List.length_set, shiftK_len]; omega), List.getElem?_eq_none (by rw [shiftK_len]; omega)]
theorem wp_t {c : Cn} {F : Fp} {M : Mem} {δ : List (Option RV)} {tt : TT} {B : Bool} {Φ : Bool → Fp → Mem → Prop} (h : Wp c tt F δ M B) (k : Φ B F M) : Wt c tt F δ M Φ := fun σ H Q e s q => h σ H Q e s fun b F1 M1 H1 ⟨e1, e2, e3⟩ => by
  subst e1; subst e2; subst e3
  exact q _ _ _ H1 k
theorem nodup_lt_len : ∀ (m : Nat) (l : List Nat), l.Nodup → (∀ x ∈ l, x < m) → l.length ≤ m
  | 0, l, _, h => by
    cases l with
    | nil => exact Nat.le_refl _
    | cons x l => exact absurd (h x List.mem_cons_self) (by omega)
  | m + 1, l, nd, h => by
    by_cases q : m ∈ l
    · have ih := nodup_lt_len m (l.erase m) (nd.erase m) fun x hx => by
        have h1 := (nd.mem_erase_iff).mp hx
        have := h x h1.2
        have := h1.1
        omega
      rw [List.length_erase_of_mem q] at ih
      omega
    · have := nodup_lt_len m l nd fun x hx => by
        have h1 := h x hx
        have : x ≠ m := fun e => q (e ▸ hx)
        omega
      omega
theorem PathOk.len {n : Net} {h : List Int} {f : Nat → Int} {g : Row} {most : Int} {r : Nat → Nat} {mk v : Nat} {P : List Stp} (p : PathOk n h f g most r mk v P) : P.length ≤ n.rs.length := by
  have := nodup_lt_len n.rs.length (P.map (·.i)) p.nd fun x hx => by
    obtain ⟨st, hst, rfl⟩ := List.mem_map.mp hx
    exact (p.res st hst).1
  rwa [List.length_map] at this
end TL

set_option autoImplicit true
set_option maxHeartbeats 200000
set_option maxRecDepth 512
set_option Elab.async false
set_option linter.all false
set_option autoImplicit false
set_option maxRecDepth 100000
set_option maxHeartbeats 1000000
/-! the law's box: a list of a list of digits and a place -/
namespace TL
open PySem PySem.Spec PyProof.Rows L2
def FB (bx dg : Addr) (ds : List Int) : Fp := fun H => ∃ at_ : Int, 0 ≤ at_ ∧ H bx = some (.lst [.ref dg, .int at_]) ∧ H dg = some (.lst (ds.map V.int))
structure Bx (c : Cn) (bx dg : Addr) (ds : List Int) : Prop where
  b : c.B bx
  on : ∀ y, c.B y → y = bx
  ne : dg ≠ bx
  dg : c.H0 dg = some (.lst (ds.map V.int))
/-- a value apart from the box -/
def AvB (K : PySem.W.Frag) (H : Hp) (bx : Addr) (x : AV) (v : V) : Prop := AvOk K H x v ∧ ∀ es, x = .ls es → v ≠ .ref bx
def spB (K : PySem.W.Frag) (pre : List AV → (BV → Prop) → Prop) : Sp := fun vs H Q _ => ∃ bx rest dg ds as post, vs = .ref bx :: rest ∧ dg ≠ bx ∧ FB bx dg ds H ∧ Paired (AvB K H bx) as rest ∧ pre as post ∧
  (∀ x v H', post (.im x) → (∀ b o, H b = some o → b ≠ bx → H' b = some o) → FB bx dg ds H' → Rp K H' v x → Q v H') ∧
  (∀ es a vs' H', post (.ls es) → (∀ b o, H b = some o → b ≠ bx → H' b = some o) → FB bx dg ds H' → H a = none → H' a = some (.lst vs') → RpL K H' vs' es → Q (.ref a) H')
section
variable {c : Cn} {F : Fp} {M M' : Mem} {δ : List (Option RV)} {Ψ : PR} {N : PN} {bx dg : Addr} {ds : List Int} {H H1 : Hp} {K : PySem.W.Frag} {to ti te : TE} {ta : TA} {E : XK} {i : Nat}
theorem HE.fb (e : HE c (FB bx dg ds) M H) : FB bx dg ds H := e.fr H fun _ _ => rfl
theorem lkD (b : Bx c bx dg ds) : Lk c F M dg (ds.map Dt.int) := fun H e => ⟨_, .inl (.inl (e.st _ _ b.dg fun q => b.ne (b.on _ q))), mk_ints⟩
theorem rr_bx1 (k : ∀ p : Int, 0 ≤ p → Ψ (.im (.int p)) (FB bx dg ds) M) : Rr c (rIx c.K) (.ad (.ref bx)) (.im (.int 1)) (FB bx dg ds) M Ψ := fun H Q v u e p q f => by
  obtain ⟨z, h0, h1, h2⟩ := e.fb
  have p' : v = .ref bx := p
  subst p'
  obtain rfl := rp_int q
  exact .inl ⟨bx, _, 1, .int z, rfl, rfl, .inl (.inl h1), rfl, f _ _ M _ H (k z h0) e Stay.refl mk_int⟩
theorem rr_bx0 (k : Ψ (.ad (.ref dg)) (FB bx dg ds) M) : Rr c (rIx c.K) (.ad (.ref bx)) (.im (.int 0)) (FB bx dg ds) M Ψ := fun H Q v u e p q f => by
  obtain ⟨z, h0, h1, h2⟩ := e.fb
  have p' : v = .ref bx := p
  subst p'
  obtain rfl := rp_int q
  exact .inl ⟨bx, _, 0, .ref dg, rfl, rfl, .inl (.inl h1), rfl, f _ _ M _ H k e Stay.refl rfl⟩
theorem HE.fb_write {xs ys : List V} (b : Bx c bx dg ds) (e : HE c (FB bx dg ds) M H) {z : Int} (h0 : 0 ≤ z) : HE c (FB bx dg ds) M (upd H bx (.lst [.ref dg, .int z])) := by
  obtain ⟨z0, _, h1, h2⟩ := e.fb
  have n0 := e.n0 b.b
  refine e.writeB b.b h1 fun H' k => ⟨z, h0, by rw [k _ n0, upd_same], ?_⟩
  rw [k dg (by rw [b.dg]; simp), upd_ne b.ne]; exact h2
theorem wg_bx {p : Int} (b : Bx c bx dg ds) (hi : δ[i]? = some (some (.ad (.ref bx)))) (hp : 0 ≤ p) (k : N (FB bx dg ds) δ M) : Wg c (gSub (tVar i) (tC (.int 1)) rSetL) (.im (.int p)) (FB bx dg ds) δ M N := fun v σ H Q e s v1 q => by
  obtain ⟨z, h0, h1, h2⟩ := e.fb
  obtain ⟨w, a, b'⟩ := s.2 i _ hi
  have b'' : w = .ref bx := b'
  subst b''
  obtain rfl := rp_int v1
  have t : Tp c.K H (upd H bx (.lst [.ref dg, .int p])) := tp_lst h1
  exact ⟨_, a, bx, _, 1, 1, rfl, rfl, h1, rfl, q _ δ M σ _ k (e.fb_write (xs := []) (ys := []) b hp) (s.tp t) t⟩
theorem ViewB.oks (b : Bx c bx dg ds) (e : HE c F M H) : ∀ {rs : List RV} {as : List AV} {vs : List V}, Paired (ViewW F M) rs as → Paired (VOk c.K H) rs vs → Paired (AvB c.K H bx) as vs
  | _, _, _, .nil, .nil => .nil
  | _, _, _, .cons w ws, .cons h hs => .cons (by
      cases w with
      | im x => exact ⟨h, fun ds z => by cases z⟩
      | ls hm =>
        obtain ⟨n0, us, hu, ru⟩ := e.mm _ hm
        have h' := h
        exact ⟨⟨_, us, h', .inl (.inl hu), ru⟩, fun ds z q => by
          rw [h'] at q; cases q; exact e.n0 b.b n0⟩) (ViewB.oks b e ws hs)
/-- after what keeps all but the box -/
theorem HE.boxed (b : Bx c bx dg ds) (e : HE c (FB bx dg ds) M H) (hs : ∀ a o, H a = some o → a ≠ bx → H1 a = some o) (hf : FB bx dg ds H1) : HE c (FB bx dg ds) M H1 ∧ Stay c H H1 := by
  have s2 : Stay c H H1 := fun a o z nb => hs a o z (fun q => nb (q ▸ b.b))
  have t := e.tp s2
  obtain ⟨z, h0, h1, h2⟩ := hf
  refine ⟨⟨fun a o z nb => s2 a o (e.st a o z nb) nb, fun a ha => ⟨(e.bm a ha).1, ?_⟩, fun H'' k => ⟨z, h0, by rw [k _ (e.n0 b.b), h1], by rw [k dg (by rw [b.dg]; simp), h2]⟩, fun q hq => ?_, e.nd, e.rd⟩, s2⟩
  · rw [b.on a ha, h1]; exact trivial
  · obtain ⟨n0, us, hu, ru⟩ := e.mm q hq
    exact ⟨n0, us, s2 _ _ hu (fun b => e.n0 b n0), RpL.tp t _ _ ru⟩
theorem we_callB {pre : List AV → (BV → Prop) → Prop} (b : Bx c bx dg ds) (h : Wa c ta F δ M fun rs F1 M1 => ∃ rs' as, rs = .ad (.ref bx) :: rs' ∧ F1 = FB bx dg ds ∧ Paired (ViewW F1 M1) rs' as ∧ pre as (PrB Ψ F1 M1)) : We c (tCall (spB c.K pre) [] E ta) F δ M Ψ := fun σ H Q e s q =>
  h σ H _ e s fun rs F1 M1 vs H1 p e1 s1 v1 => by
    obtain ⟨rs', as, rfl, rfl, hv, hp⟩ := p
    cases v1 with
    | cons v0 v1 =>
      have v0' := v0
      obtain ⟨z, h0, h1, h2⟩ := e1.fb
      refine ⟨bx, _, dg, ds, as, _, by rw [List.append_nil, show _ = V.ref bx from v0'], b.ne, e1.fb, ViewB.oks b e1 hv v1, hp, fun x v H' hx hs hf hr => ?_, fun es a vs' H' hx hs hf ha hl hr => ?_⟩
      · obtain ⟨e2, s2⟩ := e1.boxed b hs hf
        exact q _ _ M1 v H' hx e2 (s1.trans s2) hr
      · obtain ⟨e2, s2⟩ := e1.boxed b hs hf
        refine q _ _ _ _ H' (hx a) (e2.adopt (fun q hq z => ?_) (e1.free ha) hl hr) (s1.trans s2) rfl
        obtain ⟨_, us, hu, _⟩ := e1.mm q hq
        rw [z, ha] at hu; cases hu
abbrev cB (K : PySem.W.Frag) (H : Hp) (bx : Addr) (R : Mem) : Cn := ⟨K, H, fun y => y = bx, R⟩
theorem bx_start {R : Mem} (hne : dg ≠ bx) (hf : FB bx dg ds H) : Bx (cB K H bx R) bx dg ds := by
  obtain ⟨z, h0, h1, h2⟩ := hf
  exact ⟨rfl, fun y h => h, hne, h2⟩
theorem heB_start {R : Mem} (hf : FB bx dg ds H) (hR : ∀ p ∈ R, p.1 ≠ bx ∧ ∃ us, SqL K H p.1 us ∧ RpL K H us p.2) : HE (cB K H bx R) (FB bx dg ds) [] H := by
  obtain ⟨z, h0, h1, h2⟩ := hf
  refine ⟨fun a o e _ => e, fun a ha => ?_, fun H' k => ⟨z, h0, by rw [k bx (by show H bx ≠ none; rw [h1]; simp)]; exact h1, by rw [k dg (by show H dg ≠ none; rw [h2]; simp)]; exact h2⟩, fun p hp => (nomatch hp), List.nodup_nil, fun p hp => ⟨fun b => (hR p hp).1 b, (hR p hp).2⟩⟩
  have ha' : a = bx := ha
  rw [ha']
  exact ⟨by show Mut (H bx); rw [h1]; exact trivial, by rw [h1]; exact trivial⟩
theorem entB_ex : ∀ {as : List AV} {vs : List V}, Paired (AvB K H bx) as vs → ∃ g, Paired (VOk K H) (entR as g) vs ∧ ∀ p ∈ entM as g, p.1 ≠ bx ∧ ∃ us, SqL K H p.1 us ∧ RpL K H us p.2
  | _, _, .nil => ⟨fun _ => 0, .nil, fun p hp => (nomatch hp)⟩
  | .im x :: as, _, .cons w ws => by
    obtain ⟨g, h1, h2⟩ := entB_ex ws
    exact ⟨fun i => g (i - 1), .cons w.1 h1, h2⟩
  | .ob x :: as, _, .cons w ws => by
    obtain ⟨g, h1, h2⟩ := entB_ex ws
    exact ⟨fun i => g (i - 1), .cons w.1 h1, h2⟩
  | .ls ds :: as, _, .cons w ws => by
    obtain ⟨g, h1, h2⟩ := entB_ex ws
    obtain ⟨b, us, rfl, q1, q2⟩ := w.1
    have q3 := w.2 ds rfl
    refine ⟨fun i => match i with | 0 => b | i + 1 => g i, .cons rfl h1, fun p hp => ?_⟩
    rcases List.mem_cons.mp hp with rfl | hp
    · exact ⟨fun z => q3 (by rw [show b = bx from z]), us, q1, q2⟩
    · exact h2 p hp
theorem spB_start {pre : List AV → (BV → Prop) → Prop} {vs : List V} {Q : VK} {t : TS} {N : List Str} (hs : spB K pre vs H Q E)
    (k : ∀ bx dg ds as post g, Bx (cB K H bx (entM as g)) bx dg ds → pre as post → Ws (cB K H bx (entM as g)) t (FB bx dg ds) (δS N bx as g) [] (fun _ _ _ => False) (fun r F' M' => F' = FB bx dg ds ∧ Rt post r F' M')) :
    t { nx := fun _ H' => Q .non H', rt := Q } (L2.start N vs) H := by
  obtain ⟨bx, rest, dg, ds, as, post, rfl, hne, hf, ha, hp, q1, q2⟩ := hs
  obtain ⟨g, h1, h2⟩ := entB_ex ha
  have e0 := heB_start (R := entM as g) hf h2
  have hv : Paired (VOk K H) (RV.ad (.ref bx) :: entR as g) (V.ref bx :: rest) := .cons rfl h1
  refine k bx dg ds as post g (bx_start hne hf) hp (L2.start N _) H _ e0 (slots_start hv) (fun F' δ' M' σ' H' z _ _ _ => z.elim) (fun r F' M' v H' hr e hv => ?_)
  obtain ⟨rfl, hr⟩ := hr
  have keep : ∀ b o, H b = some o → b ≠ bx → H' b = some o := fun b o z nb => e.st b o z nb
  rcases hr with ⟨x, rfl, hr⟩ | ⟨a, es, rfl, hm, hr⟩
  · exact q1 x v H' hr keep e.fb hv
  · obtain ⟨n0, us, hu, ru⟩ := e.mm _ hm
    have hv' : v = .ref a := hv
    subst hv'
    exact q2 es a us H' hr keep e.fb n0 hu ru
end
theorem hasB_of {P : Program} {w : World} {K : PySem.W.Frag} {mg : Str → Option Value} {base : Heap} {k : Nat} {x qual : Str} {params : Arguments} {body : List Stmt} {scope : Scope} {f : Addr} {fd : FuncData} {N ps : List Str} {pre : List AV → (BV → Prop) → Prop}
    (F : FunD K x qual params body scope [] [] f fd) (hm : mg x = some (.ref f)) (S : FnScope N ps scope) (hb : Binds K fd ps []) (len : ∀ as post, pre as post → as.length + 1 = ps.length)
    (hbody : ∀ (cdv : Value) (A : Around) (outer : List Env) (s : Shared) (H : Hp) (E : XK), Room k (A.deeper (envOfC qual scope s.heap.objs.size f cdv)) →
      ∃ t, PSs (cxOf CX0 P w K mg base N qual scope f cdv A outer s H E).nox body t ∧ ∀ bx dg ds as post g, Bx (cB K H bx (entM as g)) bx dg ds → pre as post → Ws (cB K H bx (entM as g)) t (FB bx dg ds) (δS N bx as g) [] (fun _ _ _ => False) (fun r F' M' => F' = FB bx dg ds ∧ Rt post r F' M')) : Has P w K mg base (k + 1) x ps (spB K pre) := by
  refine ⟨f, fd, F.ok S (fun vs H Q E ⟨bx, rest, dg, ds, as, post, e, _, _, ha, hp, _⟩ => by rw [e, List.length_cons, ← len as post hp, paired_len ha]) (fun cdv A outer s H vs Q E hr h => ?_), hm, F.kp, hb⟩
  obtain ⟨t, ht, hw⟩ := hbody cdv A outer s H E hr
  exact ⟨t, ht.nox, spB_start h hw⟩
end TL

set_option autoImplicit true
set_option maxHeartbeats 200000
set_option maxRecDepth 512
set_option Elab.async false
set_option linter.all false
set_option autoImplicit false
set_option maxRecDepth 100000
set_option maxHeartbeats 1000000
/-! the law's own data -/
namespace TL
open PySem PySem.Spec PyProof.Rows L2
theorem range_getD {α β : Type} (l : List α) (d : α) (f : α → β) : (List.range l.length).map (fun j => f (l.getD j d)) = l.map f := by
  refine List.ext_getElem? fun j => ?_
  rw [List.getElem?_map, List.getElem?_map]
  by_cases hj : j < l.length
  · rw [List.getElem?_range hj, List.getElem?_eq_getElem hj]
    show some (f (l.getD j d)) = some (f l[j])
    rw [List.getD_eq_getElem?_getD, List.getElem?_eq_getElem hj]; rfl
  · rw [List.getElem?_eq_none (by rw [List.length_range]; omega), List.getElem?_eq_none (by omega)]; rfl
def nameS (k : Nat) : Str := ("m" : Str) ++ ⟨#[97 + k]⟩
def namesN (n : Nat) : List Str := (List.range n).map nameS
theorem namesN_len {n : Nat} : (namesN n).length = n := by unfold namesN; simp
theorem nameS_ok : ∀ k : Nat, k < 16 → PyData.strOk (nameS k) = true := by decide +kernel
theorem alpha_at : ∀ k : Nat, k < 16 → atI ("abcdefghijklmnop" : Str).cps.toList (k : Int) = some (97 + k) := by decide +kernel
theorem namesN_ok {n : Nat} (h : n ≤ 16) : Dt.oks ((namesN n).map Dt.str) := fun x hx => by
  obtain ⟨s, hs, rfl⟩ := List.mem_map.mp hx
  obtain ⟨k, hk, rfl⟩ := List.mem_map.mp hs
  exact ok_str (nameS_ok k (by have := List.mem_range.mp hk; omega))
@[reducible] def prD (p : Nat × Nat) : Dt := .tup [.int p.1, .int p.2]
def keptNet (ps : List (Nat × Nat)) (h : List Int) : Net := ⟨namesN h.length, ps.map fun p => ⟨p.1, p.2, h.getD p.2 0 - h.getD p.1 0⟩⟩
structure PsOk (N : Nat) (ps : List (Nat × Nat)) : Prop where
  len : ps.length ≤ 50
  a : ∀ p ∈ ps, p.1 < N
  b : ∀ p ∈ ps, p.2 < N
  ne : ∀ p ∈ ps, p.1 ≠ p.2
theorem kept_ok {ps : List (Nat × Nat)} {h : List Int} (hp : PsOk h.length ps) (h1 : 1 ≤ h.length) (h2 : h.length ≤ 100) : (keptNet ps h).ok := by
  have e : (keptNet ps h).names.length = h.length := namesN_len
  refine ⟨by rw [e]; exact h1, by rw [e]; exact h2, by show (ps.map _).length ≤ _; rw [List.length_map]; have := hp.len; omega, fun r hr => ?_, fun r hr => ?_, fun r hr => ?_⟩ <;>
    (obtain ⟨p, hp', rfl⟩ := List.mem_map.mp hr)
  · rw [e]; exact hp.a p hp'
  · rw [e]; exact hp.b p hp'
  · exact hp.ne p hp'
structure Chg (n n' : Net) (is : List Nat) : Prop where
  nm : n'.names = n.names
  ln : n'.rs.length = n.rs.length
  ea : ∀ i, (n'.rd i).a = (n.rd i).a
  eb : ∀ i, (n'.rd i).b = (n.rd i).b
  ev : ∀ i, i ∉ is → (n'.rd i).v = (n.rd i).v
theorem Net.rd_mem {n : Net} {r : Rd} (h : r ∈ n.rs) : ∃ i, i < n.rs.length ∧ n.rd i = r := by
  obtain ⟨i, hi⟩ := List.getElem?_of_mem h
  have hl := (List.getElem?_eq_some_iff.mp hi).1
  refine ⟨i, hl, ?_⟩
  rw [Net.get hl] at hi; cases hi; rfl
theorem Chg.ok {n n' : Net} {is : List Nat} (c : Chg n n' is) (ok : n.ok) : n'.ok := by
  refine ⟨by rw [c.nm]; exact ok.n1, by rw [c.nm]; exact ok.n2, by rw [c.ln]; exact ok.m2, fun r hr => ?_, fun r hr => ?_, fun r hr => ?_⟩ <;>
    obtain ⟨i, hi, rfl⟩ := Net.rd_mem hr <;> rw [c.ln] at hi
  · rw [c.ea, c.nm]; exact ok.ai hi
  · rw [c.eb, c.nm]; exact ok.bi hi
  · rw [c.ea, c.eb]; exact ok.nei hi
/-- one reading after another is changed -/
def chgL (l : List Rd) : List (Nat × Int) → List Rd
  | [] => l
  | (i, x) :: r => chgL (l.set i ⟨(l.getD i ⟨0, 0, 0⟩).a, (l.getD i ⟨0, 0, 0⟩).b, (l.getD i ⟨0, 0, 0⟩).v + x⟩) r
theorem Net.rd_set {l : List Rd} {i j : Nat} {r : Rd} (hi : i < l.length) : (l.set i r).getD j ⟨0, 0, 0⟩ = if i = j then r else l.getD j ⟨0, 0, 0⟩ := by
  rw [List.getD_eq_getElem?_getD, List.getD_eq_getElem?_getD]
  by_cases h : i = j
  · subst h; rw [List.getElem?_set_self hi, if_pos rfl]; rfl
  · rw [List.getElem?_set_ne h, if_neg h]
def chgStep (l : List Rd) (p : Nat × Int) : List Rd := l.set p.1 ⟨(l.getD p.1 ⟨0, 0, 0⟩).a, (l.getD p.1 ⟨0, 0, 0⟩).b, (l.getD p.1 ⟨0, 0, 0⟩).v + p.2⟩
structure ChgL (l l' : List Rd) (is : List Nat) : Prop where
  ln : l'.length = l.length
  ea : ∀ i, (l'.getD i ⟨0, 0, 0⟩).a = (l.getD i ⟨0, 0, 0⟩).a
  eb : ∀ i, (l'.getD i ⟨0, 0, 0⟩).b = (l.getD i ⟨0, 0, 0⟩).b
  ev : ∀ i, i ∉ is → (l'.getD i ⟨0, 0, 0⟩).v = (l.getD i ⟨0, 0, 0⟩).v
theorem ChgL.refl {l : List Rd} : ChgL l l [] := ⟨rfl, fun _ => rfl, fun _ => rfl, fun _ _ => rfl⟩
theorem ChgL.step {l l' : List Rd} {is : List Nat} (c : ChgL l l' is) {p : Nat × Int} (hp : p.1 < l.length) : ChgL l (chgStep l' p) (is ++ [p.1]) := by
  have hp' : p.1 < l'.length := by rw [c.ln]; exact hp
  unfold chgStep
  refine ⟨by rw [List.length_set]; exact c.ln, fun i => ?_, fun i => ?_, fun i hi => ?_⟩ <;> rw [Net.rd_set hp']
  · split
    · rename_i e; subst e; exact c.ea _
    · exact c.ea i
  · split
    · rename_i e; subst e; exact c.eb _
    · exact c.eb i
  · rw [if_neg (fun e => hi (by rw [← e]; simp))]
    exact c.ev i fun h => hi (List.mem_append_left _ h)
/-- all sides without 0 of marks below m + 1 -/
def sdN : Nat → List (List Nat)
  | 0 => [[]]
  | m + 1 => sdN m ++ (sdN m).map (· ++ [m + 1])
theorem sdN_len : ∀ m : Nat, (sdN m).length = 2 ^ m
  | 0 => rfl
  | m + 1 => by rw [sdN, List.length_append, List.length_map, sdN_len m, Nat.pow_succ]; omega
theorem mem_sd {l : List Nat} : ∀ {m : Nat}, l ∈ sdN m ↔ ∃ p : Nat → Bool, p 0 = false ∧ l = ixs (m + 1) p
  | 0 => by
    rw [sdN, List.mem_singleton]
    constructor
    · rintro rfl
      exact ⟨fun _ => false, rfl, by decide⟩
    · rintro ⟨p, h0, rfl⟩
      rw [ixs_no h0]; rfl
  | m + 1 => by
    rw [sdN, List.mem_append, List.mem_map]
    constructor
    · rintro (h | ⟨l', h, rfl⟩)
      · obtain ⟨p, h0, rfl⟩ := mem_sd.mp h
        refine ⟨fun i => p i && decide (i ≠ m + 1), by simp [h0], ?_⟩
        rw [ixs_no (n := m + 1) (by simp)]
        exact ixs_congr fun i hi => by simp; omega
      · obtain ⟨p, h0, rfl⟩ := mem_sd.mp h
        refine ⟨fun i => p i || decide (i = m + 1), by simp [h0], ?_⟩
        rw [ixs_yes (n := m + 1) (by simp)]
        congr 1
        exact ixs_congr fun i hi => by simp; omega
    · rintro ⟨p, h0, rfl⟩
      cases h : p (m + 1) with
      | false => exact .inl (mem_sd.mpr ⟨p, h0, ixs_no h⟩)
      | true => exact .inr ⟨_, mem_sd.mpr ⟨p, h0, rfl⟩, (ixs_yes h).symm⟩
/-- the sides that are not empty -/
def sdL (m : Nat) : List (List Nat) := (sdN m).filter (fun l => decide (l ≠ []))
theorem mem_sdL {l : List Nat} {m : Nat} : l ∈ sdL m ↔ ∃ p : Nat → Bool, p 0 = false ∧ (∃ v, v < m + 1 ∧ p v = true) ∧ l = ixs (m + 1) p := by
  unfold sdL
  rw [List.mem_filter, mem_sd]
  constructor
  · rintro ⟨⟨p, h0, rfl⟩, h⟩
    have hne := of_decide_eq_true h
    obtain ⟨v, hv⟩ := List.exists_mem_of_ne_nil _ hne
    exact ⟨p, h0, ⟨v, mem_ixs.mp hv⟩, rfl⟩
  · rintro ⟨p, h0, ⟨v, hv⟩, rfl⟩
    exact ⟨⟨p, h0, rfl⟩, decide_eq_true fun e => by
      have : v ∈ ixs (m + 1) p := mem_ixs.mpr hv
      rw [e] at this; cases this⟩
theorem app_ownI {c : Cn} {M : Mem} {N : Fp → Mem → Prop} {a : Addr} {ds : List Int} {k : Nat} {F : Fp} {d : Int} (hk : M[k]? = some (a, ds.map Dt.int)) (hl : ds.length < 100000) (hn : N F (M.set k (a, (ds ++ [d]).map Dt.int))) :
    ∃ ds' d' F3 M3, RV.im (.int d) = .im d' ∧ Wr c a F M ds' (ds' ++ [d']) F3 M3 ∧ ds'.length < 100000 ∧ N F3 M3 :=
  app_own hk (by rw [List.length_map]; exact hl) (by rw [List.map_append] at hn; exact hn)
theorem natD_oks {l : List Nat} : Dt.oks (natD l) := by rw [natD_ints]; exact oks_ints
theorem ok_natT {l : List Nat} : (Dt.tup (natD l)).ok := ok_tup natD_oks fun x hx => by
  obtain ⟨v, _, rfl⟩ := List.mem_map.mp hx
  rw [dep_int]; omega
theorem ok_intT {l : List Int} : (Dt.tup (l.map Dt.int)).ok := ok_tup oks_ints fun x hx => by
  obtain ⟨v, _, rfl⟩ := List.mem_map.mp hx
  rw [dep_int]; omega
theorem natD_inj {l l' : List Nat} (h : natD l = natD l') : l = l' := by
  unfold natD at h
  refine (List.map_inj_right fun x y e => ?_).mp h
  have : (x : Int) = y := by injection e
  omega
theorem intD_inj {l l' : List Int} (h : l.map Dt.int = l'.map Dt.int) : l = l' :=
  (List.map_inj_right fun x y e => by injection e).mp h
end TL

set_option autoImplicit true
set_option maxHeartbeats 200000
set_option maxRecDepth 512
set_option Elab.async false
set_option linter.all false
set_option autoImplicit false
set_option maxRecDepth 100000
set_option maxHeartbeats 1000000
/-! the twins fit -/
namespace TL
open PySem PySem.Spec PyProof.Rows L2
theorem filter_sub {l r : List Nat} (s : l.Sublist r) : r.Nodup → r.filter (fun i => decide (i ∈ l)) = l := by
  induction s with
  | slnil => intro _; rfl
  | cons a s ih =>
    rename_i l1 l2
    intro h
    have h' := List.nodup_cons.mp h
    rw [List.filter_cons, if_neg (by simp; exact fun q => h'.1 (s.subset q))]
    exact ih h'.2
  | cons_cons a s ih =>
    rename_i l1 l2
    intro h
    have h' := List.nodup_cons.mp h
    rw [List.filter_cons, if_pos (by simp)]
    congr 1
    rw [← ih h'.2]
    refine List.filter_congr fun x hx => ?_
    have hne : x ≠ a := fun e => h'.1 (e ▸ hx)
    rw [ih h'.2]
    simp [hne]
theorem ixs_take {m k : Nat} {p : Nat → Bool} : ixs m (fun i => decide (i ∈ (ixs m p).take k)) = (ixs m p).take k :=
  filter_sub ((List.take_sublist _ _).trans List.filter_sublist) List.nodup_range
theorem ixs_part {p q : Nat → Bool} : ∀ {m : Nat}, (ixs m p).length = (ixs m fun i => p i && q i).length + (ixs m fun i => p i && !q i).length
  | 0 => rfl
  | m + 1 => by
    have ih := ixs_part (p := p) (q := q) (m := m)
    cases hp : p m with
    | false => rw [ixs_no hp, ixs_no (by rw [hp]; rfl), ixs_no (by rw [hp]; rfl)]; exact ih
    | true =>
      rw [ixs_yes hp]
      cases hq : q m with
      | true => rw [ixs_yes (by rw [hp, hq]; rfl), ixs_no (by rw [hp, hq]; rfl)]; simp; omega
      | false => rw [ixs_no (by rw [hp, hq]; rfl), ixs_yes (by rw [hp, hq]; rfl)]; simp; omega
theorem sum_ixs {p : Nat → Bool} {f : Nat → Int} : ∀ {m : Nat}, (∀ i, i < m → f i = if p i = true then 1 else 0) → ((List.range m).map f).sum = ((ixs m p).length : Int)
  | 0, _ => rfl
  | m + 1, h => by
    rw [List.range_succ, List.map_append, List.sum_append, sum_ixs fun i hi => h i (by omega)]
    show _ + (f m + 0) = _
    rw [h m (by omega)]
    cases hp : p m with
    | false => rw [ixs_no hp]; simp
    | true => rw [ixs_yes hp]; simp
section
variable {n : Net} {S : Nat → Bool} {k : Nat}
theorem tw_rd {i : Nat} (hi : i < n.rs.length) : (twNet n S k).rd i = ⟨(n.rd i).a, (n.rd i).b, twV n S k i⟩ := by
  unfold Net.rd twNet
  rw [List.getD_eq_getElem?_getD, List.getElem?_map, List.getElem?_range hi]; rfl
theorem tw_len : (twNet n S k).rs.length = n.rs.length := by unfold twNet; simp
theorem tw_ok (ok : n.ok) : (twNet n S k).ok := by
  have rm : ∀ r ∈ (twNet n S k).rs, ∃ i, i < n.rs.length ∧ r = ⟨(n.rd i).a, (n.rd i).b, twV n S k i⟩ := fun r hr => by
    unfold twNet at hr
    obtain ⟨i, hi, rfl⟩ := List.mem_map.mp hr
    exact ⟨i, List.mem_range.mp hi, rfl⟩
  refine ⟨ok.n1, ok.n2, by rw [tw_len]; exact ok.m2, fun r hr => ?_, fun r hr => ?_, fun r hr => ?_⟩ <;> obtain ⟨i, hi, rfl⟩ := rm r hr
  · exact ok.ai hi
  · exact ok.bi hi
  · exact ok.nei hi
def zeroH (n : Net) : List Int := List.replicate n.names.length 0
def sideH (n : Net) (S : Nat → Bool) : List Int := (List.range n.names.length).map fun v => bI (S v)
theorem zeroH_get {v : Nat} : (zeroH n).getD v 0 = 0 := by
  unfold zeroH
  rw [List.getD_eq_getElem?_getD, List.getElem?_replicate]
  split <;> rfl
theorem sideH_get {v : Nat} (h : v < n.names.length) : (sideH n S).getD v 0 = bI (S v) := by
  unfold sideH
  rw [List.getD_eq_getElem?_getD, List.getElem?_map, List.getElem?_range h]; rfl
theorem tw_miss0 (ok : n.ok) {i : Nat} (hi : i < n.rs.length) : (twNet n S k).miss (zeroH n) i = twV n S k i := by
  unfold Net.miss missR
  rw [zeroH_get, zeroH_get, tw_rd hi]
  show twV n S k i - 0 + 0 = _
  omega
theorem tw_miss1 (ok : n.ok) {i : Nat} (hi : i < n.rs.length) : (twNet n S k).miss (sideH n S) i = twV n S k i - (bI (S (n.rd i).b) - bI (S (n.rd i).a)) := by
  unfold Net.miss missR
  rw [tw_rd hi]
  show twV n S k i - (sideH n S).getD (n.rd i).b 0 + (sideH n S).getD (n.rd i).a 0 = _
  rw [sideH_get (ok.ai hi), sideH_get (ok.bi hi)]
  omega
theorem tw_in {i : Nat} (h : i ∈ (cutL n S).take k) : i < n.rs.length ∧ S (n.rd i).a ≠ S (n.rd i).b := by
  have h1 := List.mem_of_mem_take h
  obtain ⟨h2, h3⟩ := mem_ixs.mp h1
  exact ⟨h2, by simpa using h3⟩
theorem bI_ne {p q : Bool} (h : p ≠ q) : bI q - bI p = if q = true then 1 else -1 := by
  cases p <;> cases q <;> simp [bI] at * 
theorem tw_abs0 (ok : n.ok) {i : Nat} (hi : i < n.rs.length) : absI ((twNet n S k).miss (zeroH n) i) = if decide (i ∈ (cutL n S).take k) = true then 1 else 0 := by
  rw [tw_miss0 ok hi]
  unfold twV
  by_cases h : i ∈ (cutL n S).take k
  · rw [if_pos h, if_pos (by simpa using h), bI_ne (tw_in h).2]
    unfold absI; split <;> split <;> omega
  · rw [if_neg h, if_neg (by simpa using h)]; rfl
theorem tw_abs1 (ok : n.ok) {i : Nat} (hi : i < n.rs.length) : absI ((twNet n S k).miss (sideH n S) i) = if ((S (n.rd i).a != S (n.rd i).b) && !decide (i ∈ (cutL n S).take k)) = true then 1 else 0 := by
  rw [tw_miss1 ok hi]
  unfold twV
  by_cases h : i ∈ (cutL n S).take k
  · rw [if_pos h, if_neg (by simp [h])]
    unfold absI; split <;> omega
  · rw [if_neg h]
    by_cases q : S (n.rd i).a = S (n.rd i).b
    · rw [q, if_neg (by simp)]
      unfold absI; split <;> omega
    · have e : ((S (n.rd i).a != S (n.rd i).b) && !decide (i ∈ (cutL n S).take k)) = true := by simp [q, h]
      rw [bI_ne q, e]
      show _ = (1 : Int)
      unfold absI; split <;> split <;> omega
theorem abs_zero {x : Int} : absI x = 0 ↔ x = 0 := by unfold absI; split <;> omega
theorem lie_abs {n : Net} {h : List Int} {i : Nat} {b : Bool} (e : absI (n.miss h i) = if b = true then 1 else 0) : n.lie h i = b := by
  unfold Net.lie
  cases b with
  | true =>
    have : n.miss h i ≠ 0 := fun z => by rw [z] at e; exact absurd e (by decide)
    simp [this]
  | false =>
    have : n.miss h i = 0 := abs_zero.mp e
    simp [this]
theorem tw_lies0 (ok : n.ok) : ixs (twNet n S k).rs.length ((twNet n S k).lie (zeroH n)) = (cutL n S).take k := by
  rw [tw_len]
  have : ixs n.rs.length ((twNet n S k).lie (zeroH n)) = ixs n.rs.length fun i => decide (i ∈ (cutL n S).take k) := ixs_congr fun i hi => lie_abs (tw_abs0 ok hi)
  rw [this]
  exact ixs_take
theorem tw_lies1 (ok : n.ok) : ((cutL n S).take k).length + (ixs (twNet n S k).rs.length ((twNet n S k).lie (sideH n S))).length = cutN n S := by
  rw [tw_len]
  have e : ixs n.rs.length ((twNet n S k).lie (sideH n S)) = ixs n.rs.length fun i => (S (n.rd i).a != S (n.rd i).b) && !decide (i ∈ (cutL n S).take k) := ixs_congr fun i hi => lie_abs (tw_abs1 ok hi)
  rw [e]
  have e2 : (cutL n S).take k = ixs n.rs.length fun i => (S (n.rd i).a != S (n.rd i).b) && decide (i ∈ (cutL n S).take k) := by
    conv => lhs; rw [← tw_lies0 ok, tw_len]
    refine ixs_congr fun i hi => ?_
    rw [lie_abs (tw_abs0 ok hi)]
    by_cases h : i ∈ (cutL n S).take k
    · simp [h, (tw_in h).2]
    · simp [h]
  have h := ixs_part (p := fun i => S (n.rd i).a != S (n.rd i).b) (q := fun i => decide (i ∈ (cutL n S).take k)) (m := n.rs.length)
  rw [← e2] at h
  exact h.symm
theorem tw_cost0 (ok : n.ok) : (twNet n S k).cost (zeroH n) = (((cutL n S).take k).length : Int) := by
  unfold Net.cost Net.row
  rw [tw_len, sum_ixs (p := fun i => decide (i ∈ (cutL n S).take k)) fun i hi => tw_abs0 ok hi]
  congr 1
  exact congrArg List.length ixs_take
theorem tw_cost1 (ok : n.ok) : (twNet n S k).cost (sideH n S) = ((ixs (twNet n S k).rs.length ((twNet n S k).lie (sideH n S))).length : Int) := by
  unfold Net.cost Net.row
  rw [tw_len, sum_ixs (p := fun i => (S (n.rd i).a != S (n.rd i).b) && !decide (i ∈ (cutL n S).take k)) fun i hi => tw_abs1 ok hi]
  congr 2
  exact ixs_congr fun i hi => (lie_abs (tw_abs1 ok hi)).symm
@[reducible] def twA (n : Net) (S : Nat → Bool) (k : Nat) : Dt := .tup [.tup ((sideZ n.names.length S).map Dt.int), netD (twNet n S k), .tup ((zeroH n).map Dt.int), .tup ((sideH n S).map Dt.int)]
theorem zeroH_map : List.replicate n.names.length (Dt.int 0) = (zeroH n).map Dt.int := by unfold zeroH; rw [List.map_replicate]
theorem sideH_map : (List.range n.names.length).map (fun v => Dt.int (bI (S v))) = (sideH n S).map Dt.int := by unfold sideH; rw [List.map_map]; rfl
theorem twA_eq : twD n S k = twA n S k := by
  unfold twD twA
  rw [sideZ_nat, zeroH_map, sideH_map]
theorem tw_due (ok : n.ok) {i : Nat} (hi : i < n.rs.length) : twV n S k i = (if S (n.rd i).b = true then 1 else -1) * (if decide (i ∈ (cutL n S).take k) = true then 1 else 0) := by
  unfold twV
  by_cases h : i ∈ (cutL n S).take k
  · rw [if_pos h, bI_ne (tw_in h).2, if_pos (c := decide _ = true) (by simpa using h)]; omega
  · rw [if_neg h, if_neg (c := decide _ = true) (by simpa using h)]; omega
structure TwFit (n : Net) (S : Nat → Bool) (k : Nat) : Prop where
  l0 : (ixs (twNet n S k).rs.length ((twNet n S k).lie (zeroH n))).length ≤ k
  l1 : (ixs (twNet n S k).rs.length ((twNet n S k).lie (sideH n S))).length ≤ k
  c : (twNet n S k).cost (sideH n S) ≤ (twNet n S k).cost (zeroH n)
theorem tw_fit (ok : n.ok) (h : cutN n S < 2 * k + 1) : TwFit n S k := by
  have h1 := tw_lies1 (k := k) (S := S) ok
  have h2 : ((cutL n S).take k).length = min k (cutN n S) := List.length_take
  refine ⟨by rw [tw_lies0 ok, h2]; omega, by omega, ?_⟩
  rw [tw_cost0 ok, tw_cost1 ok]
  omega
end
end TL

set_option autoImplicit true
set_option maxHeartbeats 200000
set_option maxRecDepth 512
set_option Elab.async false
set_option linter.all false
set_option autoImplicit false
set_option maxRecDepth 100000
set_option maxHeartbeats 1000000
/-! the plain law: the heights are told alone -/
namespace TL
open PySem PySem.Spec PyProof.Rows L2
structure Truth (n : Net) (k : Nat) (h : List Int) : Prop where
  ok : n.ok
  hl : h.length = n.names.length
  z : h.getD 0 0 = 0
  n2 : 2 ≤ n.names.length
  n6 : n.names.length ≤ 6
  k3 : k ≤ 3
  lies : (ixs n.rs.length (n.lie h)).length ≤ k
  cut : ∀ S : Nat → Bool, S 0 = false → (∃ v, v < n.names.length ∧ S v = true) → 2 * k + 1 ≤ cutN n S
/-! counting -/
theorem cnt_succ {m : Nat} {p : Nat → Bool} : (ixs (m + 1) p).length = (ixs m p).length + (if p m = true then 1 else 0) := by
  cases h : p m with
  | true => rw [ixs_yes h]; simp
  | false => rw [ixs_no h]; simp
theorem cnt_union {p q r : Nat → Bool} : ∀ {m : Nat}, (∀ i, i < m → p i = true → q i = true ∨ r i = true) → (ixs m p).length ≤ (ixs m q).length + (ixs m r).length
  | 0, _ => Nat.zero_le _
  | m + 1, h => by
    have ih := cnt_union (m := m) fun i hi => h i (by omega)
    rw [cnt_succ, cnt_succ, cnt_succ]
    have h1 := h m (by omega)
    split
    · rename_i hp
      rcases h1 hp with e | e <;> rw [if_pos e] <;> omega
    · omega
theorem cnt_mono {p q : Nat → Bool} {m : Nat} (h : ∀ i, i < m → p i = true → q i = true) : (ixs m p).length ≤ (ixs m q).length := by
  have := cnt_union (p := p) (q := q) (r := fun _ => false) (m := m) fun i hi hp => .inl (h i hi hp)
  have e : (ixs m fun _ => false).length = 0 := by unfold ixs; simp
  omega
theorem cnt_disj {p q r : Nat → Bool} : ∀ {m : Nat}, (∀ i, i < m → p i = true → r i = true ∧ q i = false) → (∀ i, i < m → q i = true → r i = true) → (ixs m p).length + (ixs m q).length ≤ (ixs m r).length
  | 0, _, _ => Nat.zero_le _
  | m + 1, h, h' => by
    have ih := cnt_disj (m := m) (fun i hi => h i (by omega)) fun i hi => h' i (by omega)
    rw [cnt_succ, cnt_succ, cnt_succ]
    have h1 := h m (by omega)
    have h2 := h' m (by omega)
    cases hp : p m with
    | true => rw [(h1 hp).2, (h1 hp).1]; simp; omega
    | false =>
      cases hq : q m with
      | true => rw [h2 hq]; simp; omega
      | false => simp; omega
/-! sums -/
def sumI (g : Nat → Int) : Nat → Int
  | 0 => 0
  | k + 1 => sumI g k + g k
theorem row_sum {g : Nat → Int} : ∀ {m : Nat}, ((List.range m).map g).sum = sumI g m
  | 0 => rfl
  | m + 1 => by
    rw [List.range_succ, List.map_append, List.sum_append, row_sum]
    show _ + (g m + 0) = _
    rw [sumI]; omega
theorem sumI_congr {f g : Nat → Int} : ∀ {m : Nat}, (∀ i, i < m → f i = g i) → sumI f m = sumI g m
  | 0, _ => rfl
  | m + 1, h => by rw [sumI, sumI, sumI_congr fun i hi => h i (by omega), h m (by omega)]
theorem sumI_le {f g : Nat → Int} : ∀ {m : Nat}, (∀ i, i < m → f i ≤ g i) → sumI f m ≤ sumI g m
  | 0, _ => Int.le_refl _
  | m + 1, h => by
    have := sumI_le (m := m) fun i hi => h i (by omega)
    have := h m (by omega)
    rw [sumI, sumI]; omega
theorem sumI_add {f g : Nat → Int} : ∀ {m : Nat}, sumI (fun i => f i + g i) m = sumI f m + sumI g m
  | 0 => rfl
  | m + 1 => by
    have := sumI_add (f := f) (g := g) (m := m)
    rw [sumI, sumI, sumI]; omega
theorem sumI_sub {f g : Nat → Int} : ∀ {m : Nat}, sumI (fun i => f i - g i) m = sumI f m - sumI g m
  | 0 => rfl
  | m + 1 => by
    have := sumI_sub (f := f) (g := g) (m := m)
    rw [sumI, sumI, sumI]; omega
theorem sumI_zero {f : Nat → Int} : ∀ {m : Nat}, (∀ i, i < m → f i = 0) → sumI f m = 0
  | 0, _ => rfl
  | m + 1, h => by rw [sumI, sumI_zero fun i hi => h i (by omega), h m (by omega)]; rfl
theorem sumI_cnt {p : Nat → Bool} : ∀ {m : Nat}, sumI (fun i => if p i = true then 1 else 0) m = ((ixs m p).length : Int)
  | 0 => rfl
  | m + 1 => by
    have := sumI_cnt (p := p) (m := m)
    rw [sumI, cnt_succ, this]
    split <;> simp
theorem sumI_pt {p e : Nat → Int} {a b : Nat} {x : Int} : ∀ {N : Nat}, sumI (fun v => p v * (e v - (if a = v then x else 0) + (if b = v then x else 0))) N = sumI (fun v => p v * e v) N - (if a < N then p a * x else 0) + (if b < N then p b * x else 0)
  | 0 => by simp [sumI]
  | N + 1 => by
    have ih := sumI_pt (p := p) (e := e) (a := a) (b := b) (x := x) (N := N)
    rw [sumI, sumI, ih]
    have e1 : (if a < N + 1 then p a * x else 0) = (if a < N then p a * x else 0) + (if a = N then p N * x else 0) := by
      by_cases h : a = N
      · subst h; rw [if_pos (by omega), if_neg (by omega), if_pos rfl]; omega
      · rw [if_neg h]
        by_cases h2 : a < N
        · rw [if_pos h2, if_pos (by omega)]; omega
        · rw [if_neg h2, if_neg (by omega)]; rfl
    have e2 : (if b < N + 1 then p b * x else 0) = (if b < N then p b * x else 0) + (if b = N then p N * x else 0) := by
      by_cases h : b = N
      · subst h; rw [if_pos (by omega), if_neg (by omega), if_pos rfl]; omega
      · rw [if_neg h]
        by_cases h2 : b < N
        · rw [if_pos h2, if_pos (by omega)]; omega
        · rw [if_neg h2, if_neg (by omega)]; rfl
    rw [e1, e2]
    have e3 : p N * (e N - (if a = N then x else 0) + (if b = N then x else 0)) = p N * e N - (if a = N then p N * x else 0) + (if b = N then p N * x else 0) := by
      rw [Int.mul_add, Int.mul_sub]
      split <;> split <;> simp
    rw [e3]; omega
theorem ex_sum {n : Net} (ok : n.ok) {f p : Nat → Int} : ∀ {k : Nat}, k ≤ n.rs.length → sumI (fun i => f i * (p (n.rd i).b - p (n.rd i).a)) k = sumI (fun v => p v * ex n f k v) n.names.length
  | 0, _ => by
    rw [sumI]
    exact (sumI_zero fun v _ => by rw [ex]; simp).symm
  | k + 1, hk => by
    rw [sumI, ex_sum ok (by omega : k ≤ n.rs.length)]
    have h := sumI_pt (p := p) (e := ex n f k) (a := (n.rd k).a) (b := (n.rd k).b) (x := f k) (N := n.names.length)
    rw [if_pos (ok.ai (by omega)), if_pos (ok.bi (by omega))] at h
    show _ = sumI (fun v => p v * (ex n f k v - (if (n.rd k).a = v then f k else 0) + (if (n.rd k).b = v then f k else 0))) _
    rw [h, Int.mul_sub, Int.mul_comm (f k), Int.mul_comm (f k)]
    omega
/-! cost and worth -/
theorem cost_sum {n : Net} {h : List Int} : n.cost h = sumI (fun i => absI (n.miss h i)) n.rs.length := by
  unfold Net.cost Net.row
  exact row_sum
theorem fb_of {f : List Int} (h : ∀ x ∈ f, -1 ≤ x ∧ x ≤ 1) (i : Nat) : -1 ≤ fn f i ∧ fn f i ≤ 1 := by
  unfold fn
  rw [List.getD_eq_getElem?_getD]
  cases e : f[i]? with
  | none => show -1 ≤ (0 : Int) ∧ (0 : Int) ≤ 1; omega
  | some x => exact h x (List.mem_of_getElem? e)
theorem worth_miss {n : Net} (ok : n.ok) {f : Nat → Int} {h : List Int} (ev : evenF n f) : worthF n f = sumI (fun i => f i * n.miss h i) n.rs.length := by
  unfold worthF Net.row
  rw [row_sum]
  have e := ex_sum ok (f := f) (p := fun v => h.getD v 0) (Nat.le_refl n.rs.length)
  have z : sumI (fun v => h.getD v 0 * ex n f n.rs.length v) n.names.length = 0 := sumI_zero fun v hv => by rw [ev v hv]; simp
  rw [z] at e
  have e2 : sumI (fun i => f i * n.miss h i) n.rs.length = sumI (fun i => (n.rd i).v * f i - f i * (h.getD (n.rd i).b 0 - h.getD (n.rd i).a 0)) n.rs.length := sumI_congr fun i _ => by
    unfold Net.miss missR
    rw [Int.mul_comm (n.rd i).v, ← Int.mul_sub]
    congr 1; omega
  rw [e2, sumI_sub, e]; omega
theorem abs_le_mul {x y : Int} (h : -1 ≤ x ∧ x ≤ 1) : x * y ≤ absI y := by
  have : x = -1 ∨ x = 0 ∨ x = 1 := by omega
  unfold absI
  rcases this with e | e | e <;> rw [e] <;> split <;> omega
theorem worth_le {n : Net} (ok : n.ok) {f : List Int} {h : List Int} (ev : evenF n (fn f)) (fb : ∀ x ∈ f, -1 ≤ x ∧ x ≤ 1) : worthF n (fn f) ≤ n.cost h := by
  rw [worth_miss ok (h := h) ev, cost_sum]
  exact sumI_le fun i _ => abs_le_mul (fb_of fb i)
theorem best_worth {n : Net} (ok : n.ok) {h f : List Int} (b : Best n h f) : n.cost h = worthF n (fn f) := by
  rw [worth_miss ok (h := h) b.ev, cost_sum]
  refine sumI_congr fun i hi => ?_
  have h1 := fb_of b.fb i
  have h2 := b.up i hi
  have h3 := b.dn i hi
  have : fn f i = -1 ∨ fn f i = 0 ∨ fn f i = 1 := by omega
  unfold absI
  rcases this with e | e | e <;> rw [e] at h2 h3 ⊢ <;> simp at h2 h3 <;> split <;> omega
/-! unlike heights cost more -/
theorem cut_all {n : Net} {k : Nat} {h : List Int} (T : Truth n k h) {S : Nat → Bool} {u w : Nat} (hu : u < n.names.length) (hw : w < n.names.length) (h1 : S u = true) (h2 : S w = false) : 2 * k + 1 ≤ cutN n S := by
  cases h0 : S 0 with
  | false => exact T.cut S h0 ⟨u, hu, h1⟩
  | true =>
    have := T.cut (fun v => !S v) (by simp [h0]) ⟨w, hw, by simp [h2]⟩
    have e : cutN n (fun v => !S v) = cutN n S := by
      unfold cutN
      congr 1
      exact ixs_congr fun i _ => by show ((!S (n.rd i).a) != (!S (n.rd i).b)) = _; cases S (n.rd i).a <;> cases S (n.rd i).b <;> rfl
    omega
def mn (c x : Int) : Int := if x ≤ c then x else c
def sg (b : Bool) : Int := if b = true then -1 else 1
def phi (n : Net) (h : List Int) (d : Nat → Int) (c : Int) : Int := sumI (fun i => sg (n.lie h i) * absI (mn c (d (n.rd i).b) - mn c (d (n.rd i).a))) n.rs.length
theorem mn_step {c x y : Int} : absI (mn (c + 1) x - mn (c + 1) y) = absI (mn c x - mn c y) + (if (decide (c < y) != decide (c < x)) = true then 1 else 0) := by
  unfold absI mn
  by_cases h1 : c < y <;> by_cases h2 : c < x <;> simp only [h1, h2, decide_true, decide_false] <;> simp <;> (repeat' split) <;> omega
theorem phi_step {n : Net} {k : Nat} {h : List Int} (T : Truth n k h) {d : Nat → Int} {c : Int} : phi n h d c ≤ phi n h d (c + 1) ∧ ((∃ u w, u < n.names.length ∧ w < n.names.length ∧ c < d u ∧ d w ≤ c) → phi n h d c + 1 ≤ phi n h d (c + 1)) := by
  have e : phi n h d (c + 1) = phi n h d c + sumI (fun i => sg (n.lie h i) * (if (decide (c < d (n.rd i).a) != decide (c < d (n.rd i).b)) = true then 1 else 0)) n.rs.length := by
    unfold phi
    rw [← sumI_add]
    refine sumI_congr fun i _ => ?_
    rw [mn_step, Int.mul_add]
  have hnt : (∃ u w, u < n.names.length ∧ w < n.names.length ∧ c < d u ∧ d w ≤ c) → 1 ≤ sumI (fun i => sg (n.lie h i) * (if (decide (c < d (n.rd i).a) != decide (c < d (n.rd i).b)) = true then 1 else 0)) n.rs.length := fun ⟨u, w, hu, hw, h1, h2⟩ => by
    have hc := cut_all T (S := fun v => decide (c < d v)) hu hw (decide_eq_true h1) (decide_eq_false (by omega))
    have h3 : sumI (fun i => (if (decide (c < d (n.rd i).a) != decide (c < d (n.rd i).b)) = true then 1 else 0) - ((if n.lie h i = true then 1 else 0) + (if n.lie h i = true then 1 else 0))) n.rs.length ≤ sumI (fun i => sg (n.lie h i) * (if (decide (c < d (n.rd i).a) != decide (c < d (n.rd i).b)) = true then 1 else 0)) n.rs.length := sumI_le fun i _ => by
      unfold sg
      split <;> split <;> simp
    rw [sumI_sub, sumI_add, sumI_cnt, sumI_cnt] at h3
    have h4 : cutN n (fun v => decide (c < d v)) = (ixs n.rs.length fun i => decide (c < d (n.rd i).a) != decide (c < d (n.rd i).b)).length := rfl
    have := T.lies
    omega
  refine ⟨?_, fun z => by have := hnt z; omega⟩
  by_cases z : ∃ u w, u < n.names.length ∧ w < n.names.length ∧ c < d u ∧ d w ≤ c
  · have := hnt z; omega
  · have h0 : sumI (fun i => sg (n.lie h i) * (if (decide (c < d (n.rd i).a) != decide (c < d (n.rd i).b)) = true then 1 else 0)) n.rs.length = 0 := sumI_zero fun i hi => by
      have ha := T.ok.ai hi
      have hb := T.ok.bi hi
      rw [if_neg, Int.mul_zero]
      intro q
      by_cases h1 : c < d (n.rd i).a <;> by_cases h2 : c < d (n.rd i).b
      · simp [h1, h2] at q
      · exact z ⟨_, _, ha, hb, h1, by omega⟩
      · exact z ⟨_, _, hb, ha, h2, by omega⟩
      · simp [h1, h2] at q
    omega
theorem phi_up {n : Net} {k : Nat} {h : List Int} (T : Truth n k h) {d : Nat → Int} {c : Int} : ∀ j : Nat, phi n h d c ≤ phi n h d (c + j)
  | 0 => by simp
  | j + 1 => by
    have h1 := phi_up T (d := d) (c := c) j
    have h2 := (phi_step T (d := d) (c := c + j)).1
    rw [show c + ((j + 1 : Nat) : Int) = c + j + 1 by omega]
    omega
theorem bound_ex (d : Nat → Int) : ∀ N : Nat, ∃ B : Nat, ∀ v, v < N → -(B : Int) ≤ d v ∧ d v ≤ B
  | 0 => ⟨0, fun v h => absurd h (by omega)⟩
  | N + 1 => by
    obtain ⟨B, hB⟩ := bound_ex d N
    refine ⟨B + (d N).natAbs, fun v hv => ?_⟩
    by_cases e : v = N
    · subst e; omega
    · have := hB v (by omega); omega
theorem phi_pos {n : Net} {k : Nat} {h : List Int} (T : Truth n k h) {d : Nat → Int} {u w : Nat} (hu : u < n.names.length) (hw : w < n.names.length) (h1 : d w < d u) : 1 ≤ sumI (fun i => sg (n.lie h i) * absI (d (n.rd i).b - d (n.rd i).a)) n.rs.length := by
  obtain ⟨B, hB⟩ := bound_ex d n.names.length
  have z : phi n h d (-(B : Int)) = 0 := sumI_zero fun i hi => by
    have ha := hB _ (T.ok.ai hi)
    have hb := hB _ (T.ok.bi hi)
    have e : absI (mn (-(B : Int)) (d (n.rd i).b) - mn (-(B : Int)) (d (n.rd i).a)) = 0 := by
      unfold absI mn
      repeat' split
      all_goals omega
    rw [e, Int.mul_zero]
  have f : phi n h d (B : Int) = sumI (fun i => sg (n.lie h i) * absI (d (n.rd i).b - d (n.rd i).a)) n.rs.length := sumI_congr fun i hi => by
    have ha := hB _ (T.ok.ai hi)
    have hb := hB _ (T.ok.bi hi)
    have e1 : mn (B : Int) (d (n.rd i).b) = d (n.rd i).b := if_pos hb.2
    have e2 : mn (B : Int) (d (n.rd i).a) = d (n.rd i).a := if_pos ha.2
    rw [e1, e2]
  rw [← f]
  have b1 := hB u hu
  have b2 := hB w hw
  have s1 := phi_up T (d := d) (c := -(B : Int)) ((d w + B).toNat)
  have s2 := (phi_step T (d := d) (c := d w)).2 ⟨u, w, hu, hw, h1, Int.le_refl _⟩
  have s3 := phi_up T (d := d) (c := d w + 1) ((B - (d w + 1)).toNat)
  rw [show -(B : Int) + ((d w + B).toNat : Int) = d w by omega] at s1
  rw [show d w + 1 + ((B - (d w + 1)).toNat : Int) = B by omega] at s3
  omega
theorem Truth.cheapest {n : Net} {k : Nat} {h : List Int} (T : Truth n k h) {p : List Int} (hl : p.length = n.names.length) (hz : p.getD 0 0 = 0) (hc : n.cost p ≤ n.cost h) : p = h := by
  let d : Nat → Int := fun v => p.getD v 0 - h.getD v 0
  have hd0 : d 0 = 0 := by show p.getD 0 0 - h.getD 0 0 = 0; rw [hz, T.z]; rfl
  have key : ∀ v, v < n.names.length → d v = 0 := by
    intro v hv
    refine Classical.byContradiction fun hne => ?_
    have h1 : 1 ≤ sumI (fun i => sg (n.lie h i) * absI (d (n.rd i).b - d (n.rd i).a)) n.rs.length := by
      have h0 := T.ok.n1
      by_cases q : d v < 0
      · exact phi_pos T (u := 0) (w := v) (by omega) hv (by rw [hd0]; exact q)
      · exact phi_pos T (u := v) (w := 0) hv (by omega) (by rw [hd0]; omega)
    have h2 : sumI (fun i => absI (n.miss h i) + sg (n.lie h i) * absI (d (n.rd i).b - d (n.rd i).a)) n.rs.length ≤ n.cost p := by
      rw [cost_sum]
      refine sumI_le fun i _ => ?_
      have e : n.miss p i = n.miss h i - (d (n.rd i).b - d (n.rd i).a) := by
        show (n.rd i).v - p.getD (n.rd i).b 0 + p.getD (n.rd i).a 0 = (n.rd i).v - h.getD (n.rd i).b 0 + h.getD (n.rd i).a 0 - ((p.getD (n.rd i).b 0 - h.getD (n.rd i).b 0) - (p.getD (n.rd i).a 0 - h.getD (n.rd i).a 0))
        omega
      rw [e]
      generalize d (n.rd i).b - d (n.rd i).a = y
      cases hli : n.lie h i with
      | true =>
        show absI _ + (-1) * absI y ≤ _
        unfold absI
        repeat' split
        all_goals omega
      | false =>
        have hm : n.miss h i = 0 := by
          unfold Net.lie at hli
          simpa using hli
        rw [hm]
        show absI 0 + 1 * absI y ≤ _
        unfold absI
        repeat' split
        all_goals omega
    rw [sumI_add, ← cost_sum] at h2
    omega
  refine List.ext_getElem? fun v => ?_
  by_cases hv : v < n.names.length
  · have := key v hv
    have e : p.getD v 0 = h.getD v 0 := by
      have : p.getD v 0 - h.getD v 0 = 0 := this
      omega
    rw [List.getD_eq_getElem?_getD, List.getD_eq_getElem?_getD, List.getElem?_eq_getElem (by omega), List.getElem?_eq_getElem (by rw [T.hl]; exact hv)] at e
    rw [List.getElem?_eq_getElem (by omega), List.getElem?_eq_getElem (by rw [T.hl]; exact hv)]
    exact congrArg some e
  · rw [List.getElem?_eq_none (by omega), List.getElem?_eq_none (by rw [T.hl]; omega)]
theorem Truth.best {n : Net} {k : Nat} {h : List Int} (T : Truth n k h) {p f : List Int} (b : Best n p f) : p = h :=
  T.cheapest b.hl b.z (by rw [best_worth T.ok b]; exact worth_le T.ok b.ev b.fb)
end TL

set_option autoImplicit true
set_option maxHeartbeats 200000
set_option maxRecDepth 512
set_option Elab.async false
set_option linter.all false
set_option autoImplicit false
set_option maxRecDepth 100000
set_option maxHeartbeats 1000000
/-! the plain law: spans, worlds -/
namespace TL
open PySem PySem.Spec PyProof.Rows L2
theorem even_cut {n : Net} (ok : n.ok) {f : Nat → Int} (ev : evenF n f) {S : Nat → Bool} (h1 : ∀ i, i < n.rs.length → S (n.rd i).a = false → S (n.rd i).b = true → f i = 1) (h2 : ∀ i, i < n.rs.length → S (n.rd i).a = true → S (n.rd i).b = false → f i = -1) : cutN n S = 0 := by
  have e := exS_full (n := n) (f := f) (S := S) (k := n.rs.length) h1 h2
  have z : exS n f S n.rs.length = 0 := by
    rw [exS_sum ok (Nat.le_refl _)]
    have : ∀ N, N ≤ n.names.length → sumS (ex n f n.rs.length) S N = 0 := fun N => by
      induction N with
      | zero => intro _; rfl
      | succ N ih =>
        intro hN
        rw [sumS, ih (by omega), ev N (by omega)]
        split <;> rfl
    exact this _ (Nat.le_refl _)
  rw [z] at e
  have : cutN n S = (ixs n.rs.length fun i => S (n.rd i).a != S (n.rd i).b).length := rfl
  omega
theorem row_all {g : Row} {N : Nat} (hl : g.length = N) (h : ∀ v, v < N → ∃ x, g.getD v none = some x) : g = (g.map fun e => e.getD 0).map some := by
  refine List.ext_getElem? fun v => ?_
  rw [List.getElem?_map, List.getElem?_map]
  by_cases hv : v < N
  · obtain ⟨x, hx⟩ := h v hv
    rw [List.getD_eq_getElem?_getD, List.getElem?_eq_getElem (by omega)] at hx
    rw [List.getElem?_eq_getElem (by omega)]
    have hx' : g[v] = some x := hx
    rw [hx']; rfl
  · rw [List.getElem?_eq_none (by omega)]; rfl
theorem row_val {g : Row} {v : Nat} {x : Int} (h : g.getD v none = some x) : (g.map fun e => e.getD 0).getD v 0 = x := by
  rw [List.getD_eq_getElem?_getD] at h ⊢
  rw [List.getElem?_map]
  cases e : g[v]? with
  | none => rw [e] at h; cases h
  | some y => rw [e] at h; cases h; rfl
theorem is_some_of {g : Row} {v : Nat} (h : (g.getD v none).isSome = true) : ∃ x, g.getD v none = some x := Option.isSome_iff_exists.mp h
theorem Truth.spanOk {n : Net} {k : Nat} {h : List Int} (T : Truth n k h) : SpanOk n h := by
  refine ⟨T.hl, fun h' f b => ?_⟩
  have fb := fb_of b.fb
  have reach : ∀ S : Nat → Bool, S 0 = true → cutN n S = 0 → ∀ v, v < n.names.length → S v = true := fun S h0 hc v hv => by
    cases hS : S v with
    | true => rfl
    | false =>
      have := cut_all T (S := S) (u := 0) (w := v) T.ok.n1 hv h0 hS
      omega
  constructor
  · intro g G
    have all : ∀ v, v < n.names.length → ∃ x, g.getD v none = some x := by
     intro v hv
     refine is_some_of (reach (fun v => (g.getD v none).isSome) (by show (g.getD 0 none).isSome = true; rw [G.z]; rfl) (even_cut T.ok b.ev (fun i hi ha hb => ?_) fun i hi ha hb => ?_) v hv)
     · have := fb i
       refine Classical.byContradiction fun hne => ?_
       obtain ⟨y, hy⟩ := is_some_of hb
       obtain ⟨x, hx, _⟩ := G.tight ((n.rd i).b, (n.rd i).a, -(n.rd i).v) (mem_bnd.mpr ⟨i, hi, .inr ⟨by omega, rfl⟩⟩) y hy
       have ha' : (g.getD (n.rd i).a none).isSome = false := ha
       rw [show g.getD (n.rd i).a none = some x from hx] at ha'
       cases ha'
     · have := fb i
       refine Classical.byContradiction fun hne => ?_
       obtain ⟨y, hy⟩ := is_some_of ha
       obtain ⟨x, hx, _⟩ := G.tight ((n.rd i).a, (n.rd i).b, (n.rd i).v) (mem_bnd.mpr ⟨i, hi, .inl ⟨by omega, rfl⟩⟩) y hy
       have hb' : (g.getD (n.rd i).b none).isSome = false := hb
       rw [show g.getD (n.rd i).b none = some x from hx] at hb'
       cases hb'
    have e := row_all G.len all
    have B : Best n (g.map fun e => e.getD 0) f := by
      refine ⟨by rw [List.length_map]; exact G.len, b.fl, b.fb, fun i hi hlt => ?_, fun i hi hlt => ?_, b.ev, row_val G.z⟩
      · have := fb i
        obtain ⟨y, hy⟩ := all _ (T.ok.bi hi)
        obtain ⟨x, hx, hle⟩ := G.tight ((n.rd i).b, (n.rd i).a, -(n.rd i).v) (mem_bnd.mpr ⟨i, hi, .inr ⟨by omega, rfl⟩⟩) y hy
        have hle' : x ≤ y + -(n.rd i).v := hle
        unfold Net.miss missR
        rw [row_val hy, row_val (v := (n.rd i).a) hx]
        omega
      · have := fb i
        obtain ⟨y, hy⟩ := all _ (T.ok.ai hi)
        obtain ⟨x, hx, hle⟩ := G.tight ((n.rd i).a, (n.rd i).b, (n.rd i).v) (mem_bnd.mpr ⟨i, hi, .inl ⟨by omega, rfl⟩⟩) y hy
        have hle' : x ≤ y + (n.rd i).v := hle
        unfold Net.miss missR
        rw [row_val hy, row_val (v := (n.rd i).b) hx]
        omega
    rw [e, T.best B]
  · intro g G
    have all : ∀ v, v < n.names.length → ∃ x, g.getD v none = some x := fun v hv => by
      have c0 : cutN n (fun v => !(g.getD v none).isSome) = 0 := even_cut T.ok b.ev (fun i hi ha hb => by
        have := fb i
        refine Classical.byContradiction fun hne => ?_
        have ha' : (g.getD (n.rd i).a none).isSome = true := by simpa using ha
        have hb' : (g.getD (n.rd i).b none).isSome = false := by simpa using hb
        obtain ⟨y, hy⟩ := is_some_of ha'
        obtain ⟨x, hx, _⟩ := G.tight (swapE ((n.rd i).b, (n.rd i).a, -(n.rd i).v)) (List.mem_map.mpr ⟨_, mem_bnd.mpr ⟨i, hi, .inr ⟨by omega, rfl⟩⟩, rfl⟩) y hy
        rw [show g.getD (n.rd i).b none = some x from hx] at hb'
        cases hb') fun i hi ha hb => by
        have := fb i
        refine Classical.byContradiction fun hne => ?_
        have ha' : (g.getD (n.rd i).a none).isSome = false := by simpa using ha
        have hb' : (g.getD (n.rd i).b none).isSome = true := by simpa using hb
        obtain ⟨y, hy⟩ := is_some_of hb'
        obtain ⟨x, hx, _⟩ := G.tight (swapE ((n.rd i).a, (n.rd i).b, (n.rd i).v)) (List.mem_map.mpr ⟨_, mem_bnd.mpr ⟨i, hi, .inl ⟨by omega, rfl⟩⟩, rfl⟩) y hy
        rw [show g.getD (n.rd i).a none = some x from hx] at ha'
        cases ha'
      cases hs : (g.getD v none).isSome with
      | true => exact is_some_of hs
      | false =>
        have := cut_all T (S := fun v => !(g.getD v none).isSome) (u := v) (w := 0) hv T.ok.n1 (by show (!(g.getD v none).isSome) = true; rw [hs]; rfl) (by show (!(g.getD 0 none).isSome) = false; rw [G.z]; rfl)
        omega
    have e := row_all G.len all
    have vn : ∀ v x, g.getD v none = some x → (((g.map fun e => e.getD 0).map fun x => -x).getD v 0) = -x := fun v x hx => by
      have h1 := row_val hx
      rw [List.getD_eq_getElem?_getD] at h1 ⊢
      rw [List.getElem?_map]
      cases q : (g.map fun e => e.getD 0)[v]? with
      | none => rw [q] at h1; have h1' : (0 : Int) = x := h1; rw [← h1']; rfl
      | some z => rw [q] at h1; have h1' : z = x := h1; rw [h1']; rfl
    have B : Best n ((g.map fun e => e.getD 0).map fun x => -x) f := by
      refine ⟨by rw [List.length_map, List.length_map]; exact G.len, b.fl, b.fb, fun i hi hlt => ?_, fun i hi hlt => ?_, b.ev, by rw [vn 0 0 G.z]; rfl⟩
      · have := fb i
        obtain ⟨y, hy⟩ := all _ (T.ok.ai hi)
        obtain ⟨x, hx, hle⟩ := G.tight (swapE ((n.rd i).b, (n.rd i).a, -(n.rd i).v)) (List.mem_map.mpr ⟨_, mem_bnd.mpr ⟨i, hi, .inr ⟨by omega, rfl⟩⟩, rfl⟩) y hy
        have hle' : x ≤ y + -(n.rd i).v := hle
        unfold Net.miss missR
        rw [vn _ _ hy, vn (n.rd i).b x hx]
        omega
      · have := fb i
        obtain ⟨y, hy⟩ := all _ (T.ok.bi hi)
        obtain ⟨x, hx, hle⟩ := G.tight (swapE ((n.rd i).a, (n.rd i).b, (n.rd i).v)) (List.mem_map.mpr ⟨_, mem_bnd.mpr ⟨i, hi, .inl ⟨by omega, rfl⟩⟩, rfl⟩) y hy
        have hle' : x ≤ y + (n.rd i).v := hle
        unfold Net.miss missR
        rw [vn _ _ hy, vn (n.rd i).a x hx]
        omega
    have e2 := T.best B
    have nn : ∀ l : List Int, l.map some = (l.map fun x => -x).map fun x => some (-x) := fun l => by
      rw [List.map_map]
      refine List.map_congr_left fun o _ => ?_
      show some o = some (- -o)
      rw [Int.neg_neg]
    exact e.trans (by rw [← e2]; exact nn _)
/-! worlds -/
def known (g : Row) : Nat := g.countP Option.isSome
def TrueTo (h : List Int) (g : Row) : Prop := ∀ v x, g.getD v none = some x → x = h.getD v 0
structure RowOk (n : Net) (k t : Nat) (g : Row) : Prop where
  len : g.length = n.names.length
  z : g.getD 0 none = some 0
  kn : known g = t + 1
  cl : cl n g ≤ k
def Gs (n : Net) (k : Nat) (h : List Int) (t : Nat) (rows : List Row) : Prop := rows.Nodup ∧ (∀ g ∈ rows, RowOk n k t g) ∧ ∃ g ∈ rows, TrueTo h g
theorem known_set {g : Row} {v : Nat} {x : Int} (hv : v < g.length) (h : g.getD v none = none) : known (g.set v (some x)) = known g + 1 := by
  unfold known
  rw [List.countP_set hv]
  have e : g[v] = none := by
    rw [List.getD_eq_getElem?_getD, List.getElem?_eq_getElem hv] at h; exact h
  rw [e]; simp
theorem known_lt {g : Row} (h : known g < g.length) : ∃ v, v < g.length ∧ g.getD v none = none := by
  refine Classical.byContradiction fun hn => ?_
  have : known g = g.length := by
    unfold known
    refine List.countP_eq_length.mpr fun e he => ?_
    obtain ⟨v, hv⟩ := List.getElem?_of_mem he
    have hl := (List.getElem?_eq_some_iff.mp hv).1
    cases e with
    | some x => rfl
    | none => exact absurd ⟨v, hl, by rw [List.getD_eq_getElem?_getD, hv]; rfl⟩ hn
  omega
theorem known_all {g : Row} (h : known g = g.length) {v : Nat} (hv : v < g.length) : ∃ x, g.getD v none = some x := by
  have := List.countP_eq_length.mp h g[v] (List.getElem_mem hv)
  rw [List.getD_eq_getElem?_getD, List.getElem?_eq_getElem hv]
  exact Option.isSome_iff_exists.mp this
theorem bad_lie {n : Net} {h : List Int} {g : Row} (t : TrueTo h g) {i : Nat} (hb : bad (n.rd i) g = true) : n.lie h i = true ∧ (hby (n.rd i) g).isSome = false := by
  unfold bad at hb
  unfold hby
  cases ea : g.getD (n.rd i).a none with
  | none => rw [ea] at hb; cases hb
  | some x =>
    cases eb : g.getD (n.rd i).b none with
    | none => rw [ea, eb] at hb; cases hb
    | some y =>
      rw [ea, eb] at hb
      have h1 := t _ _ ea
      have h2 := t _ _ eb
      have hne : y - x ≠ (n.rd i).v := by simpa using hb
      refine ⟨?_, rfl⟩
      unfold Net.lie Net.miss missR
      rw [← h1, ← h2]
      simp; omega
theorem take_one {m j : Nat} {q l : Nat → Bool} (hj : j ≤ (ixs m q).length) (hl : (ixs m fun i => l i && q i).length < j) : ∃ i ∈ (ixs m q).take j, l i = false := by
  refine Classical.byContradiction fun hn => ?_
  have all : ∀ i ∈ (ixs m q).take j, l i = true := fun i hi => by
    cases e : l i with
    | true => rfl
    | false => exact absurd ⟨i, hi, e⟩ hn
  have e1 : ((ixs m q).take j).filter l = (ixs m q).take j := List.filter_eq_self.mpr all
  have s1 := ((List.take_sublist j (ixs m q)).filter l).length_le
  rw [e1] at s1
  have e2 : (ixs m q).filter l = ixs m fun i => l i && q i := by unfold ixs; rw [List.filter_filter]
  rw [e2, List.length_take] at s1
  omega
theorem hby_none {n : Net} {i v : Nat} {x : Int} {g : Row} (h : hby (n.rd i) g = some (v, x)) : g.getD v none = none := by
  unfold hby at h
  cases ea : g.getD (n.rd i).a none with
  | none =>
    cases eb : g.getD (n.rd i).b none with
    | none => rw [ea, eb] at h; cases h
    | some y => rw [ea, eb] at h; cases h; exact ea
  | some y =>
    cases eb : g.getD (n.rd i).b none with
    | none => rw [ea, eb] at h; cases h; exact eb
    | some z => rw [ea, eb] at h; cases h
theorem hby_true {n : Net} {h : List Int} {i v : Nat} {x : Int} {g : Row} (t : TrueTo h g) (hl : n.lie h i = false) (e : hby (n.rd i) g = some (v, x)) : x = h.getD v 0 := by
  have hm : n.miss h i = 0 := by unfold Net.lie at hl; simpa using hl
  unfold Net.miss missR at hm
  unfold hby at e
  cases ea : g.getD (n.rd i).a none with
  | none =>
    cases eb : g.getD (n.rd i).b none with
    | none => rw [ea, eb] at e; cases e
    | some y => rw [ea, eb] at e; cases e; have := t _ _ eb; omega
  | some y =>
    cases eb : g.getD (n.rd i).b none with
    | none => rw [ea, eb] at e; cases e; have := t _ _ ea; omega
    | some z => rw [ea, eb] at e; cases e
theorem set_true {h : List Int} {g : Row} (t : TrueTo h g) {v : Nat} (hv : v < g.length) {x : Int} (hx : x = h.getD v 0) : TrueTo h (g.set v (some x)) := fun w y e => by
  by_cases q : w = v
  · subst q
    rw [getD_set_selfR hv] at e
    cases e; exact hx
  · rw [getD_set_neR q] at e; exact t w y e
theorem told_cut {n : Net} {g : Row} {i : Nat} : (hby (n.rd i) g).isSome = ((g.getD (n.rd i).a none).isSome != (g.getD (n.rd i).b none).isSome) := by
  unfold hby
  cases g.getD (n.rd i).a none <;> cases g.getD (n.rd i).b none <;> rfl
theorem Truth.cl_le {n : Net} {k : Nat} {h : List Int} (T : Truth n k h) {g : Row} (t : TrueTo h g) : cl n g ≤ k :=
  Nat.le_trans (cnt_mono fun i _ hb => (bad_lie t hb).1) T.lies
theorem Truth.step {n : Net} {k : Nat} {h : List Int} (T : Truth n k h) {t : Nat} {rows rows' : List Row} (ht : t < n.names.length - 1) (G : Gs n k h t rows) (s : StepOk n k rows rows') : Gs n k h (t + 1) rows' := by
  refine ⟨s.nd, fun g hg => ?_, ?_⟩
  · obtain ⟨row, hrow, i, hi, v, x, hb, rfl, hc⟩ := (s.mem g).mp hg
    have R := G.2.1 row hrow
    have hi' := (mem_ixs.mp (List.mem_of_mem_take hi)).1
    have hv := hby_lt T.ok hi' hb
    have hn := hby_none hb
    have hv0 : (0 : Nat) ≠ v := fun e => by rw [← e, R.z] at hn; cases hn
    refine ⟨by rw [List.length_set]; exact R.len, by rw [getD_set_neR hv0]; exact R.z, by rw [known_set (by rw [R.len]; exact hv) hn, R.kn], hc⟩
  · obtain ⟨row, hrow, tr⟩ := G.2.2
    have R := G.2.1 row hrow
    obtain ⟨w, hw, hwn⟩ := known_lt (g := row) (by rw [R.kn, R.len]; omega)
    have hcut := cut_all T (S := fun v => (row.getD v none).isSome) (u := 0) (w := w) T.ok.n1 (by rw [← R.len]; exact hw) (by show (row.getD 0 none).isSome = true; rw [R.z]; rfl) (by show (row.getD w none).isSome = false; rw [hwn]; rfl)
    have et : cutN n (fun v => (row.getD v none).isSome) = (tolds n row).length := by
      unfold cutN tolds
      congr 1
      exact ixs_congr fun i _ => told_cut.symm
    have hd : cl n row + (ixs n.rs.length fun i => n.lie h i && (hby (n.rd i) row).isSome).length ≤ (ixs n.rs.length (n.lie h)).length :=
      cnt_disj (fun i _ hb => ⟨(bad_lie tr hb).1, by rw [(bad_lie tr hb).2]; simp⟩) fun i _ hb => by simp at hb; exact hb.1
    have hl := T.lies
    obtain ⟨i, hi, hli⟩ := take_one (m := n.rs.length) (j := k - cl n row + 1) (q := fun i => (hby (n.rd i) row).isSome) (l := n.lie h) (by unfold tolds at et; omega) (by omega)
    have hi' := mem_ixs.mp (List.mem_of_mem_take hi)
    obtain ⟨⟨v, x⟩, hb⟩ := Option.isSome_iff_exists.mp hi'.2
    have hv := hby_lt T.ok hi'.1 hb
    have tr' : TrueTo h (row.set v (some x)) := set_true tr (by rw [R.len]; exact hv) (hby_true tr hli hb)
    exact ⟨_, (s.mem _).mpr ⟨row, hrow, i, hi, v, x, hb, rfl, T.cl_le tr'⟩, tr'⟩
theorem Truth.last {n : Net} {k : Nat} {h : List Int} (T : Truth n k h) {g : Row} (R : RowOk n k (n.names.length - 1) g) : g = h.map some := by
  have hn := T.ok.n1
  have all : ∀ v, v < n.names.length → ∃ x, g.getD v none = some x := fun v hv => known_all (by rw [R.kn, R.len]; omega) (by rw [R.len]; exact hv)
  have e := row_all R.len all
  have hp : (g.map fun e => e.getD 0) = h := by
    generalize hx : (g.map fun e => e.getD 0) = x at e
    have hxl : x.length = n.names.length := by rw [← hx, List.length_map]; exact R.len
    have gv : ∀ v, v < n.names.length → g.getD v none = some (x.getD v 0) := fun v hv => by
      obtain ⟨y, hy⟩ := all v hv
      rw [hy, ← hx, row_val hy]
    have hx0 : x.getD 0 0 = 0 := by rw [← hx]; exact row_val R.z
    have key : ∀ v, v < n.names.length → x.getD v 0 = h.getD v 0 := fun v hv => by
      refine Classical.byContradiction fun hne => ?_
      have hc := T.cut (fun v => decide (x.getD v 0 ≠ h.getD v 0)) (by simp only [hx0, T.z]; rfl) ⟨v, hv, decide_eq_true hne⟩
      have hu : cutN n (fun v => decide (x.getD v 0 ≠ h.getD v 0)) ≤ cl n g + (ixs n.rs.length (n.lie h)).length := cnt_union fun i hi hS => by
        cases hli : n.lie h i with
        | true => exact .inr rfl
        | false =>
          refine .inl ?_
          have hm : n.miss h i = 0 := by unfold Net.lie at hli; simpa using hli
          unfold Net.miss missR at hm
          unfold bad
          rw [gv _ (T.ok.ai hi), gv _ (T.ok.bi hi)]
          show (!decide _) = true
          rw [decide_eq_false]; rfl
          intro q
          by_cases h1 : x.getD (n.rd i).a 0 = h.getD (n.rd i).a 0
          · have h2 : x.getD (n.rd i).b 0 = h.getD (n.rd i).b 0 := by omega
            have hS' : (decide (x.getD (n.rd i).a 0 ≠ h.getD (n.rd i).a 0) != decide (x.getD (n.rd i).b 0 ≠ h.getD (n.rd i).b 0)) = true := hS
            rw [show decide (x.getD (n.rd i).a 0 ≠ h.getD (n.rd i).a 0) = false from decide_eq_false (not_not_intro h1), show decide (x.getD (n.rd i).b 0 ≠ h.getD (n.rd i).b 0) = false from decide_eq_false (not_not_intro h2)] at hS'
            cases hS'
          · have h2 : x.getD (n.rd i).b 0 ≠ h.getD (n.rd i).b 0 := by omega
            have hS' : (decide (x.getD (n.rd i).a 0 ≠ h.getD (n.rd i).a 0) != decide (x.getD (n.rd i).b 0 ≠ h.getD (n.rd i).b 0)) = true := hS
            rw [show decide (x.getD (n.rd i).a 0 ≠ h.getD (n.rd i).a 0) = true from decide_eq_true h1, show decide (x.getD (n.rd i).b 0 ≠ h.getD (n.rd i).b 0) = true from decide_eq_true h2] at hS'
            cases hS'
      have := R.cl
      have := T.lies
      omega
    refine List.ext_getElem? fun v => ?_
    by_cases hv : v < n.names.length
    · have := key v hv
      rw [List.getD_eq_getElem?_getD, List.getD_eq_getElem?_getD, List.getElem?_eq_getElem (by omega), List.getElem?_eq_getElem (by rw [T.hl]; exact hv)] at this
      rw [List.getElem?_eq_getElem (by omega), List.getElem?_eq_getElem (by rw [T.hl]; exact hv)]
      exact congrArg some this
    · rw [List.getElem?_eq_none (by omega), List.getElem?_eq_none (by rw [T.hl]; omega)]
  rw [e, hp]
theorem row0_get {n : Net} {v : Nat} : (row0 n).getD v none = if v = 0 then some 0 else none := by
  unfold row0
  cases v with
  | zero => rfl
  | succ v =>
    rw [List.getD_eq_getElem?_getD, List.getElem?_cons_succ, List.getElem?_replicate, if_neg (c := v + 1 = 0) (by omega)]
    split <;> rfl
theorem all_same {rows : List Row} {r : Row} (nd : rows.Nodup) (h : ∀ g ∈ rows, g = r) (hne : ∃ g, g ∈ rows) : rows = [r] := by
  obtain ⟨g, hg⟩ := hne
  cases rows with
  | nil => cases hg
  | cons a l =>
    have ea := h a List.mem_cons_self
    cases l with
    | nil => rw [ea]
    | cons b l =>
      have eb := h b (List.mem_cons_of_mem _ List.mem_cons_self)
      have := (List.nodup_cons.mp nd).1
      rw [ea, eb] at this
      exact absurd List.mem_cons_self this
theorem Truth.lone {n : Net} {k : Nat} {h : List Int} (T : Truth n k h) : Lone n k h := by
  have hn1 := T.ok.n1
  have hn2 := T.n2
  refine ⟨T.n6, T.k3, T.hl, fun _ c S m => ?_, Gs n k h, ⟨List.nodup_cons.mpr ⟨(fun h => by cases h), List.nodup_nil⟩, fun g hg => ?_, row0 n, List.mem_cons_self, fun v x e => ?_⟩, fun t rows rows' ht G s => T.step ht G s, fun t rows G r hr => ⟨(G.2.1 r hr).len, (G.2.1 r hr).cl⟩, fun rows G => ?_⟩
  · have := T.cut S m.z m.on
    have := m.sz
    omega
  · cases List.mem_singleton.mp hg
    refine ⟨by unfold row0; rw [List.length_cons, List.length_replicate]; omega, rfl, ?_, ?_⟩
    · unfold known row0
      rw [List.countP_cons, List.countP_replicate]
      simp
    · unfold cl
      have : (ixs n.rs.length fun i => bad (n.rd i) (row0 n)).length ≤ (ixs n.rs.length fun _ => false).length := cnt_mono fun i hi hb => by
        unfold bad at hb
        rw [row0_get, row0_get] at hb
        by_cases h1 : (n.rd i).a = 0
        · by_cases h2 : (n.rd i).b = 0
          · exact absurd (h1.trans h2.symm) (T.ok.nei hi)
          · rw [if_pos h1, if_neg h2] at hb; cases hb
        · rw [if_neg h1] at hb; cases hb
      have e : (ixs n.rs.length fun _ => false).length = 0 := by unfold ixs; simp
      omega
  · rw [row0_get] at e
    split at e
    · rename_i hv
      cases e
      rw [hv, T.z]
    · cases e
  · obtain ⟨nd, hr, g, hg, _⟩ := G
    exact all_same nd (fun g hg => T.last (hr g hg)) ⟨g, hg⟩
end TL

set_option autoImplicit true
set_option maxHeartbeats 200000
set_option maxRecDepth 512
set_option Elab.async false
set_option linter.all false
set_option autoImplicit false
set_option maxRecDepth 100000
set_option maxHeartbeats 1000000
/-! the plain law: what the law builds -/
namespace TL
open PySem PySem.Spec PyProof.Rows L2
theorem cnt_one {a : Nat} : ∀ {m : Nat}, (ixs m fun i => decide (i = a)).length ≤ (if a < m then 1 else 0)
  | 0 => by simp [ixs]
  | m + 1 => by
    have ih := cnt_one (a := a) (m := m)
    rw [cnt_succ]
    by_cases h : m = a
    · subst h
      rw [if_neg (by omega)] at ih
      rw [if_pos (by simp), if_pos (by omega)]; omega
    · rw [if_neg (by simpa using h)]
      split at ih
      · rw [if_pos (by omega)]; omega
      · omega
theorem cnt_list {m : Nat} : ∀ {l : List Nat}, (ixs m fun i => decide (i ∈ l)).length ≤ l.length
  | [] => by
    have : (ixs m fun i => decide (i ∈ ([] : List Nat))).length ≤ (ixs m fun _ => false).length := cnt_mono fun i _ h => by simp at h
    have e : (ixs m fun _ => false).length = 0 := by unfold ixs; simp
    omega
  | a :: l => by
    have ih := cnt_list (m := m) (l := l)
    have h1 := cnt_one (a := a) (m := m)
    have h2 : (ixs m fun i => decide (i ∈ a :: l)).length ≤ (ixs m fun i => decide (i = a)).length + (ixs m fun i => decide (i ∈ l)).length := cnt_union fun i _ h => by
      have h' := of_decide_eq_true h
      rcases List.mem_cons.mp h' with e | e
      · exact .inl (decide_eq_true e)
      · exact .inr (decide_eq_true e)
    rw [List.length_cons]
    split at h1 <;> omega
theorem kept_miss {ps : List (Nat × Nat)} {h : List Int} {i : Nat} : (keptNet ps h).miss h i = 0 := by
  unfold Net.miss missR Net.rd keptNet
  rw [List.getD_eq_getElem?_getD, List.getElem?_map]
  cases e : ps[i]? with
  | none =>
    show (0 : Int) - h.getD 0 0 + h.getD 0 0 = 0
    omega
  | some p =>
    show (h.getD p.2 0 - h.getD p.1 0) - h.getD p.2 0 + h.getD p.1 0 = 0
    omega
theorem truth_of {ps : List (Nat × Nat)} {h : List Int} {n : Net} {is : List Nat} {k c : Nat} {S : Nat → Bool} (hc : Chg (keptNet ps h) n is) (ok : n.ok) (hz : h.getD 0 0 = 0) (h2 : 2 ≤ h.length) (h6 : h.length ≤ 6) (hk : k ≤ 3) (hil : is.length ≤ k) (hm : MinCut n S c) (hs : 2 * k + 1 ≤ c) : Truth n k h := by
  have e : n.names.length = h.length := by rw [hc.nm]; exact namesN_len
  refine ⟨ok, e.symm, hz, by omega, by omega, hk, ?_, fun S' z on => ?_⟩
  · have : (ixs n.rs.length (n.lie h)).length ≤ (ixs n.rs.length fun i => decide (i ∈ is)).length := cnt_mono fun i _ hli => by
      refine Classical.byContradiction fun hn => ?_
      have hi : i ∉ is := fun q => hn (decide_eq_true q)
      have h0 := kept_miss (ps := ps) (h := h) (i := i)
      unfold Net.lie Net.miss missR at hli
      unfold Net.miss missR at h0
      rw [hc.ea, hc.eb, hc.ev i hi, h0] at hli
      simp at hli
    have h3 := cnt_list (m := n.rs.length) (l := is)
    omega
  · have := hm.le S' z on
    omega
theorem MinCut.uniq {n : Net} {S S' : Nat → Bool} {c c' : Nat} (h : MinCut n S c) (h' : MinCut n S' c') : c = c' := by
  have h1 := h.le S' h'.z h'.on
  have h2 := h'.le S h.z h.on
  have := h.sz
  have := h'.sz
  omega
def loneN : Net := ⟨["ma"], []⟩
theorem lone_ok : loneN.ok := ⟨by decide, by decide, by decide, fun r h => (by cases h), fun r h => (by cases h), fun r h => (by cases h)⟩
end TL

set_option Elab.async false
set_option linter.all false
set_option autoImplicit false
set_option maxRecDepth 100000
set_option maxHeartbeats 0
/-! the text by places (printed by gen_top.py) -/
namespace TL
open PySem L2
def top (i : Nat) : Stmt := PySem.Challenge.pw_truelevels_k42_whole_true_levels.main.body.getD i (.Pass ⟨0, 0, 0, 0⟩)
abbrev s_cut_of : Stmt := top 1
abbrev N_cut_of : List Str := ["net", "side", "index", "reading"]
abbrev P_cut_of : List Str := ["net", "side"]
theorem sc_cut_of : FnScope N_cut_of P_cut_of (defScope s_cut_of) := ⟨rfl, rfl, rfl, by decide +kernel, rfl, by decide +kernel, by decide +kernel⟩
def d_cut_of : He.DefD := ⟨("cut_of", none), "cut_of", "cut_of", defArgs s_cut_of, defBody s_cut_of, defScope s_cut_of, [], []⟩
abbrev s_search : Stmt := top 2
abbrev N_search : List Str := ["net", "flow", "start", "last", "queue", "mark", "index", "reading", "one", "other", "_"]
abbrev P_search : List Str := ["net", "flow", "start"]
theorem sc_search : FnScope N_search P_search (defScope s_search) := ⟨rfl, rfl, rfl, by decide +kernel, rfl, by decide +kernel, by decide +kernel⟩
def d_search : He.DefD := ⟨("search", none), "search", "search", defArgs s_search, defBody s_search, defScope s_search, [], []⟩
abbrev s_greatest_flow : Stmt := top 3
abbrev N_greatest_flow : List Str := ["net", "start", "end", "flow", "last", "mark", "before", "index", "by"]
abbrev P_greatest_flow : List Str := ["net", "start", "end"]
theorem sc_greatest_flow : FnScope N_greatest_flow P_greatest_flow (defScope s_greatest_flow) := ⟨rfl, rfl, rfl, by decide +kernel, rfl, by decide +kernel, by decide +kernel⟩
def d_greatest_flow : He.DefD := ⟨("greatest_flow", none), "greatest_flow", "greatest_flow", defArgs s_greatest_flow, defBody s_greatest_flow, defScope s_greatest_flow, [], []⟩
abbrev s_next_reading : Stmt := top 4
abbrev N_next_reading : List Str := ["net", "flow", "mark", "index", "reading"]
abbrev P_next_reading : List Str := ["net", "flow", "mark"]
theorem sc_next_reading : FnScope N_next_reading P_next_reading (defScope s_next_reading) := ⟨rfl, rfl, rfl, by decide +kernel, rfl, by decide +kernel, by decide +kernel⟩
def d_next_reading : He.DefD := ⟨("next_reading", none), "next_reading", "next_reading", defArgs s_next_reading, defBody s_next_reading, defScope s_next_reading, [], []⟩
abbrev s_ways_of : Stmt := top 5
abbrev N_ways_of : List Str := ["net", "flow", "start", "end", "ways", "mark", "way", "index", "one", "other", "_"]
abbrev P_ways_of : List Str := ["net", "flow", "start", "end"]
theorem sc_ways_of : FnScope N_ways_of P_ways_of (defScope s_ways_of) := ⟨rfl, rfl, rfl, by decide +kernel, rfl, by decide +kernel, by decide +kernel⟩
def d_ways_of : He.DefD := ⟨("ways_of", none), "ways_of", "ways_of", defArgs s_ways_of, defBody s_ways_of, defScope s_ways_of, [], []⟩
abbrev s_side_of : Stmt := top 6
abbrev N_side_of : List Str := ["net", "flow", "start", "last", "there", "mark"]
abbrev P_side_of : List Str := ["net", "flow", "start"]
theorem sc_side_of : FnScope N_side_of P_side_of (defScope s_side_of) := ⟨rfl, rfl, rfl, by decide +kernel, rfl, by decide +kernel, by decide +kernel⟩
def d_side_of : He.DefD := ⟨("side_of", none), "side_of", "side_of", defArgs s_side_of, defBody s_side_of, defScope s_side_of, [], []⟩
abbrev s_least_cut : Stmt := top 7
abbrev N_least_cut : List Str := ["net", "one", "other", "flow"]
abbrev P_least_cut : List Str := ["net", "one", "other"]
theorem sc_least_cut : FnScope N_least_cut P_least_cut (defScope s_least_cut) := ⟨rfl, rfl, rfl, by decide +kernel, rfl, by decide +kernel, by decide +kernel⟩
def d_least_cut : He.DefD := ⟨("least_cut", none), "least_cut", "least_cut", defArgs s_least_cut, defBody s_least_cut, defScope s_least_cut, [], []⟩
abbrev s_strength_paper : Stmt := top 8
abbrev N_strength_paper : List Str := ["net", "cuts", "least", "place", "mark", "cut"]
abbrev P_strength_paper : List Str := ["net"]
theorem sc_strength_paper : FnScope N_strength_paper P_strength_paper (defScope s_strength_paper) := ⟨rfl, rfl, rfl, by decide +kernel, rfl, by decide +kernel, by decide +kernel⟩
def d_strength_paper : He.DefD := ⟨("strength_paper", none), "strength_paper", "strength_paper", defArgs s_strength_paper, defBody s_strength_paper, defScope s_strength_paper, [], []⟩
abbrev s_strength : Stmt := top 9
abbrev N_strength : List Str := ["net"]
abbrev P_strength : List Str := ["net"]
theorem sc_strength : FnScope N_strength P_strength (defScope s_strength) := ⟨rfl, rfl, rfl, by decide +kernel, rfl, by decide +kernel, by decide +kernel⟩
def d_strength : He.DefD := ⟨("strength", none), "strength", "strength", defArgs s_strength, defBody s_strength, defScope s_strength, [], []⟩
abbrev s_miss_of : Stmt := top 14
abbrev N_miss_of : List Str := ["reading", "heights"]
abbrev P_miss_of : List Str := ["reading", "heights"]
theorem sc_miss_of : FnScope N_miss_of P_miss_of (defScope s_miss_of) := ⟨rfl, rfl, rfl, by decide +kernel, rfl, by decide +kernel, by decide +kernel⟩
def d_miss_of : He.DefD := ⟨("miss_of", none), "miss_of", "miss_of", defArgs s_miss_of, defBody s_miss_of, defScope s_miss_of, [], []⟩
abbrev s_misses : Stmt := top 15
abbrev N_misses : List Str := ["net", "heights", "reading"]
abbrev P_misses : List Str := ["net", "heights"]
theorem sc_misses : FnScope N_misses P_misses (defScope s_misses) := ⟨rfl, rfl, rfl, by decide +kernel, rfl, by decide +kernel, by decide +kernel⟩
def d_misses : He.DefD := ⟨("misses", none), "misses", "misses", defArgs s_misses, defBody s_misses, defScope s_misses, [], []⟩
abbrev s_cost : Stmt := top 16
abbrev N_cost : List Str := ["net", "heights", "miss"]
abbrev P_cost : List Str := ["net", "heights"]
theorem sc_cost : FnScope N_cost P_cost (defScope s_cost) := ⟨rfl, rfl, rfl, by decide +kernel, rfl, by decide +kernel, by decide +kernel⟩
def d_cost : He.DefD := ⟨("cost", none), "cost", "cost", defArgs s_cost, defBody s_cost, defScope s_cost, [], []⟩
abbrev s_lies : Stmt := top 17
abbrev N_lies : List Str := ["net", "heights", "index", "miss"]
abbrev P_lies : List Str := ["net", "heights"]
theorem sc_lies : FnScope N_lies P_lies (defScope s_lies) := ⟨rfl, rfl, rfl, by decide +kernel, rfl, by decide +kernel, by decide +kernel⟩
def d_lies : He.DefD := ⟨("lies", none), "lies", "lies", defArgs s_lies, defBody s_lies, defScope s_lies, [], []⟩
abbrev s_height_by : Stmt := top 20
abbrev N_height_by : List Str := ["reading", "heights", "start", "end", "value"]
abbrev P_height_by : List Str := ["reading", "heights"]
theorem sc_height_by : FnScope N_height_by P_height_by (defScope s_height_by) := ⟨rfl, rfl, rfl, by decide +kernel, rfl, by decide +kernel, by decide +kernel⟩
def d_height_by : He.DefD := ⟨("height_by", none), "height_by", "height_by", defArgs s_height_by, defBody s_height_by, defScope s_height_by, [], []⟩
abbrev s_count_lies : Stmt := top 21
abbrev N_count_lies : List Str := ["net", "heights", "many", "start", "end", "value"]
abbrev P_count_lies : List Str := ["net", "heights"]
theorem sc_count_lies : FnScope N_count_lies P_count_lies (defScope s_count_lies) := ⟨rfl, rfl, rfl, by decide +kernel, rfl, by decide +kernel, by decide +kernel⟩
def d_count_lies : He.DefD := ⟨("count_lies", none), "count_lies", "count_lies", defArgs s_count_lies, defBody s_count_lies, defScope s_count_lies, [], []⟩
abbrev s_further : Stmt := top 22
abbrev N_further : List Str := ["net", "k", "heights", "told", "left", "found", "pair", "more", "reading"]
abbrev P_further : List Str := ["net", "k", "heights"]
theorem sc_further : FnScope N_further P_further (defScope s_further) := ⟨rfl, rfl, rfl, by decide +kernel, rfl, by decide +kernel, by decide +kernel⟩
def d_further : He.DefD := ⟨("further", none), "further", "further", defArgs s_further, defBody s_further, defScope s_further, [], []⟩
abbrev s_check_worlds : Stmt := top 23
abbrev N_check_worlds : List Str := ["net", "k"]
abbrev P_check_worlds : List Str := ["net", "k"]
theorem sc_check_worlds : FnScope N_check_worlds P_check_worlds (defScope s_check_worlds) := ⟨rfl, rfl, rfl, by decide +kernel, rfl, by decide +kernel, by decide +kernel⟩
def d_check_worlds : He.DefD := ⟨("check_worlds", none), "check_worlds", "check_worlds", defArgs s_check_worlds, defBody s_check_worlds, defScope s_check_worlds, [], []⟩
abbrev s_worlds : Stmt := top 24
abbrev N_worlds : List Str := ["net", "k", "rows", "turn", "more", "heights", "grown"]
abbrev P_worlds : List Str := ["net", "k"]
theorem sc_worlds : FnScope N_worlds P_worlds (defScope s_worlds) := ⟨rfl, rfl, rfl, by decide +kernel, rfl, by decide +kernel, by decide +kernel⟩
def d_worlds : He.DefD := ⟨("worlds", none), "worlds", "worlds", defArgs s_worlds, defBody s_worlds, defScope s_worlds, [], []⟩
abbrev s_known_key : Stmt := top 25
abbrev N_known_key : List Str := ["heights", "height"]
abbrev P_known_key : List Str := ["heights"]
theorem sc_known_key : FnScope N_known_key P_known_key (defScope s_known_key) := ⟨rfl, rfl, rfl, by decide +kernel, rfl, by decide +kernel, by decide +kernel⟩
def d_known_key : He.DefD := ⟨("known_key", none), "known_key", "known_key", defArgs s_known_key, defBody s_known_key, defScope s_known_key, [], []⟩
abbrev s_verdict_of : Stmt := top 26
abbrev N_verdict_of : List Str := ["index", "told", "many", "row"]
abbrev P_verdict_of : List Str := ["index", "told"]
theorem sc_verdict_of : FnScope N_verdict_of P_verdict_of (defScope s_verdict_of) := ⟨rfl, rfl, rfl, by decide +kernel, rfl, by decide +kernel, by decide +kernel⟩
def d_verdict_of : He.DefD := ⟨("verdict_of", none), "verdict_of", "verdict_of", defArgs s_verdict_of, defBody s_verdict_of, defScope s_verdict_of, [], []⟩
abbrev s_verdicts : Stmt := top 27
abbrev N_verdicts : List Str := ["net", "k", "told", "heights", "index"]
abbrev P_verdicts : List Str := ["net", "k"]
theorem sc_verdicts : FnScope N_verdicts P_verdicts (defScope s_verdicts) := ⟨rfl, rfl, rfl, by decide +kernel, rfl, by decide +kernel, by decide +kernel⟩
def d_verdicts : He.DefD := ⟨("verdicts", none), "verdicts", "verdicts", defArgs s_verdicts, defBody s_verdicts, defScope s_verdicts, [], []⟩
abbrev s_is_safe : Stmt := top 28
abbrev N_is_safe : List Str := ["net", "k"]
abbrev P_is_safe : List Str := ["net", "k"]
theorem sc_is_safe : FnScope N_is_safe P_is_safe (defScope s_is_safe) := ⟨rfl, rfl, rfl, by decide +kernel, rfl, by decide +kernel, by decide +kernel⟩
def d_is_safe : He.DefD := ⟨("is_safe", none), "is_safe", "is_safe", defArgs s_is_safe, defBody s_is_safe, defScope s_is_safe, [], []⟩
abbrev s_most_lies : Stmt := top 29
abbrev N_most_lies : List Str := ["net"]
abbrev P_most_lies : List Str := ["net"]
theorem sc_most_lies : FnScope N_most_lies P_most_lies (defScope s_most_lies) := ⟨rfl, rfl, rfl, by decide +kernel, rfl, by decide +kernel, by decide +kernel⟩
def d_most_lies : He.DefD := ⟨("most_lies", none), "most_lies", "most_lies", defArgs s_most_lies, defBody s_most_lies, defScope s_most_lies, [], []⟩
abbrev s_twins : Stmt := top 30
abbrev N_twins : List Str := ["net", "k", "side", "raised", "readings", "index", "start", "end", "value", "many", "second", "mark"]
abbrev P_twins : List Str := ["net", "k"]
theorem sc_twins : FnScope N_twins P_twins (defScope s_twins) := ⟨rfl, rfl, rfl, by decide +kernel, rfl, by decide +kernel, by decide +kernel⟩
def d_twins : He.DefD := ⟨("twins", none), "twins", "twins", defArgs s_twins, defBody s_twins, defScope s_twins, [], []⟩
abbrev s_sign : Stmt := top 32
abbrev N_sign : List Str := ["n"]
abbrev P_sign : List Str := ["n"]
theorem sc_sign : FnScope N_sign P_sign (defScope s_sign) := ⟨rfl, rfl, rfl, by decide +kernel, rfl, by decide +kernel, by decide +kernel⟩
def d_sign : He.DefD := ⟨("sign", none), "sign", "sign", defArgs s_sign, defBody s_sign, defScope s_sign, [], []⟩
abbrev s_adjusted : Stmt := top 34
abbrev N_adjusted : List Str := ["net", "weights", "search", "heights", "height"]
abbrev P_adjusted : List Str := ["net", "weights"]
theorem sc_adjusted : FnScope N_adjusted P_adjusted (defScope s_adjusted) := ⟨rfl, rfl, rfl, by decide +kernel, rfl, by decide +kernel, by decide +kernel⟩
def d_adjusted : He.DefD := ⟨("adjusted", none), "adjusted", "adjusted", defArgs s_adjusted, defBody s_adjusted, defScope s_adjusted, [], []⟩
abbrev s_best_paper : Stmt := top 35
abbrev N_best_paper : List Str := ["net"]
abbrev P_best_paper : List Str := ["net"]
theorem sc_best_paper : FnScope N_best_paper P_best_paper (defScope s_best_paper) := ⟨rfl, rfl, rfl, by decide +kernel, rfl, by decide +kernel, by decide +kernel⟩
def d_best_paper : He.DefD := ⟨("best_paper", none), "best_paper", "best_paper", defArgs s_best_paper, defBody s_best_paper, defScope s_best_paper, [], []⟩
abbrev s_is_integer : Stmt := top 37
abbrev N_is_integer : List Str := ["n", "least", "most"]
abbrev P_is_integer : List Str := ["n", "least", "most"]
theorem sc_is_integer : FnScope N_is_integer P_is_integer (defScope s_is_integer) := ⟨rfl, rfl, rfl, by decide +kernel, rfl, by decide +kernel, by decide +kernel⟩
def d_is_integer : He.DefD := ⟨("is_integer", none), "is_integer", "is_integer", defArgs s_is_integer, defBody s_is_integer, defScope s_is_integer, [], []⟩
abbrev s_is_row : Stmt := top 39
abbrev N_is_row : List Str := ["row", "many", "least", "most", "number"]
abbrev P_is_row : List Str := ["row", "many", "least", "most"]
theorem sc_is_row : FnScope N_is_row P_is_row (defScope s_is_row) := ⟨rfl, rfl, rfl, by decide +kernel, rfl, by decide +kernel, by decide +kernel⟩
def d_is_row : He.DefD := ⟨("is_row", none), "is_row", "is_row", defArgs s_is_row, defBody s_is_row, defScope s_is_row, [], []⟩
abbrev s_is_even : Stmt := top 40
abbrev N_is_even : List Str := ["net", "flow", "balance", "reading", "unit"]
abbrev P_is_even : List Str := ["net", "flow"]
theorem sc_is_even : FnScope N_is_even P_is_even (defScope s_is_even) := ⟨rfl, rfl, rfl, by decide +kernel, rfl, by decide +kernel, by decide +kernel⟩
def d_is_even : He.DefD := ⟨("is_even", none), "is_even", "is_even", defArgs s_is_even, defBody s_is_even, defScope s_is_even, [], []⟩
abbrev s_worth : Stmt := top 41
abbrev N_worth : List Str := ["net", "flow", "reading", "unit"]
abbrev P_worth : List Str := ["net", "flow"]
theorem sc_worth : FnScope N_worth P_worth (defScope s_worth) := ⟨rfl, rfl, rfl, by decide +kernel, rfl, by decide +kernel, by decide +kernel⟩
def d_worth : He.DefD := ⟨("worth", none), "worth", "worth", defArgs s_worth, defBody s_worth, defScope s_worth, [], []⟩
abbrev s_are_heights : Stmt := top 42
abbrev N_are_heights : List Str := ["net", "heights", "height"]
abbrev P_are_heights : List Str := ["net", "heights"]
theorem sc_are_heights : FnScope N_are_heights P_are_heights (defScope s_are_heights) := ⟨rfl, rfl, rfl, by decide +kernel, rfl, by decide +kernel, by decide +kernel⟩
def d_are_heights : He.DefD := ⟨("are_heights", none), "are_heights", "are_heights", defArgs s_are_heights, defBody s_are_heights, defScope s_are_heights, [], []⟩
abbrev s_judge_best : Stmt := top 43
abbrev N_judge_best : List Str := ["net", "heights", "flow"]
abbrev P_judge_best : List Str := ["net", "heights", "flow"]
theorem sc_judge_best : FnScope N_judge_best P_judge_best (defScope s_judge_best) := ⟨rfl, rfl, rfl, by decide +kernel, rfl, by decide +kernel, by decide +kernel⟩
def d_judge_best : He.DefD := ⟨("judge_best", none), "judge_best", "judge_best", defArgs s_judge_best, defBody s_judge_best, defScope s_judge_best, [], []⟩
abbrev s_judge : Stmt := top 49
abbrev N_judge : List Str := ["net", "paper"]
abbrev P_judge : List Str := ["net", "paper"]
theorem sc_judge : FnScope N_judge P_judge (defScope s_judge) := ⟨rfl, rfl, rfl, by decide +kernel, rfl, by decide +kernel, by decide +kernel⟩
def d_judge : He.DefD := ⟨("judge", none), "judge", "judge", defArgs s_judge, defBody s_judge, defScope s_judge, [], []⟩
abbrev s_bounds : Stmt := top 51
abbrev N_bounds : List Str := ["net", "flow", "found", "reading", "unit"]
abbrev P_bounds : List Str := ["net", "flow"]
theorem sc_bounds : FnScope N_bounds P_bounds (defScope s_bounds) := ⟨rfl, rfl, rfl, by decide +kernel, rfl, by decide +kernel, by decide +kernel⟩
def d_bounds : He.DefD := ⟨("bounds", none), "bounds", "bounds", defArgs s_bounds, defBody s_bounds, defScope s_bounds, [], []⟩
abbrev s_greatest : Stmt := top 52
abbrev N_greatest : List Str := ["many", "steps", "heights", "changed", "one", "other", "most"]
abbrev P_greatest : List Str := ["many", "steps"]
theorem sc_greatest : FnScope N_greatest P_greatest (defScope s_greatest) := ⟨rfl, rfl, rfl, by decide +kernel, rfl, by decide +kernel, by decide +kernel⟩
def d_greatest : He.DefD := ⟨("greatest", none), "greatest", "greatest", defArgs s_greatest, defBody s_greatest, defScope s_greatest, [], []⟩
abbrev s_spans : Stmt := top 53
abbrev N_spans : List Str := ["net", "steps", "high", "low", "one", "other", "most", "least"]
abbrev P_spans : List Str := ["net"]
theorem sc_spans : FnScope N_spans P_spans (defScope s_spans) := ⟨rfl, rfl, rfl, by decide +kernel, rfl, by decide +kernel, by decide +kernel⟩
def d_spans : He.DefD := ⟨("spans", none), "spans", "spans", defArgs s_spans, defBody s_spans, defScope s_spans, [], []⟩
abbrev s_is_one : Stmt := top 54
abbrev N_is_one : List Str := ["net", "least", "most"]
abbrev P_is_one : List Str := ["net"]
theorem sc_is_one : FnScope N_is_one P_is_one (defScope s_is_one) := ⟨rfl, rfl, rfl, by decide +kernel, rfl, by decide +kernel, by decide +kernel⟩
def d_is_one : He.DefD := ⟨("is_one", none), "is_one", "is_one", defArgs s_is_one, defBody s_is_one, defScope s_is_one, [], []⟩
abbrev s_law_cell : Stmt := top 56
abbrev N_law_cell : List Str := ["_law_script", "_law_k"]
abbrev P_law_cell : List Str := ["_law_script", "_law_k"]
theorem sc_law_cell : FnScope N_law_cell P_law_cell (defScope s_law_cell) := ⟨rfl, rfl, rfl, by decide +kernel, rfl, by decide +kernel, by decide +kernel⟩
def d_law_cell : He.DefD := ⟨("_law_cell", none), "_law_cell", "_law_cell", defArgs s_law_cell, defBody s_law_cell, defScope s_law_cell, [], []⟩
abbrev s_law_digits : Stmt := top 57
abbrev N_law_digits : List Str := ["_law_script", "_law_first", "_law_last", "_law_digits_here", "_law_k", "_law_cell_here", "_law_turn", "_law_seed"]
abbrev P_law_digits : List Str := ["_law_script", "_law_first", "_law_last"]
theorem sc_law_digits : FnScope N_law_digits P_law_digits (defScope s_law_digits) := ⟨rfl, rfl, rfl, by decide +kernel, rfl, by decide +kernel, by decide +kernel⟩
def d_law_digits : He.DefD := ⟨("_law_digits", none), "_law_digits", "_law_digits", defArgs s_law_digits, defBody s_law_digits, defScope s_law_digits, [], []⟩
abbrev s_law_draw : Stmt := top 58
abbrev N_law_draw : List Str := ["_law_box", "_law_many", "_law_at"]
abbrev P_law_draw : List Str := ["_law_box", "_law_many"]
theorem sc_law_draw : FnScope N_law_draw P_law_draw (defScope s_law_draw) := ⟨rfl, rfl, rfl, by decide +kernel, rfl, by decide +kernel, by decide +kernel⟩
def d_law_draw : He.DefD := ⟨("_law_draw", none), "_law_draw", "_law_draw", defArgs s_law_draw, defBody s_law_draw, defScope s_law_draw, [], []⟩
abbrev s_law_pick : Stmt := top 59
abbrev N_law_pick : List Str := ["_law_box", "_law_things"]
abbrev P_law_pick : List Str := ["_law_box", "_law_things"]
theorem sc_law_pick : FnScope N_law_pick P_law_pick (defScope s_law_pick) := ⟨rfl, rfl, rfl, by decide +kernel, rfl, by decide +kernel, by decide +kernel⟩
def d_law_pick : He.DefD := ⟨("_law_pick", none), "_law_pick", "_law_pick", defArgs s_law_pick, defBody s_law_pick, defScope s_law_pick, [], []⟩
abbrev s_law_pairs : Stmt := top 60
abbrev N_law_pairs : List Str := ["_law_box", "_law_many", "_law_extra", "_law_pairs_here", "_law_mark", "_law_other", "_law_turn", "_law_start", "_law_end"]
abbrev P_law_pairs : List Str := ["_law_box", "_law_many", "_law_extra"]
theorem sc_law_pairs : FnScope N_law_pairs P_law_pairs (defScope s_law_pairs) := ⟨rfl, rfl, rfl, by decide +kernel, rfl, by decide +kernel, by decide +kernel⟩
def d_law_pairs : He.DefD := ⟨("_law_pairs", none), "_law_pairs", "_law_pairs", defArgs s_law_pairs, defBody s_law_pairs, defScope s_law_pairs, [], []⟩
abbrev s_law_heights : Stmt := top 61
abbrev N_law_heights : List Str := ["_law_box", "_law_many", "_law_k"]
abbrev P_law_heights : List Str := ["_law_box", "_law_many"]
theorem sc_law_heights : FnScope N_law_heights P_law_heights (defScope s_law_heights) := ⟨rfl, rfl, rfl, by decide +kernel, rfl, by decide +kernel, by decide +kernel⟩
def d_law_heights : He.DefD := ⟨("_law_heights", none), "_law_heights", "_law_heights", defArgs s_law_heights, defBody s_law_heights, defScope s_law_heights, [], []⟩
abbrev s_law_names : Stmt := top 62
abbrev N_law_names : List Str := ["_law_many", "_law_k"]
abbrev P_law_names : List Str := ["_law_many"]
theorem sc_law_names : FnScope N_law_names P_law_names (defScope s_law_names) := ⟨rfl, rfl, rfl, by decide +kernel, rfl, by decide +kernel, by decide +kernel⟩
def d_law_names : He.DefD := ⟨("_law_names", none), "_law_names", "_law_names", defArgs s_law_names, defBody s_law_names, defScope s_law_names, [], []⟩
abbrev s_law_kept_net : Stmt := top 63
abbrev N_law_kept_net : List Str := ["_law_pairs_here", "_law_heights_here", "_law_readings", "_law_a", "_law_b"]
abbrev P_law_kept_net : List Str := ["_law_pairs_here", "_law_heights_here"]
theorem sc_law_kept_net : FnScope N_law_kept_net P_law_kept_net (defScope s_law_kept_net) := ⟨rfl, rfl, rfl, by decide +kernel, rfl, by decide +kernel, by decide +kernel⟩
def d_law_kept_net : He.DefD := ⟨("_law_kept_net", none), "_law_kept_net", "_law_kept_net", defArgs s_law_kept_net, defBody s_law_kept_net, defScope s_law_kept_net, [], []⟩
abbrev s_law_changed : Stmt := top 64
abbrev N_law_changed : List Str := ["_law_net_here", "_law_rows", "_law_readings", "_law_index", "_law_more", "_law_a", "_law_b", "_law_value"]
abbrev P_law_changed : List Str := ["_law_net_here", "_law_rows"]
theorem sc_law_changed : FnScope N_law_changed P_law_changed (defScope s_law_changed) := ⟨rfl, rfl, rfl, by decide +kernel, rfl, by decide +kernel, by decide +kernel⟩
def d_law_changed : He.DefD := ⟨("_law_changed", none), "_law_changed", "_law_changed", defArgs s_law_changed, defBody s_law_changed, defScope s_law_changed, [], []⟩
abbrev s_law_some : Stmt := top 65
abbrev N_law_some : List Str := ["_law_box", "_law_many", "_law_most", "_law_found", "_law_turn", "_law_index"]
abbrev P_law_some : List Str := ["_law_box", "_law_many", "_law_most"]
theorem sc_law_some : FnScope N_law_some P_law_some (defScope s_law_some) := ⟨rfl, rfl, rfl, by decide +kernel, rfl, by decide +kernel, by decide +kernel⟩
def d_law_some : He.DefD := ⟨("_law_some", none), "_law_some", "_law_some", defArgs s_law_some, defBody s_law_some, defScope s_law_some, [], []⟩
abbrev s_law_lied : Stmt := top 66
abbrev N_law_lied : List Str := ["_law_box", "_law_net_here", "_law_most", "_law_rows", "_law_index"]
abbrev P_law_lied : List Str := ["_law_box", "_law_net_here", "_law_most"]
theorem sc_law_lied : FnScope N_law_lied P_law_lied (defScope s_law_lied) := ⟨rfl, rfl, rfl, by decide +kernel, rfl, by decide +kernel, by decide +kernel⟩
def d_law_lied : He.DefD := ⟨("_law_lied", none), "_law_lied", "_law_lied", defArgs s_law_lied, defBody s_law_lied, defScope s_law_lied, [], []⟩
abbrev s_law_sides : Stmt := top 68
abbrev N_law_sides : List Str := ["_law_many", "_law_sides_here", "_law_mark", "_law_side"]
abbrev P_law_sides : List Str := ["_law_many"]
theorem sc_law_sides : FnScope N_law_sides P_law_sides (defScope s_law_sides) := ⟨rfl, rfl, rfl, by decide +kernel, rfl, by decide +kernel, by decide +kernel⟩
def d_law_sides : He.DefD := ⟨("_law_sides", none), "_law_sides", "_law_sides", defArgs s_law_sides, defBody s_law_sides, defScope s_law_sides, [], []⟩
abbrev s_law_cut : Stmt := top 69
abbrev N_law_cut : List Str := ["_law_net_here", "_law_side", "_law_k"]
abbrev P_law_cut : List Str := ["_law_net_here", "_law_side"]
theorem sc_law_cut : FnScope N_law_cut P_law_cut (defScope s_law_cut) := ⟨rfl, rfl, rfl, by decide +kernel, rfl, by decide +kernel, by decide +kernel⟩
def d_law_cut : He.DefD := ⟨("_law_cut", none), "_law_cut", "_law_cut", defArgs s_law_cut, defBody s_law_cut, defScope s_law_cut, [], []⟩
abbrev s_law_strength : Stmt := top 70
abbrev N_law_strength : List Str := ["_law_net_here", "_law_side"]
abbrev P_law_strength : List Str := ["_law_net_here"]
theorem sc_law_strength : FnScope N_law_strength P_law_strength (defScope s_law_strength) := ⟨rfl, rfl, rfl, by decide +kernel, rfl, by decide +kernel, by decide +kernel⟩
def d_law_strength : He.DefD := ⟨("_law_strength", none), "_law_strength", "_law_strength", defArgs s_law_strength, defBody s_law_strength, defScope s_law_strength, [], []⟩
abbrev s_law_misses : Stmt := top 71
abbrev N_law_misses : List Str := ["_law_net_here", "_law_heights_here", "_law_a", "_law_b", "_law_value"]
abbrev P_law_misses : List Str := ["_law_net_here", "_law_heights_here"]
theorem sc_law_misses : FnScope N_law_misses P_law_misses (defScope s_law_misses) := ⟨rfl, rfl, rfl, by decide +kernel, rfl, by decide +kernel, by decide +kernel⟩
def d_law_misses : He.DefD := ⟨("_law_misses", none), "_law_misses", "_law_misses", defArgs s_law_misses, defBody s_law_misses, defScope s_law_misses, [], []⟩
abbrev s_law_lies : Stmt := top 72
abbrev N_law_lies : List Str := ["_law_net_here", "_law_heights_here", "_law_misses_here", "_law_k"]
abbrev P_law_lies : List Str := ["_law_net_here", "_law_heights_here"]
theorem sc_law_lies : FnScope N_law_lies P_law_lies (defScope s_law_lies) := ⟨rfl, rfl, rfl, by decide +kernel, rfl, by decide +kernel, by decide +kernel⟩
def d_law_lies : He.DefD := ⟨("_law_lies", none), "_law_lies", "_law_lies", defArgs s_law_lies, defBody s_law_lies, defScope s_law_lies, [], []⟩
abbrev s_law_cost : Stmt := top 73
abbrev N_law_cost : List Str := ["_law_net_here", "_law_heights_here", "_law_miss"]
abbrev P_law_cost : List Str := ["_law_net_here", "_law_heights_here"]
theorem sc_law_cost : FnScope N_law_cost P_law_cost (defScope s_law_cost) := ⟨rfl, rfl, rfl, by decide +kernel, rfl, by decide +kernel, by decide +kernel⟩
def d_law_cost : He.DefD := ⟨("_law_cost", none), "_law_cost", "_law_cost", defArgs s_law_cost, defBody s_law_cost, defScope s_law_cost, [], []⟩
abbrev s_law_twins_fit : Stmt := top 74
abbrev N_law_twins_fit : List Str := ["_law_net_here", "_law_k", "_law_told", "_law_side", "_law_other", "_law_first", "_law_second", "_law_many", "_law_raised", "_law_index", "_law_due", "_law_reading", "_law_mark"]
abbrev P_law_twins_fit : List Str := ["_law_net_here", "_law_k", "_law_told"]
theorem sc_law_twins_fit : FnScope N_law_twins_fit P_law_twins_fit (defScope s_law_twins_fit) := ⟨rfl, rfl, rfl, by decide +kernel, rfl, by decide +kernel, by decide +kernel⟩
def d_law_twins_fit : He.DefD := ⟨("_law_twins_fit", none), "_law_twins_fit", "_law_twins_fit", defArgs s_law_twins_fit, defBody s_law_twins_fit, defScope s_law_twins_fit, [], []⟩
abbrev s_law : Stmt := top 75
abbrev N_law : List Str := ["_law_script", "_law_box", "_law_many", "_law_heights_here", "_law_kept", "_law_k", "_law_net_here", "_law_lone", "_law_strength_here", "_law_paper", "_law_lies_here", "_law_height", "_law_index"]
abbrev P_law : List Str := ["_law_script"]
theorem sc_law : FnScope N_law P_law (defScope s_law) := ⟨rfl, rfl, rfl, by decide +kernel, rfl, by decide +kernel, by decide +kernel⟩
def d_law : He.DefD := ⟨("law", none), "law", "law", defArgs s_law, defBody s_law, defScope s_law, [], []⟩
abbrev s_S_init : Stmt := inClass (top 33) 0
abbrev N_S_init : List Str := ["self", "net", "weights", "weight", "reading"]
abbrev P_S_init : List Str := ["self", "net", "weights"]
theorem sc_S_init : FnScope N_S_init P_S_init (defScope s_S_init) := ⟨rfl, rfl, rfl, by decide +kernel, rfl, by decide +kernel, by decide +kernel⟩
def d_S_init : He.DefD := ⟨("Search", some "__init__"), "__init__", "Search.__init__", defArgs s_S_init, defBody s_S_init, defScope s_S_init, [], []⟩
abbrev s_S_excess : Stmt := inClass (top 33) 1
abbrev N_S_excess : List Str := ["self", "found", "index", "reading"]
abbrev P_S_excess : List Str := ["self"]
theorem sc_S_excess : FnScope N_S_excess P_S_excess (defScope s_S_excess) := ⟨rfl, rfl, rfl, by decide +kernel, rfl, by decide +kernel, by decide +kernel⟩
def d_S_excess : He.DefD := ⟨("Search", some "excess"), "excess", "Search.excess", defArgs s_S_excess, defBody s_S_excess, defScope s_S_excess, [], []⟩
abbrev s_S_steps : Stmt := inClass (top 33) 2
abbrev N_S_steps : List Str := ["self", "found", "told", "index", "reading"]
abbrev P_S_steps : List Str := ["self"]
theorem sc_S_steps : FnScope N_S_steps P_S_steps (defScope s_S_steps) := ⟨rfl, rfl, rfl, by decide +kernel, rfl, by decide +kernel, by decide +kernel⟩
def d_S_steps : He.DefD := ⟨("Search", some "steps"), "steps", "Search.steps", defArgs s_S_steps, defBody s_S_steps, defScope s_S_steps, [], []⟩
abbrev s_S_shortest : Stmt := inClass (top 33) 3
abbrev N_S_shortest : List Str := ["self", "start", "costs", "last", "steps", "changed", "step", "total"]
abbrev P_S_shortest : List Str := ["self", "start"]
theorem sc_S_shortest : FnScope N_S_shortest P_S_shortest (defScope s_S_shortest) := ⟨rfl, rfl, rfl, by decide +kernel, rfl, by decide +kernel, by decide +kernel⟩
def d_S_shortest : He.DefD := ⟨("Search", some "shortest"), "shortest", "Search.shortest", defArgs s_S_shortest, defBody s_S_shortest, defScope s_S_shortest, [], []⟩
abbrev s_S_push : Stmt := inClass (top 33) 4
abbrev N_S_push : List Str := ["self", "start", "excess", "costs", "last", "ends", "most", "mark", "other", "path", "many", "step"]
abbrev P_S_push : List Str := ["self", "start", "excess"]
theorem sc_S_push : FnScope N_S_push P_S_push (defScope s_S_push) := ⟨rfl, rfl, rfl, by decide +kernel, rfl, by decide +kernel, by decide +kernel⟩
def d_S_push : He.DefD := ⟨("Search", some "push"), "push", "Search.push", defArgs s_S_push, defBody s_S_push, defScope s_S_push, [], []⟩
abbrev s_S_run : Stmt := inClass (top 33) 5
abbrev N_S_run : List Str := ["self", "excess"]
abbrev P_S_run : List Str := ["self"]
theorem sc_S_run : FnScope N_S_run P_S_run (defScope s_S_run) := ⟨rfl, rfl, rfl, by decide +kernel, rfl, by decide +kernel, by decide +kernel⟩
def d_S_run : He.DefD := ⟨("Search", some "run"), "run", "Search.run", defArgs s_S_run, defBody s_S_run, defScope s_S_run, [], []⟩
def fnA : List He.DefD := [d_cut_of, d_search, d_greatest_flow, d_next_reading, d_ways_of, d_side_of, d_least_cut, d_strength_paper, d_strength, d_miss_of, d_misses, d_cost, d_lies, d_height_by, d_count_lies, d_further, d_check_worlds, d_worlds, d_known_key, d_verdict_of, d_verdicts, d_is_safe, d_most_lies, d_twins, d_sign, d_adjusted, d_best_paper, d_is_integer, d_is_row, d_is_even]
def fnB : List He.DefD := [d_worth, d_are_heights, d_judge_best, d_judge, d_bounds, d_greatest, d_spans, d_is_one, d_law_cell, d_law_digits, d_law_draw, d_law_pick, d_law_pairs, d_law_heights, d_law_names, d_law_kept_net, d_law_changed, d_law_some, d_law_lied, d_law_sides, d_law_cut, d_law_strength, d_law_misses, d_law_lies, d_law_cost, d_law_twins_fit, d_law, d_S_init, d_S_excess, d_S_steps, d_S_shortest, d_S_push, d_S_run]
def fnAll : List He.DefD := fnA ++ fnB
def fa0 : List He.Fa := [.glo "cut_of", .glo "search", .glo "greatest_flow", .glo "next_reading", .glo "ways_of", .glo "side_of", .glo "least_cut", .glo "strength_paper", .glo "strength", .glo "miss_of", .glo "misses", .glo "cost", .glo "lies", .glo "height_by", .glo "count_lies", .glo "further", .glo "check_worlds", .glo "worlds", .glo "known_key", .glo "verdict_of", .glo "verdicts", .glo "is_safe", .glo "most_lies", .glo "twins", .glo "sign", .glo "adjusted", .glo "best_paper", .glo "is_integer", .glo "is_row", .glo "is_even"]
def fa1 : List He.Fa := [.glo "worth", .glo "are_heights", .glo "judge_best", .glo "judge", .glo "bounds", .glo "greatest", .glo "spans", .glo "is_one", .glo "_law_cell", .glo "_law_digits", .glo "_law_draw", .glo "_law_pick", .glo "_law_pairs", .glo "_law_heights", .glo "_law_names", .glo "_law_kept_net", .glo "_law_changed", .glo "_law_some", .glo "_law_lied", .glo "_law_sides", .glo "_law_cut", .glo "_law_strength", .glo "_law_misses", .glo "_law_lies", .glo "_law_cost", .glo "_law_twins_fit", .glo "law", .glo "Search", .free "len", .free "range"]
def fa2 : List He.Fa := [.free "enumerate", .free "tuple", .free "min", .free "max", .free "sum", .free "abs", .free "all", .free "int", .free "isinstance", .free "bool", .free "sorted", .free "list", .free "zip", .free "set", .int "MOST_WORLDS" 200, .cls "Search", .noat "Search" "net", .noat "Search" "weights", .noat "Search" "many", .noat "Search" "heights", .noat "Search" "flow", .meth "Search" "excess", .meth "Search" "steps", .meth "Search" "shortest", .meth "Search" "push", .meth "Search" "run", .mkr "Search"]
def faAll : List He.Fa := fa0 ++ fa1 ++ fa2
def looseA : List Str := ["cut_of", "search", "greatest_flow", "next_reading", "ways_of", "side_of", "least_cut", "strength_paper", "strength", "LevelError", "BadState", "miss_of", "misses", "cost", "lies", "MOST_WORLDS", "height_by", "count_lies", "further", "check_worlds"]
def looseB : List Str := ["worlds", "known_key", "verdict_of", "verdicts", "is_safe", "most_lies", "twins", "sign", "Search", "adjusted", "best_paper", "is_integer", "is_row", "is_even", "worth", "are_heights", "judge_best", "is_side", "end_of", "are_ways"]
def looseC : List Str := ["size_of", "judge_strength", "judge", "bounds", "greatest", "spans", "is_one", "_law_cell", "_law_digits", "_law_draw", "_law_pick", "_law_pairs", "_law_heights", "_law_names", "_law_kept_net", "_law_changed", "_law_some", "_law_lied", "_law_net", "_law_sides"]
def looseD : List Str := ["_law_cut", "_law_strength", "_law_misses", "_law_lies", "_law_cost", "_law_twins_fit"]
end TL

set_option autoImplicit true
set_option maxHeartbeats 200000
set_option maxRecDepth 512
set_option Elab.async false
set_option linter.all false
set_option maxRecDepth 100000
set_option maxHeartbeats 0
namespace TL
open PySem PySem.Spec PyProof.Rows L2
abbrev R : PySem.W.OpenRow := PySem.W.OpenLaw.row PySem.Challenge.rw_truelevels_k42_whole_true_levels
abbrev hk : PySem.W.Hook := He.hookD 5 faAll fnAll
def ob (s : PySem.W.SharedT) : He.AlD := He.obsDG 5 faAll fnAll (HandSHeadRun.getT s)
theorem ob_eq (s : PySem.W.SharedT) : ob s = hk.obs s.abs := He.obsDG_eq (HandSHeadRun.getT_eq s)
theorem run (w : World) : HandSHeadRun.RunEq R (PySem.W.view R.prog [75]) hk ob 4000 (looseA ++ (looseB ++ (looseC ++ looseD))) w := by
  intro os
  kernel_rfl
end TL

set_option Elab.async false
set_option linter.all false
set_option autoImplicit false
set_option maxRecDepth 100000
set_option maxHeartbeats 4000000
namespace TL
open PySem PySem.Spec PyProof.Rows L2
local macro_rules | `(tactic| walk_at "lk") => `(tactic| first | assumption | exact lk0 | exact lk1 | exact lk2 | exact lk3 | exact lk4 | exact lr0 | exact lr1 | exact lkH | exact lkF)
/-! one step of the walk: by the reading's head; all else is left -/
local macro_rules | `(tactic| walk_at "s0") => `(tactic| first
  | with_reducible refine ws_seq ?_
  | with_reducible refine ws_pop0 ?_
  | with_reducible refine ws_append ?_
  | with_reducible refine ws_insert ?_
  | with_reducible refine ws_set ?_
  | with_reducible refine ws_drop ?_
  | with_reducible refine ws_ret ?_
  | with_reducible refine ws_asg ?_
  | with_reducible refine ws_next ?_
  | with_reducible refine wg_name ?_
  | with_reducible refine wgs_nameM ?_
  | with_reducible refine wgs_nilM ?_
  | ((with_reducible refine' wg_tup ?h ?k); (case h => exact rfl))
  | with_reducible refine wg_sub ?_
  | with_reducible refine we_andV ?_
  | with_reducible refine we_notV ?_
  | with_reducible refine rc_isi isi_int ?_
  | with_reducible refine rc_isi isi_intb ?_
  | with_reducible refine rc_isi isi_tup ?_
  | with_reducible refine we_orV ?_
  | with_reducible refine we_chain ?_
  | with_reducible refine we_call ?_
  | with_reducible refine rr_eqI ?_
  | ((with_reducible refine' we_var ?h ?k); (case h => exact rfl))
  | with_reducible refine we_int ?_
  | ((with_reducible refine' we_fNv ?m ?h ?k); (case m => assumption); (case h => exact rfl))
  | ((with_reducible refine' we_fWv ?m ?h ?k); (case m => assumption); (case h => exact rfl))
  | ((with_reducible refine' we_fMv ?m ?h ?k); (case m => assumption); (case h => exact rfl))
  | ((with_reducible refine' we_fHv ?m ?h ?k); (case m => assumption); (case h => exact rfl))
  | ((with_reducible refine' we_fFv ?m ?h ?k); (case m => assumption); (case h => exact rfl))
  | with_reducible refine we_str ?_
  | with_reducible refine we_non ?_
  | with_reducible refine we_bl ?_
  | with_reducible refine we_ty ?_
  | with_reducible refine we_op ?_
  | with_reducible refine we_un ?_
  | with_reducible refine we_neg ?_
  | with_reducible refine we_cb ?_
  | with_reducible refine wa_cons ?_
  | with_reducible refine wa_nil ?_
  | with_reducible refine wt_test ?_
  | with_reducible refine wt_B ?_
  | with_reducible refine wt_yes ?_
  | with_reducible refine wt_not ?_
  | with_reducible refine wt_and ?_
  | with_reducible refine wt_or ?_
  | with_reducible refine rr_add ?_
  | with_reducible refine rr_sub ?_
  | with_reducible refine rr_lt ?_
  | with_reducible refine rr_le ?_
  | with_reducible refine rr_gt ?_
  | with_reducible refine rr_ge ?_
  | with_reducible refine rr_isN ?_
  | with_reducible refine rr_eqI ?_
  | with_reducible refine rr_neI ?_
  | with_reducible refine rr_neB ?_
  | with_reducible refine rr_int ?_
  | with_reducible refine rr_notN ?_
  | with_reducible refine rc_abs ?_
  | with_reducible refine rc_inti ?_
  | with_reducible refine rc_intb ?_
  | with_reducible refine rc_lent ?_
  | ((with_reducible refine' rr_ixt ?h ?k); (case h => first | assumption | exact rfl))
  | ((with_reducible refine' rr_ixl ?l ?h ?k); (case l => walk_at "lk"); (case h => first | assumption | exact rfl))
  | ((with_reducible refine' rc_lenl ?l ?k); (case l => walk_at "lk"))
  | with_reducible refine rc_lstt ?_
  | ((with_reducible refine' rc_lstl ?l ?k); (case l => walk_at "lk"))
  | ((with_reducible refine' rc_tupl ?l ?k); (case l => walk_at "lk"))
  | with_reducible refine we_sl ?_
  | with_reducible refine wo_none ?_
  | with_reducible refine wo_some ?_
  | with_reducible refine we_tup ?_
  | with_reducible refine we_lst ?_
  | refine ⟨[], rfl, Nat.le_of_ble_eq_true rfl, ?_⟩
  | refine ⟨[_], rfl, Nat.le_of_ble_eq_true rfl, ?_⟩
  | refine ⟨[_, _], rfl, Nat.le_of_ble_eq_true rfl, ?_⟩
  | refine ⟨[_, _, _], rfl, Nat.le_of_ble_eq_true rfl, ?_⟩
  | refine ⟨[_, _, _, _], rfl, Nat.le_of_ble_eq_true rfl, ?_⟩
  | refine ⟨[_, _, _, _, _], rfl, Nat.le_of_ble_eq_true rfl, ?_⟩
  | refine ⟨_, rfl, ?_⟩)
local macro_rules | `(tactic| walk_at "init") => `(tactic| simp only [δS, cxK, cxK2, entR, entM, List.map_cons, List.map_nil, List.length_cons, List.length_nil, List.replicate, List.cons_append, List.nil_append, Nat.reduceAdd, Nat.reduceSub])
local macro_rules | `(tactic| walk_at "seti0") => `(tactic| (refine' set_ownI (k := 0) ?hk ?hj ?hi ?hn; (case hk => exact rfl); (case hi => exact rfl)))
local macro_rules | `(tactic| walk_at "set0") => `(tactic| (refine' set_own (k := 0) ?hk ?hj ?hi ?hn; (case hk => exact rfl); (case hi => exact rfl)))
local macro_rules | `(tactic| walk_at "seti1") => `(tactic| (refine' set_ownI (k := 1) ?hk ?hj ?hi ?hn; (case hk => exact rfl); (case hi => exact rfl)))
local macro_rules | `(tactic| walk_at "set1") => `(tactic| (refine' set_own (k := 1) ?hk ?hj ?hi ?hn; (case hk => exact rfl); (case hi => exact rfl)))
local macro_rules | `(tactic| walk_at "seti2") => `(tactic| (refine' set_ownI (k := 2) ?hk ?hj ?hi ?hn; (case hk => exact rfl); (case hi => exact rfl)))
local macro_rules | `(tactic| walk_at "set2") => `(tactic| (refine' set_own (k := 2) ?hk ?hj ?hi ?hn; (case hk => exact rfl); (case hi => exact rfl)))
local macro_rules | `(tactic| walk_at "s1") => `(tactic| first | with_reducible refine ws_if ?_ | walk_at "s0")
local macro_rules | `(tactic| walk_at "gj") => `(tactic| repeat walk_at "s0")
local macro_rules | `(tactic| walk_at "go") => `(tactic| repeat walk_at "s1")
section
variable {P : Program} {w : World} {K : PySem.W.Frag} {mg : Str → Option Value} {base : Heap}
def inCut (n : Net) (S : List Int) (i : Nat) : Bool := decide (((n.rd i).a : Int) ∈ S) != decide (((n.rd i).b : Int) ∈ S)
def pre_cut_of (as : List AV) (post : BV → Prop) : Prop := ∃ (n : Net) (S : List Int), as = [.im (netD n), .im (.tup (S.map Dt.int))] ∧ n.ok ∧ post (.im (.tup (natD (ixs n.rs.length (inCut n S)))))
theorem has_cut_of (D : Df K mg "cut_of" s_cut_of P_cut_of) (T : Tx mg) : Has P w K mg base 1 "cut_of" P_cut_of (spP K pre_cut_of) := by
  obtain ⟨f, fd, F, hm, hb⟩ := D
  refine has_of (k := 0) F hm sc_cut_of hb (by intro as post h; unfold pre_cut_of at h; repeat (first | (obtain ⟨e, _⟩ := h; rw [e]; rfl) | (obtain ⟨_, h⟩ := h))) fun cdv A outer s H E hr => ?_
  refine ⟨_, (pss_one (ps_ret (pe_callTy (kTup (K := K) rfl) (by rfl) T.tuple_ bb_tuple (pa_cons (pe_lc (own := [("index", 2), ("reading", 3)]) rfl sc_cut_of.nd (kiEnum (K := K) rfl (by rfl) T.enumerate_ (pa_cons (pe_ix (kIx (K := K) rfl) (pv 0) pe_int (fun _ _ => rfl)) pa_nil)) (blkOk_by (own := [("index", 2), ("reading", 3)]) (N := N_cut_of) (sc := defScope s_cut_of) (by decide +kernel)) (fun _ _ _ _ _ => (kgTup (K := K) (n := 2) rfl rfl (pgs_cons (pg_name (i := 2) sc_cut_of.nd rfl (Or.inl rfl) (Or.inr rfl)) (pgs_cons (pg_name (i := 3) sc_cut_of.nd rfl (Or.inl rfl) (Or.inr rfl)) pgs_nil)))) (fun _ _ _ _ _ => (pts_one (pt_cmpR (kNe (K := K) rfl hr.units) (pe_cmpR (kIn (K := K) rfl hr.u65) (pe_ix (kIx (K := K) rfl) (pv 3) pe_int (fun _ _ => rfl)) (pv 1) (by rfl)) (pe_cmpR (kIn (K := K) rfl hr.u65) (pe_ix (kIx (K := K) rfl) (pv 3) pe_int (fun _ _ => rfl)) (pv 1) (by rfl)) (nomark _)))) (fun _ _ _ _ _ => (pv 2))) pa_nil)))), ?_⟩
  rintro as post g ⟨n, S, rfl, ok, hpost⟩
  walk_at "init"
  walk_at "go"
  refine we_lcp (inCut n S) (fun i => .int (i : Int)) (wi_enumt ?_)
  walk_at "go"
  refine ⟨by have := ok.m2; simp; omega, fun _ => trivial, fun i r F' hi ⟨d, hd, hr⟩ => ?_, fun a F' hl => ?_⟩
  · obtain ⟨hi', rfl⟩ := rds_get hd
    subst hr
    refine ⟨_, gn_tup rfl (gns_cons (gns_cons gns_nil)), ?_⟩
    walk_at "go"
    exact ⟨rfl, List.Sublist.refl _, fun _ => we_var rfl ⟨rfl, List.Sublist.refl _⟩⟩
  · walk_at "go"
    rw [List.length_map]
    exact .inl ⟨_, rfl, hpost⟩
/-- heights: a tuple or a list of ints -/
def HV (hv : AV) (h : List Int) : Prop := hv = .im (.tup (h.map Dt.int)) ∨ hv = .ls (h.map Dt.int)
def pre_miss_of (as : List AV) (post : BV → Prop) : Prop := ∃ (r : Rd) (h : List Int) (hv : AV), as = [.im (rdD r), hv] ∧ HV hv h ∧ r.a < h.length ∧ r.b < h.length ∧ post (.im (.int (missR r h)))
theorem has_miss_of (D : Df K mg "miss_of" s_miss_of P_miss_of) (T : Tx mg) : Has P w K mg base 1 "miss_of" P_miss_of (spP K pre_miss_of) := by
  obtain ⟨f, fd, F, hm, hb⟩ := D
  refine has_of (k := 0) F hm sc_miss_of hb (by intro as post h; unfold pre_miss_of at h; repeat (first | (obtain ⟨e, _⟩ := h; rw [e]; rfl) | (obtain ⟨_, h⟩ := h))) fun cdv A outer s H E hr => ?_
  refine ⟨_, (pss_one (ps_ret (pe_op (kAdd (K := K) rfl) (pe_op op_subI (pe_ix (kIx (K := K) rfl) (pv 0) pe_int (fun _ _ => rfl)) (pe_ix (kIx (K := K) rfl) (pv 1) (pe_ix (kIx (K := K) rfl) (pv 0) pe_int (fun _ _ => rfl)) (fun _ _ => rfl))) (pe_ix (kIx (K := K) rfl) (pv 1) (pe_ix (kIx (K := K) rfl) (pv 0) pe_int (fun _ _ => rfl)) (fun _ _ => rfl))))), ?_⟩
  rintro as post g ⟨r, h, hv, rfl, hh, ha, hb, hpost⟩
  have ia := at_int ha
  have ib := at_int hb
  rcases hh with rfl | rfl
  · walk_at "init"
    walk_at "go"
    exact .inl ⟨_, rfl, hpost⟩
  · walk_at "init"
    walk_at "go"
    exact .inl ⟨_, rfl, hpost⟩
def pre_misses (as : List AV) (post : BV → Prop) : Prop := ∃ (n : Net) (h : List Int) (hv : AV), as = [.im (netD n), hv] ∧ HV hv h ∧ n.ok ∧ h.length = n.names.length ∧ post (.im (.tup ((n.row (n.miss h)).map Dt.int)))
theorem has_misses (D : Df K mg "misses" s_misses P_misses) (T : Tx mg) (G_miss_of : Has P w K mg base 1 "miss_of" P_miss_of (spP K pre_miss_of)) : Has P w K mg base 2 "misses" P_misses (spP K pre_misses) := by
  obtain ⟨f, fd, F, hm, hb⟩ := D
  refine has_of (k := 1) F hm sc_misses hb (by intro as post h; unfold pre_misses at h; repeat (first | (obtain ⟨e, _⟩ := h; rw [e]; rfl) | (obtain ⟨_, h⟩ := h))) fun cdv A outer s H E hr => ?_
  refine ⟨_, (pss_one (ps_ret (pe_callTy (kTup (K := K) rfl) (by rfl) T.tuple_ bb_tuple (pa_cons (pe_lc (own := [("reading", 2)]) rfl sc_misses.nd (kiTup (K := K) rfl (pe_ix (kIx (K := K) rfl) (pv 0) pe_int (fun _ _ => rfl))) (blkOk_by (own := [("reading", 2)]) (N := N_misses) (sc := defScope s_misses) (by decide +kernel)) (fun _ _ _ _ _ => (pg_name (i := 2) sc_misses.nd rfl (Or.inl rfl) (Or.inr rfl))) (fun _ _ _ _ _ => pts_nil) (fun _ _ _ _ _ => (G_miss_of.pe (hr.mono (by omega)) (by rfl) (pa_cons (pv 2) (pa_cons (pv 1) pa_nil))))) pa_nil)))), ?_⟩
  rintro as post g ⟨n, h, hv, rfl, hh, ok, hl, hpost⟩
  rcases hh with rfl | rfl
  · walk_at "init"
    walk_at "go"
    refine we_lcp (fun _ => true) (fun i => .int (n.miss h i)) (wi_tup ?_)
    walk_at "go"
    refine ⟨by have := ok.m2; simp; omega, fun _ => trivial, fun i r F' hi ⟨d, hd, hr⟩ => ?_, fun a F' hl => ?_⟩
    · obtain ⟨hi', rfl⟩ := rds_get hd
      subst hr
      refine ⟨_, gn_name, wt_yes ⟨rfl, List.Sublist.refl _, fun _ => ?_⟩⟩
      refine we_call ?_
      walk_at "go"
      exact ⟨_, .cons (.im _) (.cons (.im _) .nil), n.rd i, h, _, rfl, .inl rfl, by rw [hl]; exact ok.ai hi', by rw [hl]; exact ok.bi hi', rfl, List.Sublist.refl _⟩
    · walk_at "go"
      rw [List.length_map, ixs_all]
      rw [row_map] at hpost
      exact .inl ⟨_, rfl, hpost⟩
  · walk_at "init"
    walk_at "go"
    refine we_lcp (fun _ => true) (fun i => .int (n.miss h i)) (wi_tup ?_)
    walk_at "go"
    refine ⟨by have := ok.m2; simp; omega, fun _ => trivial, fun i r F' hi ⟨d, hd, hr⟩ => ?_, fun a F' hl => ?_⟩
    · obtain ⟨hi', rfl⟩ := rds_get hd
      subst hr
      refine ⟨_, gn_name, wt_yes ⟨rfl, List.Sublist.refl _, fun _ => ?_⟩⟩
      refine we_call ?_
      walk_at "go"
      exact ⟨_, .cons (.im _) (.cons (.ls lr0) .nil), n.rd i, h, _, rfl, .inr rfl, by rw [hl]; exact ok.ai hi', by rw [hl]; exact ok.bi hi', rfl, List.Sublist.refl _⟩
    · walk_at "go"
      rw [List.length_map, ixs_all]
      rw [row_map] at hpost
      exact .inl ⟨_, rfl, hpost⟩
def pre_cost (as : List AV) (post : BV → Prop) : Prop := ∃ (n : Net) (h : List Int), as = [.im (netD n), .im (.tup (h.map Dt.int))] ∧ n.ok ∧ h.length = n.names.length ∧ post (.im (.int (n.cost h)))
theorem has_cost (D : Df K mg "cost" s_cost P_cost) (T : Tx mg) (G_misses : Has P w K mg base 2 "misses" P_misses (spP K pre_misses)) : Has P w K mg base 3 "cost" P_cost (spP K pre_cost) := by
  obtain ⟨f, fd, F, hm, hb⟩ := D
  refine has_of (k := 2) F hm sc_cost hb (by intro as post h; unfold pre_cost at h; repeat (first | (obtain ⟨e, _⟩ := h; rw [e]; rfl) | (obtain ⟨_, h⟩ := h))) fun cdv A outer s H E hr => ?_
  refine ⟨_, (pss_one (ps_ret (pe_callB (kSum (K := K) rfl rfl) (by rfl) T.sum_ bb_sum (pa_cons (pe_lc (own := [("miss", 2)]) rfl sc_cost.nd (kiTup (K := K) rfl (G_misses.pe (hr.mono (by omega)) (by rfl) (pa_cons (pv 0) (pa_cons (pv 1) pa_nil)))) (blkOk_by (own := [("miss", 2)]) (N := N_cost) (sc := defScope s_cost) (by decide +kernel)) (fun _ _ _ _ _ => (pg_name (i := 2) sc_cost.nd rfl (Or.inl rfl) (Or.inr rfl))) (fun _ _ _ _ _ => pts_nil) (fun _ _ _ _ _ => (pe_callB call_absQ (by rfl) T.abs_ bb_abs (pa_cons (pv 2) pa_nil)))) pa_nil)))), ?_⟩
  rintro as post g ⟨n, h, rfl, ok, hl, hpost⟩
  walk_at "init"
  walk_at "go"
  refine we_lcp (fun _ => true) (fun i => .int (absI (n.miss h i))) (wi_tup ?_)
  refine we_call ?_
  walk_at "go"
  refine ⟨_, .cons (.im _) (.cons (.im _) .nil), n, h, _, rfl, .inl rfl, ok, hl, ?_⟩
  refine ⟨_, rfl, by have := ok.m2; simp [row_len]; omega, fun _ => trivial, fun i r F' hi ⟨d, hd, hr⟩ => ?_, fun a F' hl => ?_⟩
  · have hi' : i < n.rs.length := by simpa [row_len] using hi
    rw [row_map, List.getElem?_map, List.getElem?_range hi'] at hd
    cases hd
    subst hr
    refine ⟨_, gn_name, wt_yes ⟨rfl, List.Sublist.refl _, fun _ => ?_⟩⟩
    walk_at "go"
    exact ⟨rfl, List.Sublist.refl _⟩
  · walk_at "go"
    refine rc_sum (ns := n.row fun i => absI (n.miss h i)) ?_ ?_
    · rw [List.length_map, row_len, ixs_all, row_map]
      exact lk0
    · exact .inl ⟨_, rfl, hpost⟩
def pre_lies (as : List AV) (post : BV → Prop) : Prop := ∃ (n : Net) (h : List Int), as = [.im (netD n), .im (.tup (h.map Dt.int))] ∧ n.ok ∧ h.length = n.names.length ∧ post (.im (.tup (natD (ixs n.rs.length (n.lie h)))))
theorem has_lies (D : Df K mg "lies" s_lies P_lies) (T : Tx mg) (G_misses : Has P w K mg base 2 "misses" P_misses (spP K pre_misses)) : Has P w K mg base 3 "lies" P_lies (spP K pre_lies) := by
  obtain ⟨f, fd, F, hm, hb⟩ := D
  refine has_of (k := 2) F hm sc_lies hb (by intro as post h; unfold pre_lies at h; repeat (first | (obtain ⟨e, _⟩ := h; rw [e]; rfl) | (obtain ⟨_, h⟩ := h))) fun cdv A outer s H E hr => ?_
  refine ⟨_, (pss_one (ps_ret (pe_callTy (kTup (K := K) rfl) (by rfl) T.tuple_ bb_tuple (pa_cons (pe_lc (own := [("index", 2), ("miss", 3)]) rfl sc_lies.nd (kiEnum (K := K) rfl (by rfl) T.enumerate_ (pa_cons (G_misses.pe (hr.mono (by omega)) (by rfl) (pa_cons (pv 0) (pa_cons (pv 1) pa_nil))) pa_nil)) (blkOk_by (own := [("index", 2), ("miss", 3)]) (N := N_lies) (sc := defScope s_lies) (by decide +kernel)) (fun _ _ _ _ _ => (kgTup (K := K) (n := 2) rfl rfl (pgs_cons (pg_name (i := 2) sc_lies.nd rfl (Or.inl rfl) (Or.inr rfl)) (pgs_cons (pg_name (i := 3) sc_lies.nd rfl (Or.inl rfl) (Or.inr rfl)) pgs_nil)))) (fun _ _ _ _ _ => (pts_one (pt_cmpR (kNe (K := K) rfl hr.units) (pv 3) pe_int (nomark _)))) (fun _ _ _ _ _ => (pv 2))) pa_nil)))), ?_⟩
  rintro as post g ⟨n, h, rfl, ok, hl, hpost⟩
  walk_at "init"
  walk_at "go"
  refine we_lcp (n.lie h) (fun i => .int (i : Int)) (wi_enumt ?_)
  refine we_call ?_
  walk_at "go"
  refine ⟨_, .cons (.im _) (.cons (.im _) .nil), n, h, _, rfl, .inl rfl, ok, hl, ?_⟩
  refine ⟨_, rfl, by have := ok.m2; simp [row_len]; omega, fun _ => trivial, fun i r F' hi ⟨d, hd, hr⟩ => ?_, fun a F' hl => ?_⟩
  · have hi' : i < n.rs.length := by simpa [row_len] using hi
    rw [row_map, List.getElem?_map, List.getElem?_range hi'] at hd
    cases hd
    subst hr
    refine ⟨_, gn_tup rfl (gns_cons (gns_cons gns_nil)), ?_⟩
    walk_at "go"
    exact ⟨rfl, List.Sublist.refl _, fun _ => we_var rfl ⟨rfl, List.Sublist.refl _⟩⟩
  · walk_at "go"
    rw [List.length_map, row_len]
    exact .inl ⟨_, rfl, hpost⟩
end
end TL

set_option Elab.async false
set_option linter.all false
set_option autoImplicit false
set_option maxRecDepth 100000
set_option maxHeartbeats 4000000
namespace TL
open PySem PySem.Spec PyProof.Rows L2
local macro_rules | `(tactic| walk_at "lk") => `(tactic| first | assumption | exact lk0 | exact lk1 | exact lk2 | exact lk3 | exact lk4 | exact lr0 | exact lr1 | exact lkH | exact lkF)
/-! one step of the walk: by the reading's head; all else is left -/
local macro_rules | `(tactic| walk_at "s0") => `(tactic| first
  | with_reducible refine ws_seq ?_
  | with_reducible refine ws_pop0 ?_
  | with_reducible refine ws_append ?_
  | with_reducible refine ws_insert ?_
  | with_reducible refine ws_set ?_
  | with_reducible refine ws_drop ?_
  | with_reducible refine ws_ret ?_
  | with_reducible refine ws_asg ?_
  | with_reducible refine ws_next ?_
  | with_reducible refine wg_name ?_
  | with_reducible refine wgs_nameM ?_
  | with_reducible refine wgs_nilM ?_
  | ((with_reducible refine' wg_tup ?h ?k); (case h => exact rfl))
  | with_reducible refine wg_sub ?_
  | with_reducible refine we_andV ?_
  | with_reducible refine we_notV ?_
  | with_reducible refine rc_isi isi_int ?_
  | with_reducible refine rc_isi isi_intb ?_
  | with_reducible refine rc_isi isi_tup ?_
  | with_reducible refine we_orV ?_
  | with_reducible refine we_chain ?_
  | with_reducible refine we_call ?_
  | with_reducible refine rr_eqI ?_
  | ((with_reducible refine' we_var ?h ?k); (case h => exact rfl))
  | with_reducible refine we_int ?_
  | ((with_reducible refine' we_fNv ?m ?h ?k); (case m => assumption); (case h => exact rfl))
  | ((with_reducible refine' we_fWv ?m ?h ?k); (case m => assumption); (case h => exact rfl))
  | ((with_reducible refine' we_fMv ?m ?h ?k); (case m => assumption); (case h => exact rfl))
  | ((with_reducible refine' we_fHv ?m ?h ?k); (case m => assumption); (case h => exact rfl))
  | ((with_reducible refine' we_fFv ?m ?h ?k); (case m => assumption); (case h => exact rfl))
  | with_reducible refine we_str ?_
  | with_reducible refine we_non ?_
  | with_reducible refine we_bl ?_
  | with_reducible refine we_ty ?_
  | with_reducible refine we_op ?_
  | with_reducible refine we_un ?_
  | with_reducible refine we_neg ?_
  | with_reducible refine we_cb ?_
  | with_reducible refine wa_cons ?_
  | with_reducible refine wa_nil ?_
  | with_reducible refine wt_test ?_
  | with_reducible refine wt_B ?_
  | with_reducible refine wt_yes ?_
  | with_reducible refine wt_not ?_
  | with_reducible refine wt_and ?_
  | with_reducible refine wt_or ?_
  | with_reducible refine rr_add ?_
  | with_reducible refine rr_sub ?_
  | with_reducible refine rr_lt ?_
  | with_reducible refine rr_le ?_
  | with_reducible refine rr_gt ?_
  | with_reducible refine rr_ge ?_
  | with_reducible refine rr_isN ?_
  | with_reducible refine rr_eqI ?_
  | with_reducible refine rr_neI ?_
  | with_reducible refine rr_neB ?_
  | with_reducible refine rr_int ?_
  | with_reducible refine rr_notN ?_
  | with_reducible refine rc_abs ?_
  | with_reducible refine rc_inti ?_
  | with_reducible refine rc_intb ?_
  | with_reducible refine rc_lent ?_
  | ((with_reducible refine' rr_ixt ?h ?k); (case h => first | assumption | exact rfl))
  | ((with_reducible refine' rr_ixl ?l ?h ?k); (case l => walk_at "lk"); (case h => first | assumption | exact rfl))
  | ((with_reducible refine' rc_lenl ?l ?k); (case l => walk_at "lk"))
  | with_reducible refine rc_lstt ?_
  | ((with_reducible refine' rc_lstl ?l ?k); (case l => walk_at "lk"))
  | ((with_reducible refine' rc_tupl ?l ?k); (case l => walk_at "lk"))
  | with_reducible refine we_sl ?_
  | with_reducible refine wo_none ?_
  | with_reducible refine wo_some ?_
  | with_reducible refine we_tup ?_
  | with_reducible refine we_lst ?_
  | refine ⟨[], rfl, Nat.le_of_ble_eq_true rfl, ?_⟩
  | refine ⟨[_], rfl, Nat.le_of_ble_eq_true rfl, ?_⟩
  | refine ⟨[_, _], rfl, Nat.le_of_ble_eq_true rfl, ?_⟩
  | refine ⟨[_, _, _], rfl, Nat.le_of_ble_eq_true rfl, ?_⟩
  | refine ⟨[_, _, _, _], rfl, Nat.le_of_ble_eq_true rfl, ?_⟩
  | refine ⟨[_, _, _, _, _], rfl, Nat.le_of_ble_eq_true rfl, ?_⟩
  | refine ⟨_, rfl, ?_⟩)
local macro_rules | `(tactic| walk_at "init") => `(tactic| simp only [δS, cxK, cxK2, entR, entM, List.map_cons, List.map_nil, List.length_cons, List.length_nil, List.replicate, List.cons_append, List.nil_append, Nat.reduceAdd, Nat.reduceSub])
local macro_rules | `(tactic| walk_at "seti0") => `(tactic| (refine' set_ownI (k := 0) ?hk ?hj ?hi ?hn; (case hk => exact rfl); (case hi => exact rfl)))
local macro_rules | `(tactic| walk_at "set0") => `(tactic| (refine' set_own (k := 0) ?hk ?hj ?hi ?hn; (case hk => exact rfl); (case hi => exact rfl)))
local macro_rules | `(tactic| walk_at "seti1") => `(tactic| (refine' set_ownI (k := 1) ?hk ?hj ?hi ?hn; (case hk => exact rfl); (case hi => exact rfl)))
local macro_rules | `(tactic| walk_at "set1") => `(tactic| (refine' set_own (k := 1) ?hk ?hj ?hi ?hn; (case hk => exact rfl); (case hi => exact rfl)))
local macro_rules | `(tactic| walk_at "seti2") => `(tactic| (refine' set_ownI (k := 2) ?hk ?hj ?hi ?hn; (case hk => exact rfl); (case hi => exact rfl)))
local macro_rules | `(tactic| walk_at "set2") => `(tactic| (refine' set_own (k := 2) ?hk ?hj ?hi ?hn; (case hk => exact rfl); (case hi => exact rfl)))
local macro_rules | `(tactic| walk_at "s1") => `(tactic| first | with_reducible refine ws_if ?_ | walk_at "s0")
local macro_rules | `(tactic| walk_at "gj") => `(tactic| repeat walk_at "s0")
local macro_rules | `(tactic| walk_at "go") => `(tactic| repeat walk_at "s1")
section
variable {P : Program} {w : World} {K : PySem.W.Frag} {mg : Str → Option Value} {base : Heap}
def pre_sign (as : List AV) (post : BV → Prop) : Prop := ∃ (x : Int), as = [.im (.int x)] ∧ post (.im (.int ((if decide (0 < x) then 1 else 0) - (if decide (x < 0) then 1 else 0))))
theorem has_sign (D : Df K mg "sign" s_sign P_sign) (T : Tx mg) : Has P w K mg base 1 "sign" P_sign (spP K pre_sign) := by
  obtain ⟨f, fd, F, hm, hb⟩ := D
  refine has_of (k := 0) F hm sc_sign hb (by intro as post h; unfold pre_sign at h; repeat (first | (obtain ⟨e, _⟩ := h; rw [e]; rfl) | (obtain ⟨_, h⟩ := h))) fun cdv A outer s H E hr => ?_
  refine ⟨_, (pss_one (ps_ret (pe_op op_subI (pe_callTy call_intQ (by rfl) T.int_ bb_int (pa_cons (pe_cmpR op_gtI (pv 0) pe_int (nomark _)) pa_nil)) (pe_callTy call_intQ (by rfl) T.int_ bb_int (pa_cons (pe_cmpR op_ltI (pv 0) pe_int (nomark _)) pa_nil))))), ?_⟩
  rintro as post g ⟨x, rfl, hpost⟩
  walk_at "init"
  walk_at "go"
  exact .inl ⟨_, rfl, hpost⟩
def pre_is_integer (as : List AV) (post : BV → Prop) : Prop := ∃ (x lo hi : Int), as = [.im (.int x), .im (.int lo), .im (.int hi)] ∧ lo ≤ x ∧ x ≤ hi ∧ post (.im (.bl true))
theorem has_is_integer (D : Df K mg "is_integer" s_is_integer P_is_integer) (T : Tx mg) : Has P w K mg base 1 "is_integer" P_is_integer (spP K pre_is_integer) := by
  obtain ⟨f, fd, F, hm, hb⟩ := D
  refine has_of (k := 0) F hm sc_is_integer hb (by intro as post h; unfold pre_is_integer at h; repeat (first | (obtain ⟨e, _⟩ := h; rw [e]; rfl) | (obtain ⟨_, h⟩ := h))) fun cdv A outer s H E hr => ?_
  refine ⟨_, (pss_one (ps_ret (pe_and (pe_callB (kIsi (K := K) rfl) (by rfl) T.isinstance_ bb_isinstance (pa_cons (pv 0) (pa_cons (pe_bltn (v := .ty "int") (by rfl) T.int_ bb_int rfl) pa_nil))) (pe_and (pe_not (pe_callB (kIsi (K := K) rfl) (by rfl) T.isinstance_ bb_isinstance (pa_cons (pv 0) (pa_cons (pe_bltn (v := .ty "bool") (by rfl) T.bool_ bb_bool rfl) pa_nil)))) (pe_one (pe_chain op_leI op_leI (pv 1) (pv 0) (pv 2))))))), ?_⟩
  rintro as post g ⟨x, lo, hi, rfl, h1, h2, hpost⟩
  walk_at "init"
  walk_at "go"
  refine ⟨fun _ => ?_, fun h => by cases h⟩
  walk_at "go"
  refine ⟨fun _ => ?_, fun h => by cases h⟩
  walk_at "go"
  refine ⟨fun _ => ?_, fun h => by simp at h; omega⟩
  walk_at "go"
  rw [decide_eq_true h2]
  exact .inl ⟨_, rfl, hpost⟩
def pre_is_row (as : List AV) (post : BV → Prop) : Prop := ∃ (r : List Int) (m lo hi : Int), as = [.im (.tup (r.map Dt.int)), .im (.int m), .im (.int lo), .im (.int hi)] ∧ m = (r.length : Int) ∧ r.length ≤ 1000 ∧ (∀ x ∈ r, lo ≤ x ∧ x ≤ hi) ∧ post (.im (.bl true))
theorem has_is_row (D : Df K mg "is_row" s_is_row P_is_row) (T : Tx mg) (G_is_integer : Has P w K mg base 1 "is_integer" P_is_integer (spP K pre_is_integer)) : Has P w K mg base 2 "is_row" P_is_row (spP K pre_is_row) := by
  obtain ⟨f, fd, F, hm, hb⟩ := D
  refine has_of (k := 1) F hm sc_is_row hb (by intro as post h; unfold pre_is_row at h; repeat (first | (obtain ⟨e, _⟩ := h; rw [e]; rfl) | (obtain ⟨_, h⟩ := h))) fun cdv A outer s H E hr => ?_
  refine ⟨_, (pss_cons (ps_if (PW.pt (pw_or (pt_not (pt_val (pe_callB (kIsi (K := K) rfl) (by rfl) T.isinstance_ bb_isinstance (pa_cons (pv 0) (pa_cons (pe_bltn (v := .ty "tuple") (by rfl) T.tuple_ bb_tuple rfl) pa_nil))))) (pw_or1 (pt_cmpR (kNe (K := K) rfl hr.units) (pe_callB (kLen (K := K) rfl) (by rfl) T.len_ bb_len (pa_cons (pv 0) pa_nil)) (pv 1) (nomark _))))) (pss_one (ps_ret pe_bl)) pss_nil)
      (pss_cons (ps_for PassesOwn.never rfl (kiTup (K := K) rfl (pv 0)) (pg_name (i := 4) sc_is_row.nd rfl (Or.inl rfl) (Or.inl rfl)) (pss_one (ps_if (pt_not (pt_val (G_is_integer.pe (hr.mono (by omega)) (by rfl) (pa_cons (pv 4) (pa_cons (pv 2) (pa_cons (pv 3) pa_nil)))))) (pss_one (ps_ret pe_bl)) pss_nil)))
      (pss_one (ps_ret pe_bl)))), ?_⟩
  rintro as post g ⟨r, m, lo, hi, rfl, hm', hl, hr', hpost⟩
  walk_at "init"
  walk_at "go"
  refine ⟨fun h => by simp at h, fun _ => ?_⟩
  walk_at "go"
  refine ⟨fun h => by simp [hm'] at h, fun _ => ?_⟩
  walk_at "go"
  refine ws_for (wi_tup ?_)
  walk_at "go"
  refine ⟨fun i F' δ' M' => ∃ r4, δ' = [some (.im (.tup (r.map Dt.int))), some (.im (.int m)), some (.im (.int lo)), some (.im (.int hi)), r4] ∧ M' = [], ⟨_, rfl, rfl⟩, fun _ _ _ _ _ _ => trivial, ?_, ?_⟩
  · rintro i x F' δ' M' hi' ⟨d, hd, rfl⟩ ⟨r4, rfl, rfl⟩
    have hi2 : i < r.length := by simpa using hi'
    rw [List.getElem?_map, List.getElem?_eq_getElem hi2] at hd
    cases hd
    have hb := hr' r[i] (List.getElem_mem hi2)
    walk_at "go"
    refine ⟨_, .cons (.im _) (.cons (.im _) (.cons (.im _) .nil)), _, lo, hi, rfl, hb.1, hb.2, ?_⟩
    refine ⟨_, rfl, (fun h => by simp at h), fun _ => ?_⟩
    walk_at "go"
    rfl
  · rintro F' δ' M' ⟨r4, rfl, rfl⟩
    walk_at "go"
    exact .inl ⟨_, rfl, hpost⟩
def pre_is_even (as : List AV) (post : BV → Prop) : Prop := ∃ (n : Net) (f : List Int), as = [.im (netD n), .im (.tup (f.map Dt.int))] ∧ n.ok ∧ f.length = n.rs.length ∧ evenF n (fn f) ∧ post (.im (.bl true))
theorem has_is_even (D : Df K mg "is_even" s_is_even P_is_even) (T : Tx mg) : Has P w K mg base 1 "is_even" P_is_even (spP K pre_is_even) := by
  obtain ⟨f, fd, F, hm, hb⟩ := D
  refine has_of (k := 0) F hm sc_is_even hb (by intro as post h; unfold pre_is_even at h; repeat (first | (obtain ⟨e, _⟩ := h; rw [e]; rfl) | (obtain ⟨_, h⟩ := h))) fun cdv A outer s H E hr => ?_
  refine ⟨_, (pss_cons (ps_set (i := 2) sc_is_even.nd rfl (Or.inl rfl) (pe_op (kMul (K := K) rfl) (pe_lst (pa_cons pe_int pa_nil)) (pe_callB (kLen (K := K) rfl) (by rfl) T.len_ bb_len (pa_cons (pe_ix (kIx (K := K) rfl) (pv 0) pe_int (fun _ _ => rfl)) pa_nil))))
      (pss_cons (ps_for PassesOwn.never rfl (kiZip (K := K) rfl (by rfl) T.zip_ (pa_cons (pe_ix (kIx (K := K) rfl) (pv 0) pe_int (fun _ _ => rfl)) (pa_cons (pv 1) pa_nil))) (kgTup (K := K) (n := 2) rfl rfl (pgs_cons (pg_name (i := 3) sc_is_even.nd rfl (Or.inl rfl) (Or.inl rfl)) (pgs_cons (pg_name (i := 4) sc_is_even.nd rfl (Or.inl rfl) (Or.inl rfl)) pgs_nil))) (pss_cons (ps_asg (pe_op op_subI (pe_ix (kIx (K := K) rfl) (pv 2) (pe_ix (kIx (K := K) rfl) (pv 3) pe_int (fun _ _ => rfl)) (fun _ _ => rfl)) (pv 4)) (pg_sub (pv 2) (pe_ix (kIx (K := K) rfl) (pv 3) pe_int (fun _ _ => rfl)) set_list))
      (pss_one (ps_asg (pe_op (kAdd (K := K) rfl) (pe_ix (kIx (K := K) rfl) (pv 2) (pe_ix (kIx (K := K) rfl) (pv 3) pe_int (fun _ _ => rfl)) (fun _ _ => rfl)) (pv 4)) (pg_sub (pv 2) (pe_ix (kIx (K := K) rfl) (pv 3) pe_int (fun _ _ => rfl)) set_list)))))
      (pss_one (ps_ret (pe_cmpR (kEq (K := K) rfl hr.units) (pv 2) (pe_op (kMul (K := K) rfl) (pe_lst (pa_cons pe_int pa_nil)) (pe_callB (kLen (K := K) rfl) (by rfl) T.len_ bb_len (pa_cons (pv 2) pa_nil))) (nomark _)))))), ?_⟩
  rintro as post g ⟨n, f, rfl, ok, hf, hev, hpost⟩
  walk_at "init"
  walk_at "go"
  intro a
  walk_at "go"
  rw [List.length_map]
  refine rr_rep1 List.mem_cons_self rfl (by have := ok.n2; omega) fun b => ?_
  rw [exL_zero (f := fn f)]
  walk_at "go"
  refine ws_for (wi_zipt ?_)
  walk_at "go"
  have hn : min (n.rs.map rdD).length (f.map Dt.int).length = n.rs.length := by simp [hf]
  refine ⟨_, _, rfl, rfl, ?_⟩
  rw [hn]
  refine ⟨fun i F' δ' M' => ∃ r3 r4, δ' = [some (.im (netD n)), some (.im (.tup (f.map Dt.int))), some (.ad (.ref b)), r3, r4] ∧ M' = [(b, (exL n (fn f) i).map Dt.int), (a, [.int 0])], ⟨_, _, rfl, rfl⟩, fun _ _ _ _ _ _ => trivial, ?_, ?_⟩
  · rintro i x F' δ' M' hi ⟨d, d2, hd, hd2, rfl⟩ ⟨r3, r4, rfl, rfl⟩
    obtain ⟨_, rfl⟩ := rds_get hd
    rw [List.getElem?_map, List.getElem?_eq_getElem (by omega)] at hd2
    cases hd2
    have ha := ok.ai hi
    have hb := ok.bi hi
    have e0 : f[i]'(by omega) = fn f i := by unfold fn; rw [List.getD_eq_getElem?_getD, List.getElem?_eq_getElem (by omega)]; rfl
    have i1 := at_int (h := exL n (fn f) i) (i := (n.rd i).a) (by simp only [exL_len]; exact ha)
    walk_at "go"
    walk_at "seti0"
    · rw [exL_len]; exact ha
    have i2 := at_int (h := (exL n (fn f) i).set (n.rd i).a ((exL n (fn f) i).getD (n.rd i).a 0 - f[i]'(by omega))) (i := (n.rd i).b) (by simp only [List.length_set, exL_len]; exact hb)
    walk_at "go"
    walk_at "seti0"
    · rw [List.length_set, exL_len]; exact hb
    refine ⟨_, _, rfl, ?_⟩
    rw [← exL_step2 ok hi e0]
    rfl
  · rintro F' δ' M' ⟨r3, r4, rfl, rfl⟩
    walk_at "go"
    intro c
    walk_at "go"
    rw [List.length_map, exL_len]
    refine rr_rep1 List.mem_cons_self rfl (by have := ok.n2; omega) fun m => ?_
    refine rr_eqL lk2 lk0 oks_ints (fun x hx => ?_) (fun _ => .inl ⟨_, rfl, hpost⟩) (fun h => absurd ?_ h)
    · rw [List.eq_of_mem_replicate hx]; exact ok_int
    · refine List.ext_getElem? fun v => ?_
      rw [List.getElem?_map, List.getElem?_replicate]
      by_cases hv : v < n.names.length
      · rw [if_pos hv]
        unfold exL
        rw [List.getElem?_map, List.getElem?_range hv]
        show some (Dt.int (ex n (fn f) n.rs.length v)) = _
        rw [hev v hv]
      · rw [if_neg hv, List.getElem?_eq_none (by rw [exL_len]; omega)]; rfl
def pre_worth (as : List AV) (post : BV → Prop) : Prop := ∃ (n : Net) (f : List Int), as = [.im (netD n), .im (.tup (f.map Dt.int))] ∧ n.ok ∧ f.length = n.rs.length ∧ (∀ x ∈ f, -1 ≤ x ∧ x ≤ 1) ∧ post (.im (.int (worthF n (fn f))))
theorem has_worth (D : Df K mg "worth" s_worth P_worth) (T : Tx mg) : Has P w K mg base 1 "worth" P_worth (spP K pre_worth) := by
  obtain ⟨f, fd, F, hm, hb⟩ := D
  refine has_of (k := 0) F hm sc_worth hb (by intro as post h; unfold pre_worth at h; repeat (first | (obtain ⟨e, _⟩ := h; rw [e]; rfl) | (obtain ⟨_, h⟩ := h))) fun cdv A outer s H E hr => ?_
  refine ⟨_, (pss_one (ps_ret (pe_callB (kSum (K := K) rfl rfl) (by rfl) T.sum_ bb_sum (pa_cons (pe_lc (own := [("reading", 2), ("unit", 3)]) rfl sc_worth.nd (kiZip (K := K) rfl (by rfl) T.zip_ (pa_cons (pe_ix (kIx (K := K) rfl) (pv 0) pe_int (fun _ _ => rfl)) (pa_cons (pv 1) pa_nil))) (blkOk_by (own := [("reading", 2), ("unit", 3)]) (N := N_worth) (sc := defScope s_worth) (by decide +kernel)) (fun _ _ _ _ _ => (kgTup (K := K) (n := 2) rfl rfl (pgs_cons (pg_name (i := 2) sc_worth.nd rfl (Or.inl rfl) (Or.inr rfl)) (pgs_cons (pg_name (i := 3) sc_worth.nd rfl (Or.inl rfl) (Or.inr rfl)) pgs_nil)))) (fun _ _ _ _ _ => pts_nil) (fun _ _ _ _ _ => (pe_op (kMul (K := K) rfl) (pe_ix (kIx (K := K) rfl) (pv 2) pe_int (fun _ _ => rfl)) (pv 3)))) pa_nil)))), ?_⟩
  rintro as post g ⟨n, f, rfl, ok, hf, hfb, hpost⟩
  walk_at "init"
  walk_at "go"
  refine we_lcp (fun _ => true) (fun i => .int ((n.rd i).v * fn f i)) (wi_zipt ?_)
  walk_at "go"
  have hn : min (n.rs.map rdD).length (f.map Dt.int).length = n.rs.length := by simp [hf]
  refine ⟨_, _, rfl, rfl, ?_⟩
  rw [hn]
  refine ⟨by have := ok.m2; omega, fun _ => trivial, fun i r F' hi ⟨d, d2, hd, hd2, hr⟩ => ?_, fun a F' hl => ?_⟩
  · obtain ⟨_, rfl⟩ := rds_get hd
    rw [List.getElem?_map, List.getElem?_eq_getElem (by omega)] at hd2
    cases hd2
    subst hr
    have e0 : f[i]'(by omega) = fn f i := by unfold fn; rw [List.getD_eq_getElem?_getD, List.getElem?_eq_getElem (by omega)]; rfl
    have hb := hfb (f[i]'(by omega)) (List.getElem_mem _)
    refine ⟨_, gn_tup rfl (gns_cons (gns_cons gns_nil)), wt_yes ⟨rfl, List.Sublist.refl _, fun _ => ?_⟩⟩
    walk_at "go"
    refine rr_mul (.inr (by omega)) ?_
    rw [e0]
    exact ⟨rfl, List.Sublist.refl _⟩
  · walk_at "go"
    refine rc_sum (ns := n.row fun i => (n.rd i).v * fn f i) ?_ ?_
    · rw [ixs_all, row_map]
      exact lk0
    · exact .inl ⟨_, rfl, hpost⟩
def pre_are_heights (as : List AV) (post : BV → Prop) : Prop := ∃ (n : Net) (h : List Int), as = [.im (netD n), .im (.tup (h.map Dt.int))] ∧ n.ok ∧ h.length = n.names.length ∧ h.getD 0 0 = 0 ∧ post (.im (.bl true))
theorem has_are_heights (D : Df K mg "are_heights" s_are_heights P_are_heights) (T : Tx mg) : Has P w K mg base 1 "are_heights" P_are_heights (spP K pre_are_heights) := by
  obtain ⟨f, fd, F, hm, hb⟩ := D
  refine has_of (k := 0) F hm sc_are_heights hb (by intro as post h; unfold pre_are_heights at h; repeat (first | (obtain ⟨e, _⟩ := h; rw [e]; rfl) | (obtain ⟨_, h⟩ := h))) fun cdv A outer s H E hr => ?_
  refine ⟨_, (pss_cons (ps_if (PW.pt (pw_or (pt_not (pt_val (pe_callB (kIsi (K := K) rfl) (by rfl) T.isinstance_ bb_isinstance (pa_cons (pv 1) (pa_cons (pe_bltn (v := .ty "tuple") (by rfl) T.tuple_ bb_tuple rfl) pa_nil))))) (pw_or1 (pt_cmpR (kNe (K := K) rfl hr.units) (pe_callB (kLen (K := K) rfl) (by rfl) T.len_ bb_len (pa_cons (pv 1) pa_nil)) (pe_callB (kLen (K := K) rfl) (by rfl) T.len_ bb_len (pa_cons (pe_ix (kIx (K := K) rfl) (pv 0) pe_int (fun _ _ => rfl)) pa_nil)) (nomark _))))) (pss_one (ps_ret pe_bl)) pss_nil)
      (pss_cons (ps_for PassesOwn.never rfl (kiTup (K := K) rfl (pv 1)) (pg_name (i := 2) sc_are_heights.nd rfl (Or.inl rfl) (Or.inl rfl)) (pss_one (ps_if (PW.pt (pw_or (pt_not (pt_val (pe_callB (kIsi (K := K) rfl) (by rfl) T.isinstance_ bb_isinstance (pa_cons (pv 2) (pa_cons (pe_bltn (v := .ty "int") (by rfl) T.int_ bb_int rfl) pa_nil))))) (pw_or1 (pt_val (pe_callB (kIsi (K := K) rfl) (by rfl) T.isinstance_ bb_isinstance (pa_cons (pv 2) (pa_cons (pe_bltn (v := .ty "bool") (by rfl) T.bool_ bb_bool rfl) pa_nil))))))) (pss_one (ps_ret pe_bl)) pss_nil)))
      (pss_one (ps_ret (pe_cmpR (kEq (K := K) rfl hr.units) (pe_ix (kIx (K := K) rfl) (pv 1) pe_int (fun _ _ => rfl)) pe_int (nomark _)))))), ?_⟩
  rintro as post g ⟨n, h, rfl, ok, hl, h0, hpost⟩
  walk_at "init"
  walk_at "go"
  refine ⟨fun h => by simp at h, fun _ => ?_⟩
  walk_at "go"
  refine ⟨fun h' => by simp [hl] at h', fun _ => ?_⟩
  walk_at "go"
  refine ws_for (wi_tup ?_)
  walk_at "go"
  refine ⟨fun i F' δ' M' => ∃ r2, δ' = [some (.im (netD n)), some (.im (.tup (h.map Dt.int))), r2] ∧ M' = [], ⟨_, rfl, rfl⟩, fun _ _ _ _ _ _ => trivial, ?_, ?_⟩
  · rintro i x F' δ' M' hi ⟨d, hd, rfl⟩ ⟨r2, rfl, rfl⟩
    have hi2 : i < h.length := by simpa using hi
    rw [List.getElem?_map, List.getElem?_eq_getElem hi2] at hd
    cases hd
    walk_at "go"
    refine ⟨fun h => by simp at h, fun _ => ?_⟩
    walk_at "go"
    refine ⟨fun h => by simp at h, fun _ => ?_⟩
    walk_at "go"
    rfl
  · rintro F' δ' M' ⟨r2, rfl, rfl⟩
    have hh : atI (h.map Dt.int) 0 = some (.int (h.getD 0 0)) := at_int (h := h) (i := 0) (by have := ok.n1; omega)
    rw [h0] at hh
    walk_at "go"
    exact .inl ⟨_, rfl, hpost⟩
def pre_judge_best (as : List AV) (post : BV → Prop) : Prop := ∃ (n : Net) (h f : List Int), as = [.im (netD n), .im (.tup (h.map Dt.int)), .im (.tup (f.map Dt.int))] ∧ n.ok ∧ h.length = n.names.length ∧ h.getD 0 0 = 0 ∧ f.length = n.rs.length ∧ (∀ x ∈ f, -1 ≤ x ∧ x ≤ 1) ∧ evenF n (fn f) ∧ n.cost h = worthF n (fn f) ∧ post (.im (.bl true))
theorem has_judge_best (D : Df K mg "judge_best" s_judge_best P_judge_best) (T : Tx mg) (G_are_heights : Has P w K mg base 1 "are_heights" P_are_heights (spP K pre_are_heights)) (G_is_even : Has P w K mg base 1 "is_even" P_is_even (spP K pre_is_even)) (G_is_row : Has P w K mg base 2 "is_row" P_is_row (spP K pre_is_row)) (G_cost : Has P w K mg base 3 "cost" P_cost (spP K pre_cost)) (G_worth : Has P w K mg base 1 "worth" P_worth (spP K pre_worth)) : Has P w K mg base 4 "judge_best" P_judge_best (spP K pre_judge_best) := by
  obtain ⟨f, fd, F, hm, hb⟩ := D
  refine has_of (k := 3) F hm sc_judge_best hb (by intro as post h; unfold pre_judge_best at h; repeat (first | (obtain ⟨e, _⟩ := h; rw [e]; rfl) | (obtain ⟨_, h⟩ := h))) fun cdv A outer s H E hr => ?_
  refine ⟨_, (pss_cons (ps_if (pt_not (pt_val (G_are_heights.pe (hr.mono (by omega)) (by rfl) (pa_cons (pv 0) (pa_cons (pv 1) pa_nil))))) (pss_one (ps_ret pe_bl)) pss_nil)
      (pss_cons (ps_if (PW.pt (pw_or (pt_not (pt_val (G_is_row.pe (hr.mono (by omega)) (by rfl) (pa_cons (pv 2) (pa_cons (pe_callB (kLen (K := K) rfl) (by rfl) T.len_ bb_len (pa_cons (pe_ix (kIx (K := K) rfl) (pv 0) pe_int (fun _ _ => rfl)) pa_nil)) (pa_cons (pe_un un_neg pe_int) (pa_cons pe_int pa_nil))))))) (pw_or1 (pt_not (pt_val (G_is_even.pe (hr.mono (by omega)) (by rfl) (pa_cons (pv 0) (pa_cons (pv 2) pa_nil)))))))) (pss_one (ps_ret pe_bl)) pss_nil)
      (pss_one (ps_ret (pe_cmpR (kEq (K := K) rfl hr.units) (G_cost.pe (hr.mono (by omega)) (by rfl) (pa_cons (pv 0) (pa_cons (pv 1) pa_nil))) (G_worth.pe (hr.mono (by omega)) (by rfl) (pa_cons (pv 0) (pa_cons (pv 2) pa_nil))) (nomark _)))))), ?_⟩
  rintro as post g ⟨n, h, f, rfl, ok, hl, h0, hf, hfb, hev, hcw, hpost⟩
  walk_at "init"
  walk_at "go"
  refine ⟨_, .cons (.im _) (.cons (.im _) .nil), n, h, rfl, ok, hl, h0, ?_⟩
  refine ⟨_, rfl, (fun h => by simp at h), fun _ => ?_⟩
  walk_at "go"
  refine ⟨_, .cons (.im _) (.cons (.im _) (.cons (.im _) (.cons (.im _) .nil))), f, _, _, _, rfl, by simp [hf], by have := ok.m2; omega, hfb, ?_⟩
  refine ⟨_, rfl, (fun h => by simp at h), fun _ => ?_⟩
  walk_at "go"
  refine ⟨_, .cons (.im _) (.cons (.im _) .nil), n, f, rfl, ok, hf, hev, ?_⟩
  refine ⟨_, rfl, (fun h => by simp at h), fun _ => ?_⟩
  walk_at "go"
  refine ⟨_, .cons (.im _) (.cons (.im _) .nil), n, h, rfl, ok, hl, ?_⟩
  walk_at "go"
  refine ⟨_, .cons (.im _) (.cons (.im _) .nil), n, f, rfl, ok, hf, hfb, ?_⟩
  walk_at "go"
  rw [decide_eq_true hcw]
  exact .inl ⟨_, rfl, hpost⟩
end
end TL

set_option Elab.async false
set_option linter.all false
set_option autoImplicit false
set_option maxRecDepth 100000
set_option maxHeartbeats 4000000
namespace TL
open PySem PySem.Spec PyProof.Rows L2
local macro_rules | `(tactic| walk_at "lk") => `(tactic| first | assumption | exact lk0 | exact lk1 | exact lk2 | exact lk3 | exact lk4 | exact lr0 | exact lr1 | exact lkH | exact lkF)
/-! one step of the walk: by the reading's head; all else is left -/
local macro_rules | `(tactic| walk_at "s0") => `(tactic| first
  | with_reducible refine ws_seq ?_
  | with_reducible refine ws_pop0 ?_
  | with_reducible refine ws_append ?_
  | with_reducible refine ws_insert ?_
  | with_reducible refine ws_set ?_
  | with_reducible refine ws_drop ?_
  | with_reducible refine ws_ret ?_
  | with_reducible refine ws_asg ?_
  | with_reducible refine ws_next ?_
  | with_reducible refine wg_name ?_
  | with_reducible refine wgs_nameM ?_
  | with_reducible refine wgs_nilM ?_
  | ((with_reducible refine' wg_tup ?h ?k); (case h => exact rfl))
  | with_reducible refine wg_sub ?_
  | with_reducible refine we_andV ?_
  | with_reducible refine we_notV ?_
  | with_reducible refine rc_isi isi_int ?_
  | with_reducible refine rc_isi isi_intb ?_
  | with_reducible refine rc_isi isi_tup ?_
  | with_reducible refine we_orV ?_
  | with_reducible refine we_chain ?_
  | with_reducible refine we_call ?_
  | with_reducible refine rr_eqI ?_
  | ((with_reducible refine' we_var ?h ?k); (case h => exact rfl))
  | with_reducible refine we_int ?_
  | ((with_reducible refine' we_fNv ?m ?h ?k); (case m => assumption); (case h => exact rfl))
  | ((with_reducible refine' we_fWv ?m ?h ?k); (case m => assumption); (case h => exact rfl))
  | ((with_reducible refine' we_fMv ?m ?h ?k); (case m => assumption); (case h => exact rfl))
  | ((with_reducible refine' we_fHv ?m ?h ?k); (case m => assumption); (case h => exact rfl))
  | ((with_reducible refine' we_fFv ?m ?h ?k); (case m => assumption); (case h => exact rfl))
  | with_reducible refine we_str ?_
  | with_reducible refine we_non ?_
  | with_reducible refine we_bl ?_
  | with_reducible refine we_ty ?_
  | with_reducible refine we_op ?_
  | with_reducible refine we_un ?_
  | with_reducible refine we_neg ?_
  | with_reducible refine we_cb ?_
  | with_reducible refine wa_cons ?_
  | with_reducible refine wa_nil ?_
  | with_reducible refine wt_test ?_
  | with_reducible refine wt_B ?_
  | with_reducible refine wt_yes ?_
  | with_reducible refine wt_not ?_
  | with_reducible refine wt_and ?_
  | with_reducible refine wt_or ?_
  | with_reducible refine rr_add ?_
  | with_reducible refine rr_sub ?_
  | with_reducible refine rr_lt ?_
  | with_reducible refine rr_le ?_
  | with_reducible refine rr_gt ?_
  | with_reducible refine rr_ge ?_
  | with_reducible refine rr_isN ?_
  | with_reducible refine rr_eqI ?_
  | with_reducible refine rr_neI ?_
  | with_reducible refine rr_neB ?_
  | with_reducible refine rr_int ?_
  | with_reducible refine rr_notN ?_
  | with_reducible refine rc_abs ?_
  | with_reducible refine rc_inti ?_
  | with_reducible refine rc_intb ?_
  | with_reducible refine rc_lent ?_
  | ((with_reducible refine' rr_ixt ?h ?k); (case h => first | assumption | exact rfl))
  | ((with_reducible refine' rr_ixl ?l ?h ?k); (case l => walk_at "lk"); (case h => first | assumption | exact rfl))
  | ((with_reducible refine' rc_lenl ?l ?k); (case l => walk_at "lk"))
  | with_reducible refine rc_lstt ?_
  | ((with_reducible refine' rc_lstl ?l ?k); (case l => walk_at "lk"))
  | ((with_reducible refine' rc_tupl ?l ?k); (case l => walk_at "lk"))
  | with_reducible refine we_sl ?_
  | with_reducible refine wo_none ?_
  | with_reducible refine wo_some ?_
  | with_reducible refine we_tup ?_
  | with_reducible refine we_lst ?_
  | refine ⟨[], rfl, Nat.le_of_ble_eq_true rfl, ?_⟩
  | refine ⟨[_], rfl, Nat.le_of_ble_eq_true rfl, ?_⟩
  | refine ⟨[_, _], rfl, Nat.le_of_ble_eq_true rfl, ?_⟩
  | refine ⟨[_, _, _], rfl, Nat.le_of_ble_eq_true rfl, ?_⟩
  | refine ⟨[_, _, _, _], rfl, Nat.le_of_ble_eq_true rfl, ?_⟩
  | refine ⟨[_, _, _, _, _], rfl, Nat.le_of_ble_eq_true rfl, ?_⟩
  | refine ⟨_, rfl, ?_⟩)
local macro_rules | `(tactic| walk_at "init") => `(tactic| simp only [δS, cxK, cxK2, entR, entM, List.map_cons, List.map_nil, List.length_cons, List.length_nil, List.replicate, List.cons_append, List.nil_append, Nat.reduceAdd, Nat.reduceSub])
local macro_rules | `(tactic| walk_at "seti0") => `(tactic| (refine' set_ownI (k := 0) ?hk ?hj ?hi ?hn; (case hk => exact rfl); (case hi => exact rfl)))
local macro_rules | `(tactic| walk_at "set0") => `(tactic| (refine' set_own (k := 0) ?hk ?hj ?hi ?hn; (case hk => exact rfl); (case hi => exact rfl)))
local macro_rules | `(tactic| walk_at "seti1") => `(tactic| (refine' set_ownI (k := 1) ?hk ?hj ?hi ?hn; (case hk => exact rfl); (case hi => exact rfl)))
local macro_rules | `(tactic| walk_at "set1") => `(tactic| (refine' set_own (k := 1) ?hk ?hj ?hi ?hn; (case hk => exact rfl); (case hi => exact rfl)))
local macro_rules | `(tactic| walk_at "seti2") => `(tactic| (refine' set_ownI (k := 2) ?hk ?hj ?hi ?hn; (case hk => exact rfl); (case hi => exact rfl)))
local macro_rules | `(tactic| walk_at "set2") => `(tactic| (refine' set_own (k := 2) ?hk ?hj ?hi ?hn; (case hk => exact rfl); (case hi => exact rfl)))
local macro_rules | `(tactic| walk_at "s1") => `(tactic| first | with_reducible refine ws_if ?_ | walk_at "s0")
local macro_rules | `(tactic| walk_at "gj") => `(tactic| repeat walk_at "s0")
local macro_rules | `(tactic| walk_at "go") => `(tactic| repeat walk_at "s1")
section
variable {P : Program} {w : World} {K : PySem.W.Frag} {mg : Str → Option Value} {base : Heap}
def pre_search (as : List AV) (post : BV → Prop) : Prop := ∃ (n : Net) (f : List Int) (s : Nat), as = [.im (netD n), .ls (f.map Dt.int), .im (.int (s : Int))] ∧ n.ok ∧ f.length = n.rs.length ∧ s < n.names.length ∧ ∀ L, SearchOk n (fn f) s L → post (.ls (L.map entD))
theorem has_search (D : Df K mg "search" s_search P_search) (T : Tx mg) : Has P w K mg base 1 "search" P_search (spP K pre_search) := by
  obtain ⟨f, fd, F, hm, hb⟩ := D
  refine has_of (k := 0) F hm sc_search hb (by intro as post h; unfold pre_search at h; repeat (first | (obtain ⟨e, _⟩ := h; rw [e]; rfl) | (obtain ⟨_, h⟩ := h))) fun cdv A outer s H E hr => ?_
  refine ⟨_, (pss_cons (ps_set (i := 3) sc_search.nd rfl (Or.inl rfl) (pe_op (kMul (K := K) rfl) (pe_lst (pa_cons pe_non pa_nil)) (pe_callB (kLen (K := K) rfl) (by rfl) T.len_ bb_len (pa_cons (pe_ix (kIx (K := K) rfl) (pv 0) pe_int (fun _ _ => rfl)) pa_nil))))
      (pss_cons (ps_asg (pe_tup (pa_cons (pv 2) (pa_cons (pe_un un_neg pe_int) (pa_cons pe_int pa_nil)))) (pg_sub (pv 3) (pv 2) set_list))
      (pss_cons (ps_set (i := 4) sc_search.nd rfl (Or.inl rfl) (pe_lst (pa_cons (pv 2) pa_nil)))
      (pss_cons (ps_while PassesOwn.never (pt_cmpR (kNe (K := K) rfl hr.units) (pv 4) (pe_lst pa_nil) (nomark _)) (pss_cons (ps_set (i := 5) sc_search.nd rfl (Or.inl rfl) (pe_bm PySem.F.plainAttrs_list PySem.F.slot_list_pop PySem.F.type_list_pop mt_popAt (pv 4) (pa_cons pe_int pa_nil)))
      (pss_one (ps_for PassesOwn.never rfl (kiEnum (K := K) rfl (by rfl) T.enumerate_ (pa_cons (pe_ix (kIx (K := K) rfl) (pv 0) pe_int (fun _ _ => rfl)) pa_nil)) (kgTup (K := K) (n := 2) rfl rfl (pgs_cons (pg_name (i := 6) sc_search.nd rfl (Or.inl rfl) (Or.inl rfl)) (pgs_cons (pg_name (i := 7) sc_search.nd rfl (Or.inl rfl) (Or.inl rfl)) pgs_nil))) (pss_cons (ps_asg (pv 7) (kgTup (K := K) (n := 3) rfl rfl (pgs_cons (pg_name (i := 8) sc_search.nd rfl (Or.inl rfl) (Or.inl rfl)) (pgs_cons (pg_name (i := 9) sc_search.nd rfl (Or.inl rfl) (Or.inl rfl)) (pgs_cons (pg_name (i := 10) sc_search.nd rfl (Or.inl rfl) (Or.inl rfl)) pgs_nil)))))
      (pss_cons (ps_if (PW.pt (pw_and (pt_cmpR (kEq (K := K) rfl hr.units) (pv 5) (pv 8) (nomark _)) (pw_and (pt_cmpR op_ltI (pe_ix (kIx (K := K) rfl) (pv 1) (pv 6) (fun _ _ => rfl)) pe_int (nomark _)) (pw_and1 (pt_cmpR op_isNT (pe_ix (kIx (K := K) rfl) (pv 3) (pv 9) (fun _ _ => rfl)) pe_non (nomark _)))))) (pss_cons (ps_asg (pe_tup (pa_cons (pv 5) (pa_cons (pv 6) (pa_cons pe_int pa_nil)))) (pg_sub (pv 3) (pv 9) set_list))
      (pss_one (ps_expr (pe_bm PySem.F.plainAttrs_list PySem.F.slot_list_append PySem.F.type_list_append mt_append (pv 4) (pa_cons (pv 9) pa_nil))))) pss_nil)
      (pss_one (ps_if (PW.pt (pw_and (pt_cmpR (kEq (K := K) rfl hr.units) (pv 5) (pv 9) (nomark _)) (pw_and (pt_cmpR op_gtI (pe_ix (kIx (K := K) rfl) (pv 1) (pv 6) (fun _ _ => rfl)) (pe_un un_neg pe_int) (nomark _)) (pw_and1 (pt_cmpR op_isNT (pe_ix (kIx (K := K) rfl) (pv 3) (pv 8) (fun _ _ => rfl)) pe_non (nomark _)))))) (pss_cons (ps_asg (pe_tup (pa_cons (pv 5) (pa_cons (pv 6) (pa_cons (pe_un un_neg pe_int) pa_nil)))) (pg_sub (pv 3) (pv 8) set_list))
      (pss_one (ps_expr (pe_bm PySem.F.plainAttrs_list PySem.F.slot_list_append PySem.F.type_list_append mt_append (pv 4) (pa_cons (pv 8) pa_nil))))) pss_nil))))))))
      (pss_one (ps_ret (pv 3))))))), ?_⟩
  rintro as post g ⟨n, f, s, rfl, ok, hf, hs, hpost⟩
  walk_at "init"
  walk_at "go"
  intro a
  walk_at "go"
  rw [List.length_map]
  refine rr_rep1 List.mem_cons_self rfl (by have := ok.n2; omega) fun b => ?_
  walk_at "go"
  walk_at "set0"
  · simp [hs]
  walk_at "go"
  intro q
  walk_at "go"
  refine ws_while (fun m F' δ' M' => ∃ L Q r5 r6 r7 r8 r9 r10, δ' = [some (.im (netD n)), some (.ad (.ref (g 1))), some (.im (.int (s : Int))), some (.ad (.ref b)), some (.ad (.ref q)), r5, r6, r7, r8, r9, r10] ∧ M' = [(q, natD Q), (b, L.map entD), (a, [.non])] ∧ Qu n (fn f) s (fun _ => False) L Q m ∧ m ≤ n.names.length) n.names.length ⟨L0 n s, [s], none, none, none, none, none, none, rfl, ?_, qu0 hs, Nat.le_refl _⟩ ?_
  · unfold L0 natD
    rw [List.map_set, List.map_replicate]
    rfl
  rintro m F' δ' M' ⟨L, Q, r5, r6, r7, r8, r9, r10, rfl, rfl, hQ, hmn⟩
  walk_at "go"
  intro e
  walk_at "go"
  refine rr_neN lk1 lk0 (fun hq => ?_) (fun hq => ?_)
  · refine ⟨_, rfl, (fun h => by cases h), fun _ => ?_⟩
    subst hq
    refine ws_weak1 ?_
    walk_at "go"
    exact .inr ⟨_, _, rfl, by simp, hpost L hQ.done⟩
  · refine ⟨_, rfl, fun _ => ?_, (fun h => by cases h)⟩
    obtain ⟨u, Q', rfl⟩ := List.exists_cons_of_ne_nil hq
    obtain ⟨hQ1, hu, hm⟩ := hQ.pop
    refine ws_weak1 ?_
    walk_at "go"
    refine pop_ownN (k := 0) (d := u) (ds := Q') rfl ?_
    walk_at "go"
    refine ws_for (wi_enumt ?_)
    walk_at "go"
    rw [List.length_map]
    refine ⟨fun k F' δ' M' => ∃ L Q r6 r7 r8 r9 r10, δ' = [some (.im (netD n)), some (.ad (.ref (g 1))), some (.im (.int (s : Int))), some (.ad (.ref b)), some (.ad (.ref q)), some (.im (.int (u : Int))), r6, r7, r8, r9, r10] ∧ M' = [(q, natD Q), (b, L.map entD), (a, [.non])] ∧ Qu n (fn f) s (fun v => v = u) L Q (m - 1) ∧ Seen L u ∧ Shut n (fn f) L u k, ⟨_, _, _, _, _, _, _, rfl, rfl, hQ1, hu, fun i _ _ h => absurd h (by omega)⟩, fun _ _ _ _ _ _ => trivial, ?_, ?_⟩
    · rintro k x F' δ' M' hk ⟨d, hd, rfl⟩ ⟨L, Q, r6, r7, r8, r9, r10, rfl, rfl, hQ, hu, hc⟩
      obtain ⟨_, rfl⟩ := rds_get hd
      have ha := ok.ai hk
      have hb := ok.bi hk
      have i1 := at_int (h := f) (i := k) (by omega)
      have i2 := at_ent (L := L) (v := (n.rd k).b) (by rw [hQ.fd.len]; exact hb)
      walk_at "gj"
      refine Ws.mono (N := fun F' δ' M' => ∃ L Q, δ' = [some (.im (netD n)), some (.ad (.ref (g 1))), some (.im (.int (s : Int))), some (.ad (.ref b)), some (.ad (.ref q)), some (.im (.int (u : Int))), some (.im (.int (k : Int))), some (.im (rdD (n.rd k))), some (.im (.int (n.rd k).a)), some (.im (.int (n.rd k).b)), some (.im (.int (n.rd k).v))] ∧ M' = [(q, natD Q), (b, L.map entD), (a, [.non])] ∧ Qu n (fn f) s (fun v => v = u) L Q (m - 1) ∧ Seen L u ∧ Shut n (fn f) L u k ∧ Shut1 n (fn f) L u k 1) ?_ ?_
      · have stay : (∀ v, Res n (fn f) u k 1 v → Seen L v) → ∃ L' Q', ([some (RV.im (netD n)), some (.ad (.ref (g 1))), some (.im (.int (s : Int))), some (.ad (.ref b)), some (.ad (.ref q)), some (.im (.int (u : Int))), some (.im (.int (k : Int))), some (.im (rdD (n.rd k))), some (.im (.int (n.rd k).a)), some (.im (.int (n.rd k).b)), some (.im (.int (n.rd k).v))] : List (Option RV)) = [some (.im (netD n)), some (.ad (.ref (g 1))), some (.im (.int (s : Int))), some (.ad (.ref b)), some (.ad (.ref q)), some (.im (.int (u : Int))), some (.im (.int (k : Int))), some (.im (rdD (n.rd k))), some (.im (.int (n.rd k).a)), some (.im (.int (n.rd k).b)), some (.im (.int (n.rd k).v))] ∧ [(q, natD Q), (b, L.map entD), (a, [.non])] = [(q, natD Q'), (b, L'.map entD), (a, [.non])] ∧ Qu n (fn f) s (fun v => v = u) L' Q' (m - 1) ∧ Seen L' u ∧ Shut n (fn f) L' u k ∧ Shut1 n (fn f) L' u k 1 := fun h1 => ⟨L, Q, rfl, rfl, hQ, hu, hc, h1⟩
        walk_at "go"
        refine ⟨fun c1 => ?_, fun c1 => ⟨(fun h => by cases h), fun _ => ?_⟩⟩
        rotate_left
        · walk_at "go"
          exact stay fun v ⟨_, hr⟩ => by
            rcases hr with ⟨e, _⟩ | ⟨_, _, e, _⟩
            · exact absurd c1 (by simp [e])
            · cases e
        walk_at "go"
        refine ⟨fun c2 => ?_, fun c2 => ⟨(fun h => by cases h), fun _ => ?_⟩⟩
        rotate_left
        · walk_at "go"
          exact stay fun v ⟨_, hr⟩ => by
            rcases hr with ⟨_, _, _, e⟩ | ⟨_, _, e, _⟩
            · exact absurd c2 (by simpa [fn] using e)
            · cases e
        walk_at "go"
        rw [entD_isN]
        refine ⟨fun c3 => ?_, fun c3 => ?_⟩
        rotate_left
        · walk_at "go"
          exact stay fun v ⟨_, hr⟩ => by
            rcases hr with ⟨_, e, _⟩ | ⟨_, _, e, _⟩
            · subst e; exact getD_unseen (by rw [hQ.fd.len]; exact hb) c3
            · cases e
        walk_at "go"
        refine set_own (k := 1) (j := (n.rd k).b) rfl (by rw [List.length_map, hQ.fd.len]; exact hb) rfl ?_
        walk_at "go"
        refine ⟨_, _, rfl, lk0, ?_⟩
        walk_at "go"
        have hv : ¬ Seen L (n.rd k).b := getD_seen (by rw [hQ.fd.len]; exact hb) c3
        have e1 : (n.rd k).a = u := by have := of_decide_eq_true c1; omega
        have e2 : fn f k < 1 := of_decide_eq_true c2
        have hres : Res n (fn f) u k 1 (n.rd k).b := ⟨hk, .inl ⟨e1, rfl, rfl, e2⟩⟩
        refine app_ownN (k := 0) rfl ?_ ?_
        · have := hQ.ct; have := ok.n2; omega
        · refine ⟨L.set (n.rd k).b (some (u, (k : Int), 1)), Q ++ [(n.rd k).b], rfl, ?_, hQ.add ok hu hres hv, seen_set hu, hc.set, fun v hv' => ?_⟩
          · rw [← set_ent]; rfl
          · rcases hv'.2 with ⟨_, e, _⟩ | ⟨_, _, e, _⟩
            · subst e; exact ⟨_, List.getElem?_set_self (by rw [hQ.fd.len]; exact hb)⟩
            · cases e
      · rintro F' δ' M' ⟨L, Q, rfl, rfl, hQ, hu, hc, h1⟩
        have i2 := at_ent (L := L) (v := (n.rd k).a) (by rw [hQ.fd.len]; exact ha)
        walk_at "go"
        refine ⟨fun c1 => ?_, fun c1 => ⟨(fun h => by cases h), fun _ => ?_⟩⟩
        rotate_left
        · walk_at "go"
          exact ⟨L, Q, _, _, _, _, _, rfl, rfl, hQ, hu, hc.more h1 fun v ⟨_, hr⟩ => by
            rcases hr with ⟨_, _, e, _⟩ | ⟨e, _⟩
            · cases e
            · exact absurd c1 (by simp [e])⟩
        walk_at "go"
        refine ⟨fun c2 => ?_, fun c2 => ⟨(fun h => by cases h), fun _ => ?_⟩⟩
        rotate_left
        · walk_at "go"
          exact ⟨L, Q, _, _, _, _, _, rfl, rfl, hQ, hu, hc.more h1 fun v ⟨_, hr⟩ => by
            rcases hr with ⟨_, _, e, _⟩ | ⟨_, _, _, e⟩
            · cases e
            · exact absurd c2 (by simpa [fn] using e)⟩
        walk_at "go"
        rw [entD_isN]
        refine ⟨fun c3 => ?_, fun c3 => ?_⟩
        rotate_left
        · walk_at "go"
          exact ⟨L, Q, _, _, _, _, _, rfl, rfl, hQ, hu, hc.more h1 fun v ⟨_, hr⟩ => by
            rcases hr with ⟨_, _, e, _⟩ | ⟨_, e, _⟩
            · cases e
            · subst e; exact getD_unseen (by rw [hQ.fd.len]; exact ha) c3⟩
        walk_at "go"
        refine set_own (k := 1) (j := (n.rd k).a) rfl (by rw [List.length_map, hQ.fd.len]; exact ha) rfl ?_
        walk_at "go"
        refine ⟨_, _, rfl, lk0, ?_⟩
        walk_at "go"
        have hv : ¬ Seen L (n.rd k).a := getD_seen (by rw [hQ.fd.len]; exact ha) c3
        have e1 : (n.rd k).b = u := by have := of_decide_eq_true c1; omega
        have e2 : -1 < fn f k := of_decide_eq_true c2
        have hres : Res n (fn f) u k (-1) (n.rd k).a := ⟨hk, .inr ⟨e1, rfl, rfl, e2⟩⟩
        refine app_ownN (k := 0) rfl ?_ ?_
        · have := hQ.ct; have := ok.n2; omega
        · refine ⟨L.set (n.rd k).a (some (u, (k : Int), -1)), Q ++ [(n.rd k).a], _, _, _, _, _, rfl, ?_, hQ.add ok hu hres hv, seen_set hu, hc.set.more h1.set fun v hv' => ?_⟩
          · rw [← set_ent]; rfl
          · rcases hv'.2 with ⟨_, _, e, _⟩ | ⟨_, e, _⟩
            · cases e
            · subst e; exact ⟨_, List.getElem?_set_self (by rw [hQ.fd.len]; exact ha)⟩
    · rintro F' δ' M' ⟨L, Q, r6, r7, r8, r9, r10, rfl, rfl, hQ, hu, hc⟩
      exact ⟨m - 1, hm, _, _, _, _, _, _, _, _, rfl, rfl, hQ.shut hc, by omega⟩
end
end TL

set_option Elab.async false
set_option linter.all false
set_option autoImplicit false
set_option maxRecDepth 100000
set_option maxHeartbeats 4000000
namespace TL
open PySem PySem.Spec PyProof.Rows L2
local macro_rules | `(tactic| walk_at "lk") => `(tactic| first | assumption | exact lk0 | exact lk1 | exact lk2 | exact lk3 | exact lk4 | exact lr0 | exact lr1 | exact lkH | exact lkF)
/-! one step of the walk: by the reading's head; all else is left -/
local macro_rules | `(tactic| walk_at "s0") => `(tactic| first
  | with_reducible refine ws_seq ?_
  | with_reducible refine ws_pop0 ?_
  | with_reducible refine ws_append ?_
  | with_reducible refine ws_insert ?_
  | with_reducible refine ws_set ?_
  | with_reducible refine ws_drop ?_
  | with_reducible refine ws_ret ?_
  | with_reducible refine ws_asg ?_
  | with_reducible refine ws_next ?_
  | with_reducible refine wg_name ?_
  | with_reducible refine wgs_nameM ?_
  | with_reducible refine wgs_nilM ?_
  | ((with_reducible refine' wg_tup ?h ?k); (case h => exact rfl))
  | with_reducible refine wg_sub ?_
  | with_reducible refine we_andV ?_
  | with_reducible refine we_notV ?_
  | with_reducible refine rc_isi isi_int ?_
  | with_reducible refine rc_isi isi_intb ?_
  | with_reducible refine rc_isi isi_tup ?_
  | with_reducible refine we_orV ?_
  | with_reducible refine we_chain ?_
  | with_reducible refine we_call ?_
  | with_reducible refine rr_eqI ?_
  | ((with_reducible refine' we_var ?h ?k); (case h => exact rfl))
  | with_reducible refine we_int ?_
  | ((with_reducible refine' we_fNv ?m ?h ?k); (case m => assumption); (case h => exact rfl))
  | ((with_reducible refine' we_fWv ?m ?h ?k); (case m => assumption); (case h => exact rfl))
  | ((with_reducible refine' we_fMv ?m ?h ?k); (case m => assumption); (case h => exact rfl))
  | ((with_reducible refine' we_fHv ?m ?h ?k); (case m => assumption); (case h => exact rfl))
  | ((with_reducible refine' we_fFv ?m ?h ?k); (case m => assumption); (case h => exact rfl))
  | with_reducible refine we_str ?_
  | with_reducible refine we_non ?_
  | with_reducible refine we_bl ?_
  | with_reducible refine we_ty ?_
  | with_reducible refine we_op ?_
  | with_reducible refine we_un ?_
  | with_reducible refine we_neg ?_
  | with_reducible refine we_cb ?_
  | with_reducible refine wa_cons ?_
  | with_reducible refine wa_nil ?_
  | with_reducible refine wt_test ?_
  | with_reducible refine wt_B ?_
  | with_reducible refine wt_yes ?_
  | with_reducible refine wt_not ?_
  | with_reducible refine wt_and ?_
  | with_reducible refine wt_or ?_
  | with_reducible refine rr_add ?_
  | with_reducible refine rr_sub ?_
  | with_reducible refine rr_lt ?_
  | with_reducible refine rr_le ?_
  | with_reducible refine rr_gt ?_
  | with_reducible refine rr_ge ?_
  | with_reducible refine rr_isN ?_
  | with_reducible refine rr_eqI ?_
  | with_reducible refine rr_neI ?_
  | with_reducible refine rr_neB ?_
  | with_reducible refine rr_int ?_
  | with_reducible refine rr_notN ?_
  | with_reducible refine rc_abs ?_
  | with_reducible refine rc_inti ?_
  | with_reducible refine rc_intb ?_
  | with_reducible refine rc_lent ?_
  | ((with_reducible refine' rr_ixt ?h ?k); (case h => first | assumption | exact rfl))
  | ((with_reducible refine' rr_ixl ?l ?h ?k); (case l => walk_at "lk"); (case h => first | assumption | exact rfl))
  | ((with_reducible refine' rc_lenl ?l ?k); (case l => walk_at "lk"))
  | with_reducible refine rc_lstt ?_
  | ((with_reducible refine' rc_lstl ?l ?k); (case l => walk_at "lk"))
  | ((with_reducible refine' rc_tupl ?l ?k); (case l => walk_at "lk"))
  | with_reducible refine we_sl ?_
  | with_reducible refine wo_none ?_
  | with_reducible refine wo_some ?_
  | with_reducible refine we_tup ?_
  | with_reducible refine we_lst ?_
  | refine ⟨[], rfl, Nat.le_of_ble_eq_true rfl, ?_⟩
  | refine ⟨[_], rfl, Nat.le_of_ble_eq_true rfl, ?_⟩
  | refine ⟨[_, _], rfl, Nat.le_of_ble_eq_true rfl, ?_⟩
  | refine ⟨[_, _, _], rfl, Nat.le_of_ble_eq_true rfl, ?_⟩
  | refine ⟨[_, _, _, _], rfl, Nat.le_of_ble_eq_true rfl, ?_⟩
  | refine ⟨[_, _, _, _, _], rfl, Nat.le_of_ble_eq_true rfl, ?_⟩
  | refine ⟨_, rfl, ?_⟩)
local macro_rules | `(tactic| walk_at "init") => `(tactic| simp only [δS, cxK, cxK2, entR, entM, List.map_cons, List.map_nil, List.length_cons, List.length_nil, List.replicate, List.cons_append, List.nil_append, Nat.reduceAdd, Nat.reduceSub])
local macro_rules | `(tactic| walk_at "seti0") => `(tactic| (refine' set_ownI (k := 0) ?hk ?hj ?hi ?hn; (case hk => exact rfl); (case hi => exact rfl)))
local macro_rules | `(tactic| walk_at "set0") => `(tactic| (refine' set_own (k := 0) ?hk ?hj ?hi ?hn; (case hk => exact rfl); (case hi => exact rfl)))
local macro_rules | `(tactic| walk_at "seti1") => `(tactic| (refine' set_ownI (k := 1) ?hk ?hj ?hi ?hn; (case hk => exact rfl); (case hi => exact rfl)))
local macro_rules | `(tactic| walk_at "set1") => `(tactic| (refine' set_own (k := 1) ?hk ?hj ?hi ?hn; (case hk => exact rfl); (case hi => exact rfl)))
local macro_rules | `(tactic| walk_at "seti2") => `(tactic| (refine' set_ownI (k := 2) ?hk ?hj ?hi ?hn; (case hk => exact rfl); (case hi => exact rfl)))
local macro_rules | `(tactic| walk_at "set2") => `(tactic| (refine' set_own (k := 2) ?hk ?hj ?hi ?hn; (case hk => exact rfl); (case hi => exact rfl)))
local macro_rules | `(tactic| walk_at "s1") => `(tactic| first | with_reducible refine ws_if ?_ | walk_at "s0")
local macro_rules | `(tactic| walk_at "gj") => `(tactic| repeat walk_at "s0")
local macro_rules | `(tactic| walk_at "go") => `(tactic| repeat walk_at "s1")
section
variable {P : Program} {w : World} {K : PySem.W.Frag} {mg : Str → Option Value} {base : Heap}
def pre_greatest_flow (as : List AV) (post : BV → Prop) : Prop := ∃ (n : Net) (s t : Nat), as = [.im (netD n), .im (.int (s : Int)), .im (.int (t : Int))] ∧ n.ok ∧ s < n.names.length ∧ t < n.names.length ∧ s ≠ t ∧ ∀ f, MaxFlow n s t f → post (.ls (f.map Dt.int))
theorem has_greatest_flow (D : Df K mg "greatest_flow" s_greatest_flow P_greatest_flow) (T : Tx mg) (G_search : Has P w K mg base 1 "search" P_search (spP K pre_search)) : Has P w K mg base 2 "greatest_flow" P_greatest_flow (spP K pre_greatest_flow) := by
  obtain ⟨f, fd, F, hm, hb⟩ := D
  refine has_of (k := 1) F hm sc_greatest_flow hb (by intro as post h; unfold pre_greatest_flow at h; repeat (first | (obtain ⟨e, _⟩ := h; rw [e]; rfl) | (obtain ⟨_, h⟩ := h))) fun cdv A outer s H E hr => ?_
  refine ⟨_, (pss_cons (ps_set (i := 3) sc_greatest_flow.nd rfl (Or.inl rfl) (pe_op (kMul (K := K) rfl) (pe_lst (pa_cons pe_int pa_nil)) (pe_callB (kLen (K := K) rfl) (by rfl) T.len_ bb_len (pa_cons (pe_ix (kIx (K := K) rfl) (pv 0) pe_int (fun _ _ => rfl)) pa_nil))))
      (pss_cons (ps_set (i := 4) sc_greatest_flow.nd rfl (Or.inl rfl) (G_search.pe (hr.mono (by omega)) (by rfl) (pa_cons (pv 0) (pa_cons (pv 3) (pa_cons (pv 1) pa_nil)))))
      (pss_cons (ps_while PassesOwn.never (pt_cmpR op_notNT (pe_ix (kIx (K := K) rfl) (pv 4) (pv 2) (fun _ _ => rfl)) pe_non (nomark _)) (pss_cons (ps_set (i := 5) sc_greatest_flow.nd rfl (Or.inl rfl) (pv 2))
      (pss_cons (ps_while PassesOwn.never (pt_cmpR (kNe (K := K) rfl hr.units) (pv 5) (pv 1) (nomark _)) (pss_cons (ps_asg (pe_ix (kIx (K := K) rfl) (pv 4) (pv 5) (fun _ _ => rfl)) (kgTup (K := K) (n := 3) rfl rfl (pgs_cons (pg_name (i := 6) sc_greatest_flow.nd rfl (Or.inl rfl) (Or.inl rfl)) (pgs_cons (pg_name (i := 7) sc_greatest_flow.nd rfl (Or.inl rfl) (Or.inl rfl)) (pgs_cons (pg_name (i := 8) sc_greatest_flow.nd rfl (Or.inl rfl) (Or.inl rfl)) pgs_nil)))))
      (pss_cons (ps_asg (pe_op (kAdd (K := K) rfl) (pe_ix (kIx (K := K) rfl) (pv 3) (pv 7) (fun _ _ => rfl)) (pv 8)) (pg_sub (pv 3) (pv 7) set_list))
      (pss_one (ps_set (i := 5) sc_greatest_flow.nd rfl (Or.inl rfl) (pv 6))))))
      (pss_one (ps_set (i := 4) sc_greatest_flow.nd rfl (Or.inl rfl) (G_search.pe (hr.mono (by omega)) (by rfl) (pa_cons (pv 0) (pa_cons (pv 3) (pa_cons (pv 1) pa_nil)))))))))
      (pss_one (ps_ret (pv 3)))))), ?_⟩
  rintro as post g ⟨n, s, t, rfl, ok, hs, ht, hst, hpost⟩
  walk_at "init"
  walk_at "go"
  intro a
  walk_at "go"
  rw [List.length_map]
  refine rr_rep1 List.mem_cons_self rfl (by have := ok.m2; omega) fun b => ?_
  walk_at "go"
  have e0 : List.replicate n.rs.length (Dt.int 0) = (List.replicate n.rs.length 0).map Dt.int := by rw [List.map_replicate]
  rw [e0]
  refine ⟨_, .cons (.im _) (.cons (.ls lk0) (.cons (.im _) .nil)), n, List.replicate n.rs.length 0, s, rfl, ok, by simp, hs, fun L hL l => ?_⟩
  refine ws_weak (M' := [(l, L.map entD), (b, (List.replicate n.rs.length 0).map Dt.int)]) (.cons₂ _ (.cons₂ _ (List.nil_sublist _))) ?_
  refine ws_seq (ws_whileW (fun m F' δ' M' => ∃ f L l r5 r6 r7 r8, δ' = [some (.im (netD n)), some (.im (.int (s : Int))), some (.im (.int (t : Int))), some (.ad (.ref b)), some (.ad (.ref l)), r5, r6, r7, r8] ∧ M' = [(l, L.map entD), (b, f.map Dt.int)] ∧ f.length = n.rs.length ∧ Flow n s t (fn f) ∧ SearchOk n (fn f) s L ∧ m = ((n.rs.length : Int) - ex n (fn f) n.rs.length t).toNat) _ ⟨_, .refl _, _, L, l, _, _, _, _, rfl, rfl, by simp, flow0, hL, rfl⟩ ?_)
  rintro m F' δ' M' ⟨f, L, l, r5, r6, r7, r8, rfl, rfl, hfl, hF, hL, hm⟩
  have i1 := at_ent (L := L) (v := t) (by rw [hL.fd.len]; exact ht)
  walk_at "go"
  rw [entD_isN]
  refine ⟨fun c1 => ?_, fun c1 => ?_⟩
  rotate_left
  · walk_at "go"
    exact .inr ⟨_, _, rfl, by simp, hpost f ⟨hfl, hF, L, hL, getD_seen (by rw [hL.fd.len]; exact ht) (by simpa using c1)⟩⟩
  have hseen : Seen L t := getD_unseen (by rw [hL.fd.len]; exact ht) (by simpa using c1)
  obtain ⟨r, cc, _, htree⟩ := hL.fd.rk
  walk_at "go"
  refine ws_while (fun m F' δ' M' => ∃ f' v r6 r7 r8, δ' = [some (.im (netD n)), some (.im (.int (s : Int))), some (.im (.int (t : Int))), some (.ad (.ref b)), some (.ad (.ref l)), some (.im (.int (v : Nat))), r6, r7, r8] ∧ M' = [(l, L.map entD), (b, f'.map Dt.int)] ∧ f'.length = n.rs.length ∧ Back n s t r (fn f) (fn f') v ∧ Seen L v ∧ m = r v) _ ⟨f, t, _, _, _, rfl, rfl, hfl, Back.start hF.l, hseen, rfl⟩ ?_
  rintro m' F' δ' M' ⟨f', v, r6, r7, r8, rfl, rfl, hfl', hB, hv, hm'⟩
  walk_at "go"
  refine ⟨fun c2 => ?_, fun c2 => ?_⟩
  · have hvs : v ≠ s := fun e => by subst e; simp at c2
    obtain ⟨⟨u, i, by'⟩, he⟩ := hv
    obtain ⟨j, rfl, hr, hsu, hlt⟩ := htree v u i by' hvs he
    have i2 := at_ent2 he
    have i3 := at_int (h := f') (i := j) (by rw [hfl']; exact hr.1)
    walk_at "go"
    refine set_ownI (k := 1) (j := j) rfl (by rw [hfl']; exact hr.1) rfl ?_
    walk_at "go"
    exact ⟨r u, by omega, _, u, _, _, _, rfl, rfl, by rw [List.length_set]; exact hfl', by rw [fn_set (by rw [hfl']; exact hr.1)]; exact hB.step ok hr hvs hlt, hsu, rfl⟩
  · have hvs : v = s := by have := of_decide_eq_true (by simpa using c2); omega
    subst hvs
    have hD := hB.done hst hF
    walk_at "go"
    refine ⟨_, .cons (.im _) (.cons (.ls lk1) (.cons (.im _) .nil)), n, f', v, rfl, ok, hfl', hs, fun L' hL' l' => ?_⟩
    have hle := (ex_le (n := n) (v := t) (k := n.rs.length) hD.1.l.b fun i hi => ok.nei hi).2
    have h0 := hD.2
    exact ⟨_, by omega, _, .cons₂ _ (.cons _ (.refl _)), f', L', l', _, _, _, _, rfl, rfl, hfl', hD.1, hL', rfl⟩
end
end TL

set_option Elab.async false
set_option linter.all false
set_option autoImplicit false
set_option maxRecDepth 100000
set_option maxHeartbeats 4000000
namespace TL
open PySem PySem.Spec PyProof.Rows L2
local macro_rules | `(tactic| walk_at "lk") => `(tactic| first | assumption | exact lk0 | exact lk1 | exact lk2 | exact lk3 | exact lk4 | exact lr0 | exact lr1 | exact lkH | exact lkF)
/-! one step of the walk: by the reading's head; all else is left -/
local macro_rules | `(tactic| walk_at "s0") => `(tactic| first
  | with_reducible refine ws_seq ?_
  | with_reducible refine ws_pop0 ?_
  | with_reducible refine ws_append ?_
  | with_reducible refine ws_insert ?_
  | with_reducible refine ws_set ?_
  | with_reducible refine ws_drop ?_
  | with_reducible refine ws_ret ?_
  | with_reducible refine ws_asg ?_
  | with_reducible refine ws_next ?_
  | with_reducible refine wg_name ?_
  | with_reducible refine wgs_nameM ?_
  | with_reducible refine wgs_nilM ?_
  | ((with_reducible refine' wg_tup ?h ?k); (case h => exact rfl))
  | with_reducible refine wg_sub ?_
  | with_reducible refine we_andV ?_
  | with_reducible refine we_notV ?_
  | with_reducible refine rc_isi isi_int ?_
  | with_reducible refine rc_isi isi_intb ?_
  | with_reducible refine rc_isi isi_tup ?_
  | with_reducible refine we_orV ?_
  | with_reducible refine we_chain ?_
  | with_reducible refine we_call ?_
  | with_reducible refine rr_eqI ?_
  | ((with_reducible refine' we_var ?h ?k); (case h => exact rfl))
  | with_reducible refine we_int ?_
  | ((with_reducible refine' we_fNv ?m ?h ?k); (case m => assumption); (case h => exact rfl))
  | ((with_reducible refine' we_fWv ?m ?h ?k); (case m => assumption); (case h => exact rfl))
  | ((with_reducible refine' we_fMv ?m ?h ?k); (case m => assumption); (case h => exact rfl))
  | ((with_reducible refine' we_fHv ?m ?h ?k); (case m => assumption); (case h => exact rfl))
  | ((with_reducible refine' we_fFv ?m ?h ?k); (case m => assumption); (case h => exact rfl))
  | with_reducible refine we_str ?_
  | with_reducible refine we_non ?_
  | with_reducible refine we_bl ?_
  | with_reducible refine we_ty ?_
  | with_reducible refine we_op ?_
  | with_reducible refine we_un ?_
  | with_reducible refine we_neg ?_
  | with_reducible refine we_cb ?_
  | with_reducible refine wa_cons ?_
  | with_reducible refine wa_nil ?_
  | with_reducible refine wt_test ?_
  | with_reducible refine wt_B ?_
  | with_reducible refine wt_yes ?_
  | with_reducible refine wt_not ?_
  | with_reducible refine wt_and ?_
  | with_reducible refine wt_or ?_
  | with_reducible refine rr_add ?_
  | with_reducible refine rr_sub ?_
  | with_reducible refine rr_lt ?_
  | with_reducible refine rr_le ?_
  | with_reducible refine rr_gt ?_
  | with_reducible refine rr_ge ?_
  | with_reducible refine rr_isN ?_
  | with_reducible refine rr_eqI ?_
  | with_reducible refine rr_neI ?_
  | with_reducible refine rr_neB ?_
  | with_reducible refine rr_int ?_
  | with_reducible refine rr_notN ?_
  | with_reducible refine rc_abs ?_
  | with_reducible refine rc_inti ?_
  | with_reducible refine rc_intb ?_
  | with_reducible refine rc_lent ?_
  | ((with_reducible refine' rr_ixt ?h ?k); (case h => first | assumption | exact rfl))
  | ((with_reducible refine' rr_ixl ?l ?h ?k); (case l => walk_at "lk"); (case h => first | assumption | exact rfl))
  | ((with_reducible refine' rc_lenl ?l ?k); (case l => walk_at "lk"))
  | with_reducible refine rc_lstt ?_
  | ((with_reducible refine' rc_lstl ?l ?k); (case l => walk_at "lk"))
  | ((with_reducible refine' rc_tupl ?l ?k); (case l => walk_at "lk"))
  | with_reducible refine we_sl ?_
  | with_reducible refine wo_none ?_
  | with_reducible refine wo_some ?_
  | with_reducible refine we_tup ?_
  | with_reducible refine we_lst ?_
  | refine ⟨[], rfl, Nat.le_of_ble_eq_true rfl, ?_⟩
  | refine ⟨[_], rfl, Nat.le_of_ble_eq_true rfl, ?_⟩
  | refine ⟨[_, _], rfl, Nat.le_of_ble_eq_true rfl, ?_⟩
  | refine ⟨[_, _, _], rfl, Nat.le_of_ble_eq_true rfl, ?_⟩
  | refine ⟨[_, _, _, _], rfl, Nat.le_of_ble_eq_true rfl, ?_⟩
  | refine ⟨[_, _, _, _, _], rfl, Nat.le_of_ble_eq_true rfl, ?_⟩
  | refine ⟨_, rfl, ?_⟩)
local macro_rules | `(tactic| walk_at "init") => `(tactic| simp only [δS, cxK, cxK2, entR, entM, List.map_cons, List.map_nil, List.length_cons, List.length_nil, List.replicate, List.cons_append, List.nil_append, Nat.reduceAdd, Nat.reduceSub])
local macro_rules | `(tactic| walk_at "seti0") => `(tactic| (refine' set_ownI (k := 0) ?hk ?hj ?hi ?hn; (case hk => exact rfl); (case hi => exact rfl)))
local macro_rules | `(tactic| walk_at "set0") => `(tactic| (refine' set_own (k := 0) ?hk ?hj ?hi ?hn; (case hk => exact rfl); (case hi => exact rfl)))
local macro_rules | `(tactic| walk_at "seti1") => `(tactic| (refine' set_ownI (k := 1) ?hk ?hj ?hi ?hn; (case hk => exact rfl); (case hi => exact rfl)))
local macro_rules | `(tactic| walk_at "set1") => `(tactic| (refine' set_own (k := 1) ?hk ?hj ?hi ?hn; (case hk => exact rfl); (case hi => exact rfl)))
local macro_rules | `(tactic| walk_at "seti2") => `(tactic| (refine' set_ownI (k := 2) ?hk ?hj ?hi ?hn; (case hk => exact rfl); (case hi => exact rfl)))
local macro_rules | `(tactic| walk_at "set2") => `(tactic| (refine' set_own (k := 2) ?hk ?hj ?hi ?hn; (case hk => exact rfl); (case hi => exact rfl)))
local macro_rules | `(tactic| walk_at "s1") => `(tactic| first | with_reducible refine ws_if ?_ | walk_at "s0")
local macro_rules | `(tactic| walk_at "gj") => `(tactic| repeat walk_at "s0")
local macro_rules | `(tactic| walk_at "go") => `(tactic| repeat walk_at "s1")
section
variable {P : Program} {w : World} {K : PySem.W.Frag} {mg : Str → Option Value} {base : Heap}
def pre_next_reading (as : List AV) (post : BV → Prop) : Prop := ∃ (n : Net) (f : List Int) (v : Nat), as = [.im (netD n), .ls (f.map Dt.int), .im (.int (v : Int))] ∧ n.ok ∧ f.length = n.rs.length ∧ (∀ i, OutAt n (fn f) v i → post (.im (.int (i : Int)))) ∧ ((∀ i, ¬ OutAt n (fn f) v i) → post (.im (.int (-1))))
theorem has_next_reading (D : Df K mg "next_reading" s_next_reading P_next_reading) (T : Tx mg) : Has P w K mg base 1 "next_reading" P_next_reading (spP K pre_next_reading) := by
  obtain ⟨f, fd, F, hm, hb⟩ := D
  refine has_of (k := 0) F hm sc_next_reading hb (by intro as post h; unfold pre_next_reading at h; repeat (first | (obtain ⟨e, _⟩ := h; rw [e]; rfl) | (obtain ⟨_, h⟩ := h))) fun cdv A outer s H E hr => ?_
  refine ⟨_, (pss_cons (ps_for PassesOwn.never rfl (kiEnum (K := K) rfl (by rfl) T.enumerate_ (pa_cons (pe_ix (kIx (K := K) rfl) (pv 0) pe_int (fun _ _ => rfl)) pa_nil)) (kgTup (K := K) (n := 2) rfl rfl (pgs_cons (pg_name (i := 3) sc_next_reading.nd rfl (Or.inl rfl) (Or.inl rfl)) (pgs_cons (pg_name (i := 4) sc_next_reading.nd rfl (Or.inl rfl) (Or.inl rfl)) pgs_nil))) (pss_one (ps_if (PW.pt (pw_or (PW.pt (pw_and (pt_cmpR (kEq (K := K) rfl hr.units) (pe_ix (kIx (K := K) rfl) (pv 4) pe_int (fun _ _ => rfl)) (pv 2) (nomark _)) (pw_and1 (pt_cmpR (kEq (K := K) rfl hr.units) (pe_ix (kIx (K := K) rfl) (pv 1) (pv 3) (fun _ _ => rfl)) pe_int (nomark _))))) (pw_or1 (PW.pt (pw_and (pt_cmpR (kEq (K := K) rfl hr.units) (pe_ix (kIx (K := K) rfl) (pv 4) pe_int (fun _ _ => rfl)) (pv 2) (nomark _)) (pw_and1 (pt_cmpR (kEq (K := K) rfl hr.units) (pe_ix (kIx (K := K) rfl) (pv 1) (pv 3) (fun _ _ => rfl)) (pe_un un_neg pe_int) (nomark _)))))))) (pss_one (ps_ret (pv 3))) pss_nil)))
      (pss_one (ps_ret (pe_un un_neg pe_int)))), ?_⟩
  rintro as post g ⟨n, f, v, rfl, ok, hf, hyes, hno⟩
  walk_at "init"
  walk_at "go"
  refine ws_for (wi_enumt ?_)
  walk_at "go"
  rw [List.length_map]
  refine ⟨fun k F' δ' M' => ∃ r3 r4, δ' = [some (.im (netD n)), some (.ad (.ref (g 1))), some (.im (.int (v : Int))), r3, r4] ∧ M' = [] ∧ ∀ i, i < k → ¬ OutAt n (fn f) v i, ⟨_, _, rfl, rfl, fun i h => absurd h (by omega)⟩, fun _ _ _ _ _ _ => trivial, ?_, ?_⟩
  · rintro k x F' δ' M' hk ⟨d, hd, rfl⟩ ⟨r3, r4, rfl, rfl, hk0⟩
    obtain ⟨_, rfl⟩ := rds_get hd
    have i1 := at_int (h := f) (i := k) (by omega)
    have more : ¬ OutAt n (fn f) v k → ∀ i, i < k + 1 → ¬ OutAt n (fn f) v i := fun h i hi => by
      by_cases e : i = k
      · rw [e]; exact h
      · exact hk0 i (by omega)
    walk_at "gj"
    refine ws_ifP (B := (decide (((n.rd k).a : Int) = v) && decide (fn f k = 1)) || (decide (((n.rd k).b : Int) = v) && decide (fn f k = -1))) (wp_or (wp_and (wp_test ?_) fun _ => wp_test ?_) fun _ => wp_and (wp_test ?_) fun _ => wp_test ?_) (fun hB => ?_) fun hB => ?_
    all_goals try (walk_at "gj"; exact ⟨rfl, rfl, rfl⟩)
    · walk_at "gj"
      simp [Int.ofNat_inj] at hB
      exact .inl ⟨_, rfl, hyes k ⟨hk, hB⟩⟩
    · walk_at "gj"
      simp [Int.ofNat_inj] at hB
      exact ⟨_, _, rfl, rfl, more fun ho => ho.2.elim (fun h => hB.1 h.1 h.2) fun h => hB.2 h.1 h.2⟩
  · rintro F' δ' M' ⟨r3, r4, rfl, rfl, hk0⟩
    walk_at "go"
    exact .inl ⟨_, rfl, hno fun i ho => hk0 i ho.1 ho⟩
@[reducible] def wayD (w : List Nat) : Dt := .tup (natD w)
def pre_ways_of (as : List AV) (post : BV → Prop) : Prop := ∃ (n : Net) (f : List Int) (s t : Nat), as = [.im (netD n), .ls (f.map Dt.int), .im (.int (s : Int)), .im (.int (t : Int))] ∧ n.ok ∧ s < n.names.length ∧ t < n.names.length ∧ s ≠ t ∧ f.length = n.rs.length ∧ Flow n s t (fn f) ∧ 0 ≤ ex n (fn f) n.rs.length t ∧
  ∀ W : List (List Nat), W.length = (ex n (fn f) n.rs.length t).toNat → post (.im (.tup (W.map wayD)))
theorem has_ways_of (D : Df K mg "ways_of" s_ways_of P_ways_of) (T : Tx mg) (G_next_reading : Has P w K mg base 1 "next_reading" P_next_reading (spP K pre_next_reading)) : Has P w K mg base 2 "ways_of" P_ways_of (spP K pre_ways_of) := by
  obtain ⟨f, fd, F, hm, hb⟩ := D
  refine has_of (k := 1) F hm sc_ways_of hb (by intro as post h; unfold pre_ways_of at h; repeat (first | (obtain ⟨e, _⟩ := h; rw [e]; rfl) | (obtain ⟨_, h⟩ := h))) fun cdv A outer s H E hr => ?_
  refine ⟨_, (pss_cons (ps_set (i := 1) sc_ways_of.nd rfl (Or.inl rfl) (pe_callTy (kLst (K := K) rfl) (by rfl) T.list_ bb_list (pa_cons (pv 1) pa_nil)))
      (pss_cons (ps_set (i := 4) sc_ways_of.nd rfl (Or.inl rfl) (pe_lst pa_nil))
      (pss_cons (ps_while PassesOwn.never (pt_cmpR op_geI (G_next_reading.pe (hr.mono (by omega)) (by rfl) (pa_cons (pv 0) (pa_cons (pv 1) (pa_cons (pv 2) pa_nil)))) pe_int (nomark _)) (pss_cons (ps_set (i := 5) sc_ways_of.nd rfl (Or.inl rfl) (pv 2))
      (pss_cons (ps_set (i := 6) sc_ways_of.nd rfl (Or.inl rfl) (pe_lst pa_nil))
      (pss_cons (ps_while PassesOwn.never (pt_cmpR (kNe (K := K) rfl hr.units) (pv 5) (pv 3) (nomark _)) (pss_cons (ps_set (i := 7) sc_ways_of.nd rfl (Or.inl rfl) (G_next_reading.pe (hr.mono (by omega)) (by rfl) (pa_cons (pv 0) (pa_cons (pv 1) (pa_cons (pv 5) pa_nil)))))
      (pss_cons (ps_asg (pe_ix (kIx (K := K) rfl) (pe_ix (kIx (K := K) rfl) (pv 0) pe_int (fun _ _ => rfl)) (pv 7) (fun _ _ => rfl)) (kgTup (K := K) (n := 3) rfl rfl (pgs_cons (pg_name (i := 8) sc_ways_of.nd rfl (Or.inl rfl) (Or.inl rfl)) (pgs_cons (pg_name (i := 9) sc_ways_of.nd rfl (Or.inl rfl) (Or.inl rfl)) (pgs_cons (pg_name (i := 10) sc_ways_of.nd rfl (Or.inl rfl) (Or.inl rfl)) pgs_nil)))))
      (pss_cons (ps_expr (pe_bm PySem.F.plainAttrs_list PySem.F.slot_list_append PySem.F.type_list_append mt_append (pv 6) (pa_cons (pv 7) pa_nil)))
      (pss_cons (ps_asg pe_int (pg_sub (pv 1) (pv 7) set_list))
      (pss_one (ps_set (i := 5) sc_ways_of.nd rfl (Or.inl rfl) (pe_op op_subI (pe_op (kAdd (K := K) rfl) (pv 8) (pv 9)) (pv 5)))))))))
      (pss_one (ps_expr (pe_bm PySem.F.plainAttrs_list PySem.F.slot_list_append PySem.F.type_list_append mt_append (pv 4) (pa_cons (pe_callTy (kTup (K := K) rfl) (by rfl) T.tuple_ bb_tuple (pa_cons (pv 6) pa_nil)) pa_nil))))))))
      (pss_one (ps_ret (pe_callTy (kTup (K := K) rfl) (by rfl) T.tuple_ bb_tuple (pa_cons (pv 4) pa_nil))))))), ?_⟩
  rintro as post g ⟨n, f, s, t, rfl, ok, hs, ht, hst, hfl, hF, hpos, hpost⟩
  walk_at "init"
  walk_at "go"
  intro a
  walk_at "go"
  intro q
  walk_at "go"
  refine ws_whileW (fun m F' δ' M' => ∃ f' W r5 r6 r7 r8 r9 r10, δ' = [some (.im (netD n)), some (.ad (.ref a)), some (.im (.int (s : Int))), some (.im (.int (t : Int))), some (.ad (.ref q)), r5, r6, r7, r8, r9, r10] ∧ M' = [(q, W.map wayD), (a, f'.map Dt.int)] ∧ f'.length = n.rs.length ∧ Flow n s t (fn f') ∧ 0 ≤ ex n (fn f') n.rs.length t ∧ W.length + (ex n (fn f') n.rs.length t).toNat = (ex n (fn f) n.rs.length t).toNat ∧ m = (ex n (fn f') n.rs.length t).toNat) _ ⟨_, .refl _, f, [], none, none, none, none, none, none, rfl, rfl, hfl, hF, hpos, by simp, rfl⟩ ?_
  rintro m F' δ' M' ⟨f', W, r5, r6, r7, r8, r9, r10, rfl, rfl, hfl', hF', hpos', hW, hm⟩
  walk_at "go"
  have hin := ex_in ok hF'.l (Nat.le_refl _)
  refine ⟨_, .cons (.im _) (.cons (.ls lk1) (.cons (.im _) .nil)), n, f', s, rfl, ok, hfl', fun i ho => ?_, fun hno => ?_⟩
  rotate_left
  · walk_at "go"
    refine ⟨fun h => by simp at h, fun _ => ?_⟩
    walk_at "go"
    have h1 := ex_out ok (Nat.le_refl _) hF'.l.b hno
    have h2 := hF'.st
    exact .inl ⟨_, rfl, hpost W (by have := hin.1; omega)⟩
  walk_at "go"
  refine ⟨fun _ => ?_, fun h => absurd h (by simp)⟩
  have hneg : ex n (fn f') n.rs.length s < 0 := by have := hin.2 i ho.1 ho; omega
  walk_at "go"
  intro l
  walk_at "go"
  refine ws_whileW (fun m' F' δ' M' => ∃ g' way v r7 r8 r9 r10, δ' = [some (.im (netD n)), some (.ad (.ref a)), some (.im (.int (s : Int))), some (.im (.int (t : Int))), some (.ad (.ref q)), some (.im (.int (v : Nat))), some (.ad (.ref l)), r7, r8, r9, r10] ∧ M' = [(l, natD way), (q, W.map wayD), (a, g'.map Dt.int)] ∧ g'.length = n.rs.length ∧ v < n.names.length ∧ Fwd n s (fn f') (fn g') v ∧ way.length + m' ≤ n.rs.length ∧ m' = g'.countP (fun x => decide (x ≠ 0))) _ ⟨_, .refl _, f', [], s, _, _, _, _, rfl, rfl, hfl', hs, Fwd.start hF'.l, by have := List.countP_le_length (p := fun x : Int => decide (x ≠ 0)) (l := f'); show 0 + _ ≤ _; omega, rfl⟩ ?_
  rintro m' F' δ' M' ⟨g', way, v, r7, r8, r9, r10, rfl, rfl, hgl, hv, hG, hle, hm'⟩
  walk_at "go"
  refine ⟨fun c1 => ?_, fun c1 => ?_⟩
  · have hvt : v ≠ t := fun e => by subst e; simp at c1
    walk_at "go"
    refine ⟨_, .cons (.im _) (.cons (.ls lk2) (.cons (.im _) .nil)), n, g', v, rfl, ok, hgl, fun j hj => ?_, fun hno => absurd (hG.out ok hF' hneg hv hvt) (fun ⟨j, hj⟩ => hno j hj)⟩
    have i1 := at_rd (n := n) hj.1
    have hstep := hG.step ok hj
    have hjl : j < g'.length := by rw [hgl]; exact hj.1
    have hnz : fn g' j ≠ 0 := by rcases hj.2 with ⟨_, e⟩ | ⟨_, e⟩ <;> omega
    have hct := cnt_set hjl hnz
    walk_at "go"
    refine ⟨_, _, rfl, lk0, ?_⟩
    walk_at "go"
    refine app_ownN (k := 0) rfl (by have := ok.m2; omega) ?_
    walk_at "go"
    refine set_ownI (k := 2) (j := j) rfl hjl rfl ?_
    walk_at "go"
    rw [otherEnd_int hj]
    refine ⟨m' - 1, by omega, _, .refl _, g'.set j 0, way ++ [j], _, _, _, _, _, rfl, rfl, by rw [List.length_set]; exact hgl, otherEnd_lt ok hj.1, by rw [fn_set hjl]; exact hstep, by rw [List.length_append]; simp; omega, by omega⟩
  · have hvt : v = t := by have := of_decide_eq_true (by simpa using c1); omega
    subst hvt
    have hD := hG.done hst hF'
    have h2 := hF'.st
    walk_at "go"
    refine ⟨_, _, rfl, lk1, ?_⟩
    walk_at "go"
    refine app_own (k := 1) rfl ?_ ?_
    · have := (ex_le (n := n) (v := v) (k := n.rs.length) hF.l.b fun i hi => ok.nei hi).2
      have := ok.m2
      rw [List.length_map]; omega
    have h3 := hD.2
    refine ⟨_, by omega, [(q, (W ++ [way]).map wayD), (a, g'.map Dt.int)], .cons _ ?_, g', W ++ [way], _, _, _, _, _, _, rfl, rfl, hgl, hD.1, by omega, by rw [List.length_append]; simp; omega, rfl⟩
    rw [List.map_append]
    exact .refl _
end
end TL

set_option Elab.async false
set_option linter.all false
set_option autoImplicit false
set_option maxRecDepth 100000
set_option maxHeartbeats 4000000
namespace TL
open PySem PySem.Spec PyProof.Rows L2
local macro_rules | `(tactic| walk_at "lk") => `(tactic| first | assumption | exact lk0 | exact lk1 | exact lk2 | exact lk3 | exact lk4 | exact lr0 | exact lr1 | exact lkH | exact lkF)
/-! one step of the walk: by the reading's head; all else is left -/
local macro_rules | `(tactic| walk_at "s0") => `(tactic| first
  | with_reducible refine ws_seq ?_
  | with_reducible refine ws_pop0 ?_
  | with_reducible refine ws_append ?_
  | with_reducible refine ws_insert ?_
  | with_reducible refine ws_set ?_
  | with_reducible refine ws_drop ?_
  | with_reducible refine ws_ret ?_
  | with_reducible refine ws_asg ?_
  | with_reducible refine ws_next ?_
  | with_reducible refine wg_name ?_
  | with_reducible refine wgs_nameM ?_
  | with_reducible refine wgs_nilM ?_
  | ((with_reducible refine' wg_tup ?h ?k); (case h => exact rfl))
  | with_reducible refine wg_sub ?_
  | with_reducible refine we_andV ?_
  | with_reducible refine we_notV ?_
  | with_reducible refine rc_isi isi_int ?_
  | with_reducible refine rc_isi isi_intb ?_
  | with_reducible refine rc_isi isi_tup ?_
  | with_reducible refine we_orV ?_
  | with_reducible refine we_chain ?_
  | with_reducible refine we_call ?_
  | with_reducible refine rr_eqI ?_
  | ((with_reducible refine' we_var ?h ?k); (case h => exact rfl))
  | with_reducible refine we_int ?_
  | ((with_reducible refine' we_fNv ?m ?h ?k); (case m => assumption); (case h => exact rfl))
  | ((with_reducible refine' we_fWv ?m ?h ?k); (case m => assumption); (case h => exact rfl))
  | ((with_reducible refine' we_fMv ?m ?h ?k); (case m => assumption); (case h => exact rfl))
  | ((with_reducible refine' we_fHv ?m ?h ?k); (case m => assumption); (case h => exact rfl))
  | ((with_reducible refine' we_fFv ?m ?h ?k); (case m => assumption); (case h => exact rfl))
  | with_reducible refine we_str ?_
  | with_reducible refine we_non ?_
  | with_reducible refine we_bl ?_
  | with_reducible refine we_ty ?_
  | with_reducible refine we_op ?_
  | with_reducible refine we_un ?_
  | with_reducible refine we_neg ?_
  | with_reducible refine we_cb ?_
  | with_reducible refine wa_cons ?_
  | with_reducible refine wa_nil ?_
  | with_reducible refine wt_test ?_
  | with_reducible refine wt_B ?_
  | with_reducible refine wt_yes ?_
  | with_reducible refine wt_not ?_
  | with_reducible refine wt_and ?_
  | with_reducible refine wt_or ?_
  | with_reducible refine rr_add ?_
  | with_reducible refine rr_sub ?_
  | with_reducible refine rr_lt ?_
  | with_reducible refine rr_le ?_
  | with_reducible refine rr_gt ?_
  | with_reducible refine rr_ge ?_
  | with_reducible refine rr_isN ?_
  | with_reducible refine rr_eqI ?_
  | with_reducible refine rr_neI ?_
  | with_reducible refine rr_neB ?_
  | with_reducible refine rr_int ?_
  | with_reducible refine rr_notN ?_
  | with_reducible refine rc_abs ?_
  | with_reducible refine rc_inti ?_
  | with_reducible refine rc_intb ?_
  | with_reducible refine rc_lent ?_
  | ((with_reducible refine' rr_ixt ?h ?k); (case h => first | assumption | exact rfl))
  | ((with_reducible refine' rr_ixl ?l ?h ?k); (case l => walk_at "lk"); (case h => first | assumption | exact rfl))
  | ((with_reducible refine' rc_lenl ?l ?k); (case l => walk_at "lk"))
  | with_reducible refine rc_lstt ?_
  | ((with_reducible refine' rc_lstl ?l ?k); (case l => walk_at "lk"))
  | ((with_reducible refine' rc_tupl ?l ?k); (case l => walk_at "lk"))
  | with_reducible refine we_sl ?_
  | with_reducible refine wo_none ?_
  | with_reducible refine wo_some ?_
  | with_reducible refine we_tup ?_
  | with_reducible refine we_lst ?_
  | refine ⟨[], rfl, Nat.le_of_ble_eq_true rfl, ?_⟩
  | refine ⟨[_], rfl, Nat.le_of_ble_eq_true rfl, ?_⟩
  | refine ⟨[_, _], rfl, Nat.le_of_ble_eq_true rfl, ?_⟩
  | refine ⟨[_, _, _], rfl, Nat.le_of_ble_eq_true rfl, ?_⟩
  | refine ⟨[_, _, _, _], rfl, Nat.le_of_ble_eq_true rfl, ?_⟩
  | refine ⟨[_, _, _, _, _], rfl, Nat.le_of_ble_eq_true rfl, ?_⟩
  | refine ⟨_, rfl, ?_⟩)
local macro_rules | `(tactic| walk_at "init") => `(tactic| simp only [δS, cxK, cxK2, entR, entM, List.map_cons, List.map_nil, List.length_cons, List.length_nil, List.replicate, List.cons_append, List.nil_append, Nat.reduceAdd, Nat.reduceSub])
local macro_rules | `(tactic| walk_at "seti0") => `(tactic| (refine' set_ownI (k := 0) ?hk ?hj ?hi ?hn; (case hk => exact rfl); (case hi => exact rfl)))
local macro_rules | `(tactic| walk_at "set0") => `(tactic| (refine' set_own (k := 0) ?hk ?hj ?hi ?hn; (case hk => exact rfl); (case hi => exact rfl)))
local macro_rules | `(tactic| walk_at "seti1") => `(tactic| (refine' set_ownI (k := 1) ?hk ?hj ?hi ?hn; (case hk => exact rfl); (case hi => exact rfl)))
local macro_rules | `(tactic| walk_at "set1") => `(tactic| (refine' set_own (k := 1) ?hk ?hj ?hi ?hn; (case hk => exact rfl); (case hi => exact rfl)))
local macro_rules | `(tactic| walk_at "seti2") => `(tactic| (refine' set_ownI (k := 2) ?hk ?hj ?hi ?hn; (case hk => exact rfl); (case hi => exact rfl)))
local macro_rules | `(tactic| walk_at "set2") => `(tactic| (refine' set_own (k := 2) ?hk ?hj ?hi ?hn; (case hk => exact rfl); (case hi => exact rfl)))
local macro_rules | `(tactic| walk_at "s1") => `(tactic| first | with_reducible refine ws_if ?_ | walk_at "s0")
local macro_rules | `(tactic| walk_at "gj") => `(tactic| repeat walk_at "s0")
local macro_rules | `(tactic| walk_at "go") => `(tactic| repeat walk_at "s1")
section
variable {P : Program} {w : World} {K : PySem.W.Frag} {mg : Str → Option Value} {base : Heap}
def pre_side_of (as : List AV) (post : BV → Prop) : Prop := ∃ (n : Net) (f : List Int), as = [.im (netD n), .ls (f.map Dt.int), .im (.int 0)] ∧ n.ok ∧ f.length = n.rs.length ∧ ∀ L, SearchOk n (fn f) 0 L → post (.im (wayD (ixs n.names.length (unseen L))))
theorem has_side_of (D : Df K mg "side_of" s_side_of P_side_of) (T : Tx mg) (G_search : Has P w K mg base 1 "search" P_search (spP K pre_search)) : Has P w K mg base 2 "side_of" P_side_of (spP K pre_side_of) := by
  obtain ⟨f, fd, F, hm, hb⟩ := D
  refine has_of (k := 1) F hm sc_side_of hb (by intro as post h; unfold pre_side_of at h; repeat (first | (obtain ⟨e, _⟩ := h; rw [e]; rfl) | (obtain ⟨_, h⟩ := h))) fun cdv A outer s H E hr => ?_
  refine ⟨_, (pss_cons (ps_set (i := 3) sc_side_of.nd rfl (Or.inr rfl) (G_search.pe (hr.mono (by omega)) (by rfl) (pa_cons (pv 0) (pa_cons (pv 1) (pa_cons (pv 2) pa_nil)))))
      (pss_cons (ps_setLc (i := 4) (own := [("mark", 5)]) rfl sc_side_of.nd rfl rfl (sw_true rfl rfl rfl (by decide +kernel)) (pi_range1 (by rfl) T.range_ (pa_cons (pe_callB (kLen (K := K) rfl) (by rfl) T.len_ bb_len (pa_cons (pe_ix (kIx (K := K) rfl) (pv 0) pe_int (fun _ _ => rfl)) pa_nil)) pa_nil)) (blkOk_by (own := [("mark", 5)]) (N := N_side_of) (sc := defScope s_side_of) (by decide +kernel)) (fun _ _ _ _ _ => (pg_name (i := 5) sc_side_of.nd rfl (Or.inl rfl) (Or.inr rfl))) (fun _ _ _ _ _ => (pts_one (pt_cmpR op_notNT (pe_ix (kIx (K := K) rfl) (pv 3) (pv 5) (fun _ _ => rfl)) pe_non (nomark _)))) (fun _ _ _ _ _ => (pv 5)))
      (pss_cons (ps_if (pt_cmpR (kIn (K := K) rfl hr.u65) pe_int (pv 4) (by rfl)) (pss_one (ps_setLc (i := 4) (own := [("mark", 5)]) rfl sc_side_of.nd rfl rfl (sw_true rfl rfl rfl (by decide +kernel)) (pi_range1 (by rfl) T.range_ (pa_cons (pe_callB (kLen (K := K) rfl) (by rfl) T.len_ bb_len (pa_cons (pe_ix (kIx (K := K) rfl) (pv 0) pe_int (fun _ _ => rfl)) pa_nil)) pa_nil)) (blkOk_by (own := [("mark", 5)]) (N := N_side_of) (sc := defScope s_side_of) (by decide +kernel)) (fun _ _ _ _ _ => (pg_name (i := 5) sc_side_of.nd rfl (Or.inl rfl) (Or.inr rfl))) (fun _ _ _ _ _ => (pts_one (pt_cmpR op_isNT (pe_ix (kIx (K := K) rfl) (pv 3) (pv 5) (fun _ _ => rfl)) pe_non (nomark _)))) (fun _ _ _ _ _ => (pv 5)))) pss_nil)
      (pss_one (ps_ret (pe_callTy (kTup (K := K) rfl) (by rfl) T.tuple_ bb_tuple (pa_cons (pv 4) pa_nil))))))), ?_⟩
  rintro as post g ⟨n, f, rfl, ok, hfl, hpost⟩
  walk_at "init"
  walk_at "go"
  refine ⟨_, .cons (.im _) (.cons (.ls lr0) (.cons (.im _) .nil)), n, f, 0, rfl, ok, hfl, ok.n1, fun L hL l => ?_⟩
  walk_at "go"
  refine we_lcp (fun v => !unseen L v) (fun v => .int (v : Int)) (wi_rng1 ?_)
  walk_at "go"
  rw [List.length_map]
  refine ⟨by have := ok.n2; omega, by have := ok.n2; omega, fun _ => trivial, fun v r F' hv hr => ?_, fun a F' hl => ?_⟩
  · subst hr
    have i1 := at_ent (L := L) (v := v) (by rw [hL.fd.len]; exact hv)
    refine ⟨_, gn_name, ?_⟩
    walk_at "go"
    rw [entD_isN]
    exact ⟨rfl, .refl _, fun _ => we_var rfl ⟨rfl, .refl _⟩⟩
  · have h0 : unseen L 0 = false := by
      unfold unseen
      rw [List.getD_eq_getElem?_getD, hL.fd.st]; rfl
    walk_at "gj"
    refine ws_ifP (B := true) (wp_test ?_) (fun _ => ?_) (fun h => by cases h)
    · walk_at "gj"
      refine rr_inl (ns := (ixs n.names.length fun v => !unseen L v).map fun v : Nat => (v : Int)) (by rw [List.map_map]; exact lk0) ⟨?_, rfl, rfl⟩
      rw [decide_eq_true]
      exact List.mem_map.mpr ⟨0, mem_ixs.mpr ⟨ok.n1, by rw [h0]; rfl⟩, rfl⟩
    walk_at "gj"
    refine we_lcp (fun v => unseen L v) (fun v => .int (v : Int)) (wi_rng1 ?_)
    walk_at "gj"
    rw [List.length_map]
    refine ⟨by have := ok.n2; omega, by have := ok.n2; omega, fun _ => trivial, fun v r F' hv hr => ?_, fun a F' hl => ?_⟩
    · subst hr
      have i1 := at_ent (L := L) (v := v) (by rw [hL.fd.len]; exact hv)
      refine ⟨_, gn_name, ?_⟩
      walk_at "go"
      rw [entD_isN]
      exact ⟨rfl, .refl _, fun _ => we_var rfl ⟨rfl, .refl _⟩⟩
    · walk_at "gj"
      exact .inl ⟨_, rfl, hpost L hL⟩
@[reducible] def cutD (N : Nat) (x : (Nat → Bool) × List (List Nat)) : Dt := .tup [wayD (ixs N x.1), .tup (x.2.map wayD)]
def pre_least_cut (as : List AV) (post : BV → Prop) : Prop := ∃ (n : Net) (t : Nat), as = [.im (netD n), .im (.int 0), .im (.int (t : Int))] ∧ n.ok ∧ 0 < t ∧ t < n.names.length ∧ ∀ S W, LeastCut n t S W.length → post (.im (cutD n.names.length (S, W)))
theorem has_least_cut (D : Df K mg "least_cut" s_least_cut P_least_cut) (T : Tx mg) (G_greatest_flow : Has P w K mg base 2 "greatest_flow" P_greatest_flow (spP K pre_greatest_flow)) (G_ways_of : Has P w K mg base 2 "ways_of" P_ways_of (spP K pre_ways_of)) (G_side_of : Has P w K mg base 2 "side_of" P_side_of (spP K pre_side_of)) : Has P w K mg base 3 "least_cut" P_least_cut (spP K pre_least_cut) := by
  obtain ⟨f, fd, F, hm, hb⟩ := D
  refine has_of (k := 2) F hm sc_least_cut hb (by intro as post h; unfold pre_least_cut at h; repeat (first | (obtain ⟨e, _⟩ := h; rw [e]; rfl) | (obtain ⟨_, h⟩ := h))) fun cdv A outer s H E hr => ?_
  refine ⟨_, (pss_cons (ps_set (i := 3) sc_least_cut.nd rfl (Or.inl rfl) (G_greatest_flow.pe (hr.mono (by omega)) (by rfl) (pa_cons (pv 0) (pa_cons (pv 1) (pa_cons (pv 2) pa_nil)))))
      (pss_one (ps_ret (pe_tup (pa_cons (G_side_of.pe (hr.mono (by omega)) (by rfl) (pa_cons (pv 0) (pa_cons (pv 3) (pa_cons (pv 1) pa_nil)))) (pa_cons (G_ways_of.pe (hr.mono (by omega)) (by rfl) (pa_cons (pv 0) (pa_cons (pv 3) (pa_cons (pv 1) (pa_cons (pv 2) pa_nil))))) pa_nil)))))), ?_⟩
  rintro as post g ⟨n, t, rfl, ok, h0, ht, hpost⟩
  walk_at "init"
  walk_at "go"
  refine ⟨_, .cons (.im _) (.cons (.im _) (.cons (.im _) .nil)), n, 0, t, rfl, ok, ok.n1, ht, by omega, fun f hf l => ?_⟩
  walk_at "go"
  refine ⟨_, .cons (.im _) (.cons (.ls lk0) (.cons (.im _) .nil)), n, f, rfl, ok, hf.len, fun L hL => ?_⟩
  have hc := least_of ok hf ht hL
  walk_at "go"
  refine ⟨_, .cons (.im _) (.cons (.ls lk0) (.cons (.im _) (.cons (.im _) .nil))), n, f, 0, t, rfl, ok, ok.n1, ht, by omega, hf.len, hf.fl, hc.2, fun W hW => ?_⟩
  walk_at "go"
  rw [← hW] at hc
  exact .inl ⟨_, rfl, hpost (unseen L) W hc.1⟩
def pre_strength_paper (as : List AV) (post : BV → Prop) : Prop := ∃ (n : Net), as = [.im (netD n)] ∧ n.ok ∧ (n.names.length = 1 → post (.im (.tup [.str "strength", .int (-1), .tup [], .tup []]))) ∧
  (n.names.length ≠ 1 → ∀ (c : Nat) S X, MinCut n S c → post (.im (.tup [.str "strength", .int (c : Int), wayD (ixs n.names.length S), X])))
theorem has_strength_paper (D : Df K mg "strength_paper" s_strength_paper P_strength_paper) (T : Tx mg) (G_least_cut : Has P w K mg base 3 "least_cut" P_least_cut (spP K pre_least_cut)) : Has P w K mg base 4 "strength_paper" P_strength_paper (spP K pre_strength_paper) := by
  obtain ⟨f, fd, F, hm, hb⟩ := D
  refine has_of (k := 3) F hm sc_strength_paper hb (by intro as post h; unfold pre_strength_paper at h; repeat (first | (obtain ⟨e, _⟩ := h; rw [e]; rfl) | (obtain ⟨_, h⟩ := h))) fun cdv A outer s H E hr => ?_
  refine ⟨_, (pss_cons (ps_if (pt_cmpR (kEq (K := K) rfl hr.units) (pe_callB (kLen (K := K) rfl) (by rfl) T.len_ bb_len (pa_cons (pe_ix (kIx (K := K) rfl) (pv 0) pe_int (fun _ _ => rfl)) pa_nil)) pe_int (nomark _)) (pss_one (ps_ret (pe_tup (pa_cons pe_str (pa_cons (pe_un un_neg pe_int) (pa_cons (pe_tup pa_nil) (pa_cons (pe_tup pa_nil) pa_nil))))))) pss_nil)
      (pss_cons (ps_setLc (i := 1) (own := [("mark", 4)]) rfl sc_strength_paper.nd rfl rfl (sw_true rfl rfl rfl (by decide +kernel)) (pi_range2 (by rfl) T.range_ (pa_cons pe_int (pa_cons (pe_callB (kLen (K := K) rfl) (by rfl) T.len_ bb_len (pa_cons (pe_ix (kIx (K := K) rfl) (pv 0) pe_int (fun _ _ => rfl)) pa_nil)) pa_nil))) (blkOk_by (own := [("mark", 4)]) (N := N_strength_paper) (sc := defScope s_strength_paper) (by decide +kernel)) (fun _ _ _ _ _ => (pg_name (i := 4) sc_strength_paper.nd rfl (Or.inl rfl) (Or.inr rfl))) (fun _ _ _ _ _ => pts_nil) (fun _ _ _ _ _ => (G_least_cut.pe (hr.mono (by omega)) (by rfl) (pa_cons (pv 0) (pa_cons pe_int (pa_cons (pv 4) pa_nil))))))
      (pss_cons (ps_asg (pe_callB (kMinP (K := K) rfl rfl hr.u65) (by rfl) T.min_ bb_min (pa_cons (pe_lc (own := [("place", 3), ("cut", 5)]) rfl sc_strength_paper.nd (kiEnum (K := K) rfl (by rfl) T.enumerate_ (pa_cons (pv 1) pa_nil)) (blkOk_by (own := [("place", 3), ("cut", 5)]) (N := N_strength_paper) (sc := defScope s_strength_paper) (by decide +kernel)) (fun _ _ _ _ _ => (kgTup (K := K) (n := 2) rfl rfl (pgs_cons (pg_name (i := 3) sc_strength_paper.nd rfl (Or.inl rfl) (Or.inr rfl)) (pgs_cons (pg_name (i := 5) sc_strength_paper.nd rfl (Or.inl rfl) (Or.inr rfl)) pgs_nil)))) (fun _ _ _ _ _ => pts_nil) (fun _ _ _ _ _ => (pe_tup (pa_cons (pe_callB (kLen (K := K) rfl) (by rfl) T.len_ bb_len (pa_cons (pe_ix (kIx (K := K) rfl) (pv 5) pe_int (fun _ _ => rfl)) pa_nil)) (pa_cons (pv 3) pa_nil))))) pa_nil)) (kgTup (K := K) (n := 2) rfl rfl (pgs_cons (pg_name (i := 2) sc_strength_paper.nd rfl (Or.inr rfl) (Or.inl rfl)) (pgs_cons (pg_name (i := 3) sc_strength_paper.nd rfl (Or.inl rfl) (Or.inl rfl)) pgs_nil))))
      (pss_one (ps_ret (pe_tup (pa_cons pe_str (pa_cons (pv 2) (pa_cons (pe_ix (kIx (K := K) rfl) (pe_ix (kIx (K := K) rfl) (pv 1) (pv 3) (fun _ _ => rfl)) pe_int (fun _ _ => rfl)) (pa_cons (pe_callTy (kTup (K := K) rfl) (by rfl) T.tuple_ bb_tuple (pa_cons (pe_lc (own := [("cut", 5)]) rfl sc_strength_paper.nd (kiList (K := K) rfl (pv 1)) (blkOk_by (own := [("cut", 5)]) (N := N_strength_paper) (sc := defScope s_strength_paper) (by decide +kernel)) (fun _ _ _ _ _ => (pg_name (i := 5) sc_strength_paper.nd rfl (Or.inl rfl) (Or.inr rfl))) (fun _ _ _ _ _ => pts_nil) (fun _ _ _ _ _ => (pe_slice (kSlT (K := K) rfl) (pe_ix (kIx (K := K) rfl) (pv 5) pe_int (fun _ _ => rfl)) po_none (po_some (pv 2))))) pa_nil)) pa_nil)))))))))), ?_⟩
  rintro as post g ⟨n, rfl, ok, hone, hmany⟩
  walk_at "init"
  walk_at "gj"
  refine ws_ifP (B := decide (n.names.length = 1)) (wp_test ?_) (fun h1 => ?_) (fun h1 => ?_)
  · walk_at "gj"
    rw [List.length_map]
    exact ⟨bl_iff (by omega), rfl, rfl⟩
  · walk_at "gj"
    exact .inl ⟨_, rfl, hone (of_decide_eq_true h1)⟩
  have hN : n.names.length ≠ 1 := of_decide_eq_false h1
  have hN1 := ok.n1
  have hN2 := ok.n2
  walk_at "gj"
  refine we_lc (wi_rng2 ?_)
  walk_at "gj"
  refine ⟨1, n.names.length - 1, rfl, by rw [List.length_map]; congr 2; omega, by omega, by omega, by omega, by omega, fun i acc F' => ∃ cs, acc = cs.map (cutD n.names.length) ∧ cs.length = i ∧ ∀ j x, cs[j]? = some x → LeastCut n (j + 1) x.1 x.2.length, ⟨[], rfl, rfl, fun j x h => by simp at h⟩, fun _ _ _ _ _ => trivial, fun i r acc F' hi _ hr ⟨cs, he, hcl, hcs⟩ => ?_, fun acc F' _ ⟨cs, he, hcl, hcs⟩ a => ?_⟩
  · subst hr
    refine ⟨_, gn_name, wt_yes ⟨fun _ => ?_, fun h => by cases h⟩⟩
    walk_at "go"
    refine ⟨_, .cons (.im _) (.cons (.im _) (.cons (.im _) .nil)), n, i + 1, by rw [show (1 : Int) + (i : Int) = ((i + 1 : Nat) : Int) by omega], ok, by omega, by omega, fun S W hSW => ?_⟩
    refine ⟨_, rfl, .refl _, cs ++ [(S, W)], by rw [he, List.map_append]; rfl, by rw [List.length_append, hcl]; rfl, fun j x hj => ?_⟩
    rcases Nat.lt_trichotomy j cs.length with z | z | z
    · rw [List.getElem?_append_left z] at hj
      exact hcs j x hj
    · rw [z, List.getElem?_concat_length] at hj
      cases hj
      rw [z, hcl]; exact hSW
    · rw [List.getElem?_eq_none (by rw [List.length_append]; simp; omega)] at hj
      cases hj
  subst he
  walk_at "gj"
  refine we_lcp (fun _ => true) (fun i => pD ((((cs.getD i (fun _ => false, [])).2.length : Nat) : Int), (i : Int))) (wi_enuml ?_)
  walk_at "gj"
  refine ⟨a, _, rfl, lk0, by rw [List.length_map]; omega, fun _ => lk0, fun i r F' hi ⟨d, hd, hr⟩ => ?_, fun b F' hl => ?_⟩
  · have hi' : i < cs.length := by simpa using hi
    rw [List.getElem?_map, List.getElem?_eq_getElem hi'] at hd
    cases hd
    subst hr
    have e : cs.getD i (fun _ => false, []) = cs[i] := by rw [List.getD_eq_getElem?_getD, List.getElem?_eq_getElem hi']; rfl
    refine ⟨_, gn_tup rfl (gns_cons (gns_cons gns_nil)), wt_yes ⟨rfl, .refl _, fun _ => ?_⟩⟩
    rw [e]
    walk_at "go"
    rw [List.length_map]
    exact ⟨rfl, .refl _⟩
  have eps : (ixs (cs.map (cutD n.names.length)).length fun _ => true).map (fun i => pD ((((cs.getD i (fun _ => false, [])).2.length : Nat) : Int), (i : Int))) = ((List.range cs.length).map fun i => ((((cs.getD i (fun _ => false, [])).2.length : Nat) : Int), (i : Int))).map pD := by
    rw [List.length_map, ixs_all, List.map_map]; rfl
  rw [eps]
  walk_at "gj"
  refine rc_minp (ps := (List.range cs.length).map fun i => ((((cs.getD i (fun _ => false, [])).2.length : Nat) : Int), (i : Int))) lk0 (by rw [List.length_map, List.length_range]; omega) fun p hp hle => ?_
  obtain ⟨i, hi, rfl⟩ := List.mem_map.mp hp
  have hi' : i < cs.length := List.mem_range.mp hi
  have e : cs.getD i (fun _ => false, []) = cs[i] := by rw [List.getD_eq_getElem?_getD, List.getElem?_eq_getElem hi']; rfl
  have ix : atI (cs.map (cutD n.names.length)) (i : Int) = some (cutD n.names.length cs[i]) := by
    refine L2.atI_nat ?_
    rw [List.getElem?_map, List.getElem?_eq_getElem hi']; rfl
  have hcut := hcs i cs[i] (List.getElem?_eq_getElem hi')
  have hmin : MinCut n cs[i].1 cs[i].2.length := by
    refine ⟨hcut.z, ⟨i + 1, by omega, hcut.on⟩, hcut.sz, fun S' h0 ⟨v, hv, hS⟩ => ?_⟩
    have hv0 : v ≠ 0 := fun e => by rw [e, h0] at hS; cases hS
    have hj : v - 1 < cs.length := by omega
    have e' : cs.getD (v - 1) (fun _ => false, []) = cs[v - 1] := by rw [List.getD_eq_getElem?_getD, List.getElem?_eq_getElem hj]; rfl
    have h1 := hle _ (List.mem_map.mpr ⟨v - 1, List.mem_range.mpr hj, rfl⟩)
    have h2 := (hcs (v - 1) _ (List.getElem?_eq_getElem hj)).le S' h0 (by rw [show v - 1 + 1 = v by omega]; exact hS)
    unfold lexLe at h1
    simp only [e, e'] at h1
    omega
  rw [e]
  show Wg _ _ (.im (.tup [.int _, .int _])) _ _ _ _
  walk_at "gj"
  refine we_lcp (fun _ => true) (fun j => .tup ((((cs.getD j (fun _ => false, [])).2.map wayD).drop 0).take (min cs[i].2.length ((cs.getD j (fun _ => false, [])).2.map wayD).length - 0))) (wi_list ?_)
  walk_at "gj"
  refine ⟨a, _, rfl, lk1, by rw [List.length_map]; omega, fun _ => lk1, fun j r F' hj ⟨d, hd, hr⟩ => ?_, fun b F' hl => ?_⟩
  · have hj' : j < cs.length := by simpa using hj
    rw [List.getElem?_map, List.getElem?_eq_getElem hj'] at hd
    cases hd
    subst hr
    have e : cs.getD j (fun _ => false, []) = cs[j] := by rw [List.getD_eq_getElem?_getD, List.getElem?_eq_getElem hj']; rfl
    refine ⟨_, gn_name, wt_yes ⟨rfl, .refl _, fun _ => ?_⟩⟩
    rw [e]
    walk_at "gj"
    refine rs_tup (p := 0) (q := min cs[i].2.length (cs[j].2.map wayD).length) (HT.sIx_none _ _) (HT.sIx_nat _ _ _) ?_
    exact ⟨rfl, .refl _⟩
  · walk_at "gj"
    exact .inl ⟨_, rfl, hmany hN _ _ _ hmin⟩
def pre_strength (as : List AV) (post : BV → Prop) : Prop := ∃ (n : Net), as = [.im (netD n)] ∧ n.ok ∧ n.names.length ≠ 1 ∧ ∀ (c : Nat) S, MinCut n S c → post (.im (.int (c : Int)))
theorem has_strength (D : Df K mg "strength" s_strength P_strength) (T : Tx mg) (G_strength_paper : Has P w K mg base 4 "strength_paper" P_strength_paper (spP K pre_strength_paper)) : Has P w K mg base 5 "strength" P_strength (spP K pre_strength) := by
  obtain ⟨f, fd, F, hm, hb⟩ := D
  refine has_of (k := 4) F hm sc_strength hb (by intro as post h; unfold pre_strength at h; repeat (first | (obtain ⟨e, _⟩ := h; rw [e]; rfl) | (obtain ⟨_, h⟩ := h))) fun cdv A outer s H E hr => ?_
  refine ⟨_, (pss_one (ps_ret (pe_ix (kIx (K := K) rfl) (G_strength_paper.pe (hr.mono (by omega)) (by rfl) (pa_cons (pv 0) pa_nil)) pe_int (fun _ _ => rfl)))), ?_⟩
  rintro as post g ⟨n, rfl, ok, hN, hpost⟩
  walk_at "init"
  walk_at "go"
  refine ⟨_, .cons (.im _) .nil, n, rfl, ok, fun h => absurd h hN, fun _ c S X hc => ?_⟩
  walk_at "go"
  exact .inl ⟨_, rfl, hpost c S hc⟩
end
end TL

set_option Elab.async false
set_option linter.all false
set_option autoImplicit false
set_option maxRecDepth 100000
set_option maxHeartbeats 4000000
namespace TL
open PySem PySem.Spec PyProof.Rows L2
local macro_rules | `(tactic| walk_at "lk") => `(tactic| first | assumption | exact lk0 | exact lk1 | exact lk2 | exact lk3 | exact lk4 | exact lr0 | exact lr1 | exact lkH | exact lkF)
/-! one step of the walk: by the reading's head; all else is left -/
local macro_rules | `(tactic| walk_at "s0") => `(tactic| first
  | with_reducible refine ws_seq ?_
  | with_reducible refine ws_pop0 ?_
  | with_reducible refine ws_append ?_
  | with_reducible refine ws_insert ?_
  | with_reducible refine ws_set ?_
  | with_reducible refine ws_drop ?_
  | with_reducible refine ws_ret ?_
  | with_reducible refine ws_asg ?_
  | with_reducible refine ws_next ?_
  | with_reducible refine wg_name ?_
  | with_reducible refine wgs_nameM ?_
  | with_reducible refine wgs_nilM ?_
  | ((with_reducible refine' wg_tup ?h ?k); (case h => exact rfl))
  | with_reducible refine wg_sub ?_
  | with_reducible refine we_andV ?_
  | with_reducible refine we_notV ?_
  | with_reducible refine rc_isi isi_int ?_
  | with_reducible refine rc_isi isi_intb ?_
  | with_reducible refine rc_isi isi_tup ?_
  | with_reducible refine we_orV ?_
  | with_reducible refine we_chain ?_
  | with_reducible refine we_call ?_
  | with_reducible refine rr_eqI ?_
  | ((with_reducible refine' we_var ?h ?k); (case h => exact rfl))
  | with_reducible refine we_int ?_
  | ((with_reducible refine' we_fNv ?m ?h ?k); (case m => assumption); (case h => exact rfl))
  | ((with_reducible refine' we_fWv ?m ?h ?k); (case m => assumption); (case h => exact rfl))
  | ((with_reducible refine' we_fMv ?m ?h ?k); (case m => assumption); (case h => exact rfl))
  | ((with_reducible refine' we_fHv ?m ?h ?k); (case m => assumption); (case h => exact rfl))
  | ((with_reducible refine' we_fFv ?m ?h ?k); (case m => assumption); (case h => exact rfl))
  | with_reducible refine we_str ?_
  | with_reducible refine we_non ?_
  | with_reducible refine we_bl ?_
  | with_reducible refine we_ty ?_
  | with_reducible refine we_op ?_
  | with_reducible refine we_un ?_
  | with_reducible refine we_neg ?_
  | with_reducible refine we_cb ?_
  | with_reducible refine wa_cons ?_
  | with_reducible refine wa_nil ?_
  | with_reducible refine wt_test ?_
  | with_reducible refine wt_B ?_
  | with_reducible refine wt_yes ?_
  | with_reducible refine wt_not ?_
  | with_reducible refine wt_and ?_
  | with_reducible refine wt_or ?_
  | with_reducible refine rr_add ?_
  | with_reducible refine rr_sub ?_
  | with_reducible refine rr_lt ?_
  | with_reducible refine rr_le ?_
  | with_reducible refine rr_gt ?_
  | with_reducible refine rr_ge ?_
  | with_reducible refine rr_isN ?_
  | with_reducible refine rr_eqI ?_
  | with_reducible refine rr_neI ?_
  | with_reducible refine rr_neB ?_
  | with_reducible refine rr_int ?_
  | with_reducible refine rr_notN ?_
  | with_reducible refine rc_abs ?_
  | with_reducible refine rc_inti ?_
  | with_reducible refine rc_intb ?_
  | with_reducible refine rc_lent ?_
  | ((with_reducible refine' rr_ixt ?h ?k); (case h => first | assumption | exact rfl))
  | ((with_reducible refine' rr_ixl ?l ?h ?k); (case l => walk_at "lk"); (case h => first | assumption | exact rfl))
  | ((with_reducible refine' rc_lenl ?l ?k); (case l => walk_at "lk"))
  | with_reducible refine rc_lstt ?_
  | ((with_reducible refine' rc_lstl ?l ?k); (case l => walk_at "lk"))
  | ((with_reducible refine' rc_tupl ?l ?k); (case l => walk_at "lk"))
  | with_reducible refine we_sl ?_
  | with_reducible refine wo_none ?_
  | with_reducible refine wo_some ?_
  | with_reducible refine we_tup ?_
  | with_reducible refine we_lst ?_
  | refine ⟨[], rfl, Nat.le_of_ble_eq_true rfl, ?_⟩
  | refine ⟨[_], rfl, Nat.le_of_ble_eq_true rfl, ?_⟩
  | refine ⟨[_, _], rfl, Nat.le_of_ble_eq_true rfl, ?_⟩
  | refine ⟨[_, _, _], rfl, Nat.le_of_ble_eq_true rfl, ?_⟩
  | refine ⟨[_, _, _, _], rfl, Nat.le_of_ble_eq_true rfl, ?_⟩
  | refine ⟨[_, _, _, _, _], rfl, Nat.le_of_ble_eq_true rfl, ?_⟩
  | refine ⟨_, rfl, ?_⟩)
local macro_rules | `(tactic| walk_at "init") => `(tactic| simp only [δS, cxK, cxK2, entR, entM, List.map_cons, List.map_nil, List.length_cons, List.length_nil, List.replicate, List.cons_append, List.nil_append, Nat.reduceAdd, Nat.reduceSub])
local macro_rules | `(tactic| walk_at "seti0") => `(tactic| (refine' set_ownI (k := 0) ?hk ?hj ?hi ?hn; (case hk => exact rfl); (case hi => exact rfl)))
local macro_rules | `(tactic| walk_at "set0") => `(tactic| (refine' set_own (k := 0) ?hk ?hj ?hi ?hn; (case hk => exact rfl); (case hi => exact rfl)))
local macro_rules | `(tactic| walk_at "seti1") => `(tactic| (refine' set_ownI (k := 1) ?hk ?hj ?hi ?hn; (case hk => exact rfl); (case hi => exact rfl)))
local macro_rules | `(tactic| walk_at "set1") => `(tactic| (refine' set_own (k := 1) ?hk ?hj ?hi ?hn; (case hk => exact rfl); (case hi => exact rfl)))
local macro_rules | `(tactic| walk_at "seti2") => `(tactic| (refine' set_ownI (k := 2) ?hk ?hj ?hi ?hn; (case hk => exact rfl); (case hi => exact rfl)))
local macro_rules | `(tactic| walk_at "set2") => `(tactic| (refine' set_own (k := 2) ?hk ?hj ?hi ?hn; (case hk => exact rfl); (case hi => exact rfl)))
local macro_rules | `(tactic| walk_at "s1") => `(tactic| first | with_reducible refine ws_if ?_ | walk_at "s0")
local macro_rules | `(tactic| walk_at "gj") => `(tactic| repeat walk_at "s0")
local macro_rules | `(tactic| walk_at "go") => `(tactic| repeat walk_at "s1")
section
variable {P : Program} {w : World} {K : PySem.W.Frag} {mg : Str → Option Value} {base : Heap}
def pre_height_by (as : List AV) (post : BV → Prop) : Prop := ∃ (r : Rd) (row : Row), as = [.im (rdD r), .im (rowD row)] ∧ r.a < row.length ∧ r.b < row.length ∧ post (.im (pairD (hby r row)))
theorem has_height_by (D : Df K mg "height_by" s_height_by P_height_by) (T : Tx mg) : Has P w K mg base 1 "height_by" P_height_by (spP K pre_height_by) := by
  obtain ⟨f, fd, F, hm, hb⟩ := D
  refine has_of (k := 0) F hm sc_height_by hb (by intro as post h; unfold pre_height_by at h; repeat (first | (obtain ⟨e, _⟩ := h; rw [e]; rfl) | (obtain ⟨_, h⟩ := h))) fun cdv A outer s H E hr => ?_
  refine ⟨_, (pss_cons (ps_asg (pv 0) (kgTup (K := K) (n := 3) rfl rfl (pgs_cons (pg_name (i := 2) sc_height_by.nd rfl (Or.inl rfl) (Or.inl rfl)) (pgs_cons (pg_name (i := 3) sc_height_by.nd rfl (Or.inl rfl) (Or.inl rfl)) (pgs_cons (pg_name (i := 4) sc_height_by.nd rfl (Or.inl rfl) (Or.inl rfl)) pgs_nil)))))
      (pss_cons (ps_if (PW.pt (pw_and (pt_cmpR op_notNT (pe_ix (kIx (K := K) rfl) (pv 1) (pv 2) (fun _ _ => rfl)) pe_non (nomark _)) (pw_and1 (pt_cmpR op_isNT (pe_ix (kIx (K := K) rfl) (pv 1) (pv 3) (fun _ _ => rfl)) pe_non (nomark _))))) (pss_one (ps_ret (pe_tup (pa_cons (pv 3) (pa_cons (pe_op (kAdd (K := K) rfl) (pe_ix (kIx (K := K) rfl) (pv 1) (pv 2) (fun _ _ => rfl)) (pv 4)) pa_nil))))) pss_nil)
      (pss_cons (ps_if (PW.pt (pw_and (pt_cmpR op_isNT (pe_ix (kIx (K := K) rfl) (pv 1) (pv 2) (fun _ _ => rfl)) pe_non (nomark _)) (pw_and1 (pt_cmpR op_notNT (pe_ix (kIx (K := K) rfl) (pv 1) (pv 3) (fun _ _ => rfl)) pe_non (nomark _))))) (pss_one (ps_ret (pe_tup (pa_cons (pv 2) (pa_cons (pe_op op_subI (pe_ix (kIx (K := K) rfl) (pv 1) (pv 3) (fun _ _ => rfl)) (pv 4)) pa_nil))))) pss_nil)
      (pss_one (ps_ret pe_non))))), ?_⟩
  rintro as post g ⟨r, row, rfl, ha, hb_, hpost⟩
  have ia := at_opt ha
  have ib := at_opt hb_
  unfold hby at hpost
  walk_at "init"
  walk_at "gj"
  refine ws_ifP (B := (!(row.getD r.a none).isNone) && (row.getD r.b none).isNone) (wp_and (wp_test ?_) fun _ => wp_test ?_) (fun hB => ?_) (fun hB => ?_)
  · walk_at "gj"
    rw [optD_isN]; exact ⟨rfl, rfl, rfl⟩
  · walk_at "gj"
    rw [optD_isN]; exact ⟨rfl, rfl, rfl⟩
  · cases ea : row.getD r.a none with
    | none => rw [ea] at hB; simp at hB
    | some x =>
      cases eb : row.getD r.b none with
      | some y => rw [eb] at hB; simp at hB
      | none =>
        rw [ea] at ia
        rw [ea, eb] at hpost
        have ia' : atI (row.map optD) (r.a : Int) = some (.int x) := ia
        walk_at "gj"
        exact .inl ⟨_, rfl, hpost⟩
  walk_at "gj"
  refine ws_ifP (B := ((row.getD r.a none).isNone) && !(row.getD r.b none).isNone) (wp_and (wp_test ?_) fun _ => wp_test ?_) (fun hB2 => ?_) (fun hB2 => ?_)
  · walk_at "gj"
    rw [optD_isN]; exact ⟨rfl, rfl, rfl⟩
  · walk_at "gj"
    rw [optD_isN]; exact ⟨rfl, rfl, rfl⟩
  · cases ea : row.getD r.a none with
    | some x => rw [ea] at hB2; simp at hB2
    | none =>
      cases eb : row.getD r.b none with
      | none => rw [eb] at hB2; simp at hB2
      | some y =>
        rw [eb] at ib
        rw [ea, eb] at hpost
        have ib' : atI (row.map optD) (r.b : Int) = some (.int y) := ib
        walk_at "gj"
        exact .inl ⟨_, rfl, hpost⟩
  · walk_at "gj"
    refine .inl ⟨_, rfl, ?_⟩
    cases ea : row.getD r.a none <;> cases eb : row.getD r.b none <;> rw [ea, eb] at hpost
    · exact hpost
    · rw [ea, eb] at hB2; simp at hB2
    · rw [ea, eb] at hB; simp at hB
    · exact hpost
def pre_count_lies (as : List AV) (post : BV → Prop) : Prop := ∃ (n : Net) (row : Row), as = [.im (netD n), .im (rowD row)] ∧ n.ok ∧ row.length = n.names.length ∧ post (.im (.int (cl n row)))
theorem has_count_lies (D : Df K mg "count_lies" s_count_lies P_count_lies) (T : Tx mg) : Has P w K mg base 1 "count_lies" P_count_lies (spP K pre_count_lies) := by
  obtain ⟨f, fd, F, hm, hb⟩ := D
  refine has_of (k := 0) F hm sc_count_lies hb (by intro as post h; unfold pre_count_lies at h; repeat (first | (obtain ⟨e, _⟩ := h; rw [e]; rfl) | (obtain ⟨_, h⟩ := h))) fun cdv A outer s H E hr => ?_
  refine ⟨_, (pss_cons (ps_set (i := 2) sc_count_lies.nd rfl (Or.inl rfl) pe_int)
      (pss_cons (ps_for PassesOwn.never rfl (kiTup (K := K) rfl (pe_ix (kIx (K := K) rfl) (pv 0) pe_int (fun _ _ => rfl))) (kgTup (K := K) (n := 3) rfl rfl (pgs_cons (pg_name (i := 3) sc_count_lies.nd rfl (Or.inl rfl) (Or.inl rfl)) (pgs_cons (pg_name (i := 4) sc_count_lies.nd rfl (Or.inl rfl) (Or.inl rfl)) (pgs_cons (pg_name (i := 5) sc_count_lies.nd rfl (Or.inl rfl) (Or.inl rfl)) pgs_nil)))) (pss_one (ps_if (PW.pt (pw_and (pt_cmpR op_notNT (pe_ix (kIx (K := K) rfl) (pv 1) (pv 3) (fun _ _ => rfl)) pe_non (nomark _)) (pw_and1 (pt_cmpR op_notNT (pe_ix (kIx (K := K) rfl) (pv 1) (pv 4) (fun _ _ => rfl)) pe_non (nomark _))))) (pss_one (ps_set (i := 2) sc_count_lies.nd rfl (Or.inl rfl) (pe_op (kAdd (K := K) rfl) (pv 2) (pe_callTy call_intQ (by rfl) T.int_ bb_int (pa_cons (pe_cmpR (kNe (K := K) rfl hr.units) (pe_op op_subI (pe_ix (kIx (K := K) rfl) (pv 1) (pv 4) (fun _ _ => rfl)) (pe_ix (kIx (K := K) rfl) (pv 1) (pv 3) (fun _ _ => rfl))) (pv 5) (nomark _)) pa_nil))))) pss_nil)))
      (pss_one (ps_ret (pv 2))))), ?_⟩
  rintro as post g ⟨n, row, rfl, ok, hl, hpost⟩
  walk_at "init"
  walk_at "gj"
  refine ws_for (wi_tup ?_)
  walk_at "gj"
  rw [List.length_map]
  refine ⟨fun i F' δ' M' => ∃ r3 r4 r5, δ' = [some (.im (netD n)), some (.im (rowD row)), some (.im (.int ((ixs i fun j => bad (n.rd j) row).length : Nat))), r3, r4, r5] ∧ M' = [], ⟨_, _, _, rfl, rfl⟩, fun _ _ _ _ _ _ => trivial, ?_, ?_⟩
  · rintro i x F' δ' M' hi ⟨d, hd, rfl⟩ ⟨r3, r4, r5, rfl, rfl⟩
    obtain ⟨_, rfl⟩ := rds_get hd
    have ia := at_opt (r := row) (i := (n.rd i).a) (by rw [hl]; exact ok.ai hi)
    have ib := at_opt (r := row) (i := (n.rd i).b) (by rw [hl]; exact ok.bi hi)
    walk_at "gj"
    refine ws_ifP (B := (!(row.getD (n.rd i).a none).isNone) && !(row.getD (n.rd i).b none).isNone) (wp_and (wp_test ?_) fun _ => wp_test ?_) (fun hB => ?_) (fun hB => ?_)
    · walk_at "gj"
      rw [optD_isN]; exact ⟨rfl, rfl, rfl⟩
    · walk_at "gj"
      rw [optD_isN]; exact ⟨rfl, rfl, rfl⟩
    · cases ea : row.getD (n.rd i).a none with
      | none => rw [ea] at hB; simp at hB
      | some x =>
        cases eb : row.getD (n.rd i).b none with
        | none => rw [eb] at hB; simp at hB
        | some y =>
          rw [ea] at ia
          rw [eb] at ib
          have ia' : atI (row.map optD) ((n.rd i).a : Int) = some (.int x) := ia
          have ib' : atI (row.map optD) ((n.rd i).b : Int) = some (.int y) := ib
          walk_at "gj"
          refine ⟨some (.im (.int (n.rd i).a)), some (.im (.int (n.rd i).b)), some (.im (.int (n.rd i).v)), ?_, rfl⟩
          have hbad : bad (n.rd i) row = !decide (y - x = (n.rd i).v) := by unfold bad; rw [ea, eb]
          cases hd : decide (y - x = (n.rd i).v) with
          | true =>
            rw [ixs_no (by rw [hbad, hd]; rfl)]
            simp
          | false =>
            rw [ixs_yes (by rw [hbad, hd]; rfl)]
            simp
    · walk_at "gj"
      have hbad : bad (n.rd i) row = false := by
        unfold bad
        cases ea : row.getD (n.rd i).a none <;> cases eb : row.getD (n.rd i).b none <;> rw [ea, eb] at hB <;> first | rfl | (simp at hB)
      dsimp only
      rw [ixs_no hbad]
      exact ⟨_, _, _, rfl, rfl⟩
  · rintro F' δ' M' ⟨r3, r4, r5, rfl, rfl⟩
    walk_at "go"
    exact .inl ⟨_, rfl, hpost⟩
def pre_known_key (as : List AV) (post : BV → Prop) : Prop := ∃ (row : Row), as = [.im (rowD row)] ∧ row.length ≤ 100000 ∧ post (.im (kfD (rowD row)))
theorem has_known_key (D : Df K mg "known_key" s_known_key P_known_key) (T : Tx mg) : Has P w K mg base 1 "known_key" P_known_key (spP K pre_known_key) := by
  obtain ⟨f, fd, F, hm, hb⟩ := D
  refine has_of (k := 0) F hm sc_known_key hb (by intro as post h; unfold pre_known_key at h; repeat (first | (obtain ⟨e, _⟩ := h; rw [e]; rfl) | (obtain ⟨_, h⟩ := h))) fun cdv A outer s H E hr => ?_
  refine ⟨_, (pss_one (ps_ret (pe_callTy (kTup (K := K) rfl) (by rfl) T.tuple_ bb_tuple (pa_cons (pe_lc (own := [("height", 1)]) rfl sc_known_key.nd (kiTup (K := K) rfl (pv 0)) (blkOk_by (own := [("height", 1)]) (N := N_known_key) (sc := defScope s_known_key) (by decide +kernel)) (fun _ _ _ _ _ => (pg_name (i := 1) sc_known_key.nd rfl (Or.inl rfl) (Or.inr rfl))) (fun _ _ _ _ _ => pts_nil) (fun _ _ _ _ _ => (pe_tup (pa_cons (pe_cmpR op_notNT (pv 1) pe_non (nomark _)) (pa_cons (kOrT (K := K) rfl (pv 1) (pe_one pe_int)) pa_nil))))) pa_nil)))), ?_⟩
  rintro as post g ⟨row, rfl, hl, hpost⟩
  walk_at "init"
  walk_at "gj"
  refine we_lcp (fun _ => true) (fun i => keyE (optD (row.getD i none))) (wi_tup ?_)
  walk_at "gj"
  rw [List.length_map]
  refine ⟨hl, fun _ => trivial, fun i r F' hi ⟨d, hd, hr⟩ => ?_, fun a F' hl => ?_⟩
  · rw [List.getElem?_map, List.getElem?_eq_getElem hi] at hd
    cases hd
    subst hr
    have e : row.getD i none = row[i] := by rw [List.getD_eq_getElem?_getD, List.getElem?_eq_getElem hi]; rfl
    refine ⟨_, gn_name, wt_yes ⟨rfl, List.Sublist.refl _, fun _ => ?_⟩⟩
    rw [e]
    walk_at "gj"
    rw [optD_isN]
    refine we_orOpt ?_
    walk_at "gj"
    rw [keyE_opt]
    refine ⟨?_, .refl _⟩
    rw [Option.not_isNone]
  · walk_at "gj"
    rw [ixs_all]
    refine .inl ⟨_, rfl, ?_⟩
    have e : (List.range row.length).map (fun i => keyE (optD (row.getD i none))) = (row.map optD).map keyE := by
      refine List.ext_getElem? fun i => ?_
      rw [List.getElem?_map, List.map_map, List.getElem?_map]
      by_cases h : i < row.length
      · rw [List.getElem?_range h, List.getElem?_eq_getElem h]; simp [h]
      · rw [List.getElem?_eq_none (by simp; omega), List.getElem?_eq_none (by omega)]; rfl
    rw [e]
    exact hpost
end
end TL

set_option Elab.async false
set_option linter.all false
set_option autoImplicit false
set_option maxRecDepth 100000
set_option maxHeartbeats 4000000
namespace TL
open PySem PySem.Spec PyProof.Rows L2
local macro_rules | `(tactic| walk_at "lk") => `(tactic| first | assumption | exact lk0 | exact lk1 | exact lk2 | exact lk3 | exact lk4 | exact lr0 | exact lr1 | exact lkH | exact lkF)
/-! one step of the walk: by the reading's head; all else is left -/
local macro_rules | `(tactic| walk_at "s0") => `(tactic| first
  | with_reducible refine ws_seq ?_
  | with_reducible refine ws_pop0 ?_
  | with_reducible refine ws_append ?_
  | with_reducible refine ws_insert ?_
  | with_reducible refine ws_set ?_
  | with_reducible refine ws_drop ?_
  | with_reducible refine ws_ret ?_
  | with_reducible refine ws_asg ?_
  | with_reducible refine ws_next ?_
  | with_reducible refine wg_name ?_
  | with_reducible refine wgs_nameM ?_
  | with_reducible refine wgs_nilM ?_
  | ((with_reducible refine' wg_tup ?h ?k); (case h => exact rfl))
  | with_reducible refine wg_sub ?_
  | with_reducible refine we_andV ?_
  | with_reducible refine we_notV ?_
  | with_reducible refine rc_isi isi_int ?_
  | with_reducible refine rc_isi isi_intb ?_
  | with_reducible refine rc_isi isi_tup ?_
  | with_reducible refine we_orV ?_
  | with_reducible refine we_chain ?_
  | with_reducible refine we_call ?_
  | with_reducible refine rr_eqI ?_
  | ((with_reducible refine' we_var ?h ?k); (case h => exact rfl))
  | with_reducible refine we_int ?_
  | ((with_reducible refine' we_fNv ?m ?h ?k); (case m => assumption); (case h => exact rfl))
  | ((with_reducible refine' we_fWv ?m ?h ?k); (case m => assumption); (case h => exact rfl))
  | ((with_reducible refine' we_fMv ?m ?h ?k); (case m => assumption); (case h => exact rfl))
  | ((with_reducible refine' we_fHv ?m ?h ?k); (case m => assumption); (case h => exact rfl))
  | ((with_reducible refine' we_fFv ?m ?h ?k); (case m => assumption); (case h => exact rfl))
  | with_reducible refine we_str ?_
  | with_reducible refine we_non ?_
  | with_reducible refine we_bl ?_
  | with_reducible refine we_ty ?_
  | with_reducible refine we_op ?_
  | with_reducible refine we_un ?_
  | with_reducible refine we_neg ?_
  | with_reducible refine we_cb ?_
  | with_reducible refine wa_cons ?_
  | with_reducible refine wa_nil ?_
  | with_reducible refine wt_test ?_
  | with_reducible refine wt_B ?_
  | with_reducible refine wt_yes ?_
  | with_reducible refine wt_not ?_
  | with_reducible refine wt_and ?_
  | with_reducible refine wt_or ?_
  | with_reducible refine rr_add ?_
  | with_reducible refine rr_sub ?_
  | with_reducible refine rr_lt ?_
  | with_reducible refine rr_le ?_
  | with_reducible refine rr_gt ?_
  | with_reducible refine rr_ge ?_
  | with_reducible refine rr_isN ?_
  | with_reducible refine rr_eqI ?_
  | with_reducible refine rr_neI ?_
  | with_reducible refine rr_neB ?_
  | with_reducible refine rr_int ?_
  | with_reducible refine rr_notN ?_
  | with_reducible refine rc_abs ?_
  | with_reducible refine rc_inti ?_
  | with_reducible refine rc_intb ?_
  | with_reducible refine rc_lent ?_
  | ((with_reducible refine' rr_ixt ?h ?k); (case h => first | assumption | exact rfl))
  | ((with_reducible refine' rr_ixl ?l ?h ?k); (case l => walk_at "lk"); (case h => first | assumption | exact rfl))
  | ((with_reducible refine' rc_lenl ?l ?k); (case l => walk_at "lk"))
  | with_reducible refine rc_lstt ?_
  | ((with_reducible refine' rc_lstl ?l ?k); (case l => walk_at "lk"))
  | ((with_reducible refine' rc_tupl ?l ?k); (case l => walk_at "lk"))
  | with_reducible refine we_sl ?_
  | with_reducible refine wo_none ?_
  | with_reducible refine wo_some ?_
  | with_reducible refine we_tup ?_
  | with_reducible refine we_lst ?_
  | refine ⟨[], rfl, Nat.le_of_ble_eq_true rfl, ?_⟩
  | refine ⟨[_], rfl, Nat.le_of_ble_eq_true rfl, ?_⟩
  | refine ⟨[_, _], rfl, Nat.le_of_ble_eq_true rfl, ?_⟩
  | refine ⟨[_, _, _], rfl, Nat.le_of_ble_eq_true rfl, ?_⟩
  | refine ⟨[_, _, _, _], rfl, Nat.le_of_ble_eq_true rfl, ?_⟩
  | refine ⟨[_, _, _, _, _], rfl, Nat.le_of_ble_eq_true rfl, ?_⟩
  | refine ⟨_, rfl, ?_⟩)
local macro_rules | `(tactic| walk_at "init") => `(tactic| simp only [δS, cxK, cxK2, entR, entM, List.map_cons, List.map_nil, List.length_cons, List.length_nil, List.replicate, List.cons_append, List.nil_append, Nat.reduceAdd, Nat.reduceSub])
local macro_rules | `(tactic| walk_at "seti0") => `(tactic| (refine' set_ownI (k := 0) ?hk ?hj ?hi ?hn; (case hk => exact rfl); (case hi => exact rfl)))
local macro_rules | `(tactic| walk_at "set0") => `(tactic| (refine' set_own (k := 0) ?hk ?hj ?hi ?hn; (case hk => exact rfl); (case hi => exact rfl)))
local macro_rules | `(tactic| walk_at "seti1") => `(tactic| (refine' set_ownI (k := 1) ?hk ?hj ?hi ?hn; (case hk => exact rfl); (case hi => exact rfl)))
local macro_rules | `(tactic| walk_at "set1") => `(tactic| (refine' set_own (k := 1) ?hk ?hj ?hi ?hn; (case hk => exact rfl); (case hi => exact rfl)))
local macro_rules | `(tactic| walk_at "seti2") => `(tactic| (refine' set_ownI (k := 2) ?hk ?hj ?hi ?hn; (case hk => exact rfl); (case hi => exact rfl)))
local macro_rules | `(tactic| walk_at "set2") => `(tactic| (refine' set_own (k := 2) ?hk ?hj ?hi ?hn; (case hk => exact rfl); (case hi => exact rfl)))
local macro_rules | `(tactic| walk_at "s1") => `(tactic| first | with_reducible refine ws_if ?_ | walk_at "s0")
local macro_rules | `(tactic| walk_at "gj") => `(tactic| repeat walk_at "s0")
local macro_rules | `(tactic| walk_at "go") => `(tactic| repeat walk_at "s1")
section
variable {P : Program} {w : World} {K : PySem.W.Frag} {mg : Str → Option Value} {base : Heap}
def pre_further (as : List AV) (post : BV → Prop) : Prop := ∃ (n : Net) (k : Nat) (row : Row), as = [.im (netD n), .im (.int (k : Int)), .im (rowD row)] ∧ n.ok ∧ row.length = n.names.length ∧ k ≤ 1000 ∧ cl n row ≤ k ∧ ∀ found, FurtherOk n k row found → post (.ls (found.map rowD))
theorem has_further (D : Df K mg "further" s_further P_further) (T : Tx mg) (G_height_by : Has P w K mg base 1 "height_by" P_height_by (spP K pre_height_by)) (G_count_lies : Has P w K mg base 1 "count_lies" P_count_lies (spP K pre_count_lies)) : Has P w K mg base 2 "further" P_further (spP K pre_further) := by
  obtain ⟨f, fd, F, hm, hb⟩ := D
  refine has_of (k := 1) F hm sc_further hb (by intro as post h; unfold pre_further at h; repeat (first | (obtain ⟨e, _⟩ := h; rw [e]; rfl) | (obtain ⟨_, h⟩ := h))) fun cdv A outer s H E hr => ?_
  refine ⟨_, (pss_cons (ps_setLc (i := 3) (own := [("reading", 8)]) rfl sc_further.nd rfl rfl (sw_true rfl rfl rfl (by decide +kernel)) (kiTup (K := K) rfl (pe_ix (kIx (K := K) rfl) (pv 0) pe_int (fun _ _ => rfl))) (blkOk_by (own := [("reading", 8)]) (N := N_further) (sc := defScope s_further) (by decide +kernel)) (fun _ _ _ _ _ => (pg_name (i := 8) sc_further.nd rfl (Or.inl rfl) (Or.inr rfl))) (fun _ _ _ _ _ => pts_nil) (fun _ _ _ _ _ => (G_height_by.pe (hr.mono (by omega)) (by rfl) (pa_cons (pv 8) (pa_cons (pv 2) pa_nil)))))
      (pss_cons (ps_set (i := 4) sc_further.nd rfl (Or.inl rfl) (pe_op op_subI (pv 1) (G_count_lies.pe (hr.mono (by omega)) (by rfl) (pa_cons (pv 0) (pa_cons (pv 2) pa_nil)))))
      (pss_cons (ps_set (i := 5) sc_further.nd rfl (Or.inl rfl) (pe_lst pa_nil))
      (pss_cons (ps_for PassesOwn.never rfl (kiList (K := K) rfl (pe_slice (kSlL (K := K) rfl) (pe_lc (own := [("pair", 6)]) rfl sc_further.nd (kiList (K := K) rfl (pv 3)) (blkOk_by (own := [("pair", 6)]) (N := N_further) (sc := defScope s_further) (by decide +kernel)) (fun _ _ _ _ _ => (pg_name (i := 6) sc_further.nd rfl (Or.inl rfl) (Or.inr rfl))) (fun _ _ _ _ _ => (pts_one (pt_cmpR op_notNT (pv 6) pe_non (nomark _)))) (fun _ _ _ _ _ => (pv 6))) po_none (po_some (pe_op (kAdd (K := K) rfl) (pv 4) pe_int)))) (pg_name (i := 6) sc_further.nd rfl (Or.inl rfl) (Or.inl rfl)) (pss_cons (ps_set (i := 7) sc_further.nd rfl (Or.inl rfl) (pe_op (kAdd (K := K) rfl) (pe_op (kAdd (K := K) rfl) (pe_slice (kSlT (K := K) rfl) (pv 2) po_none (po_some (pe_ix (kIx (K := K) rfl) (pv 6) pe_int (fun _ _ => rfl)))) (pe_tup (pa_cons (pe_ix (kIx (K := K) rfl) (pv 6) pe_int (fun _ _ => rfl)) pa_nil))) (pe_slice (kSlT (K := K) rfl) (pv 2) (po_some (pe_op (kAdd (K := K) rfl) (pe_ix (kIx (K := K) rfl) (pv 6) pe_int (fun _ _ => rfl)) pe_int)) po_none)))
      (pss_one (ps_if (PW.pt (pw_and (pt_cmpR (kNotIn (K := K) rfl hr.u65) (pv 7) (pv 5) (by rfl)) (pw_and1 (pt_cmpR op_leI (G_count_lies.pe (hr.mono (by omega)) (by rfl) (pa_cons (pv 0) (pa_cons (pv 7) pa_nil))) (pv 1) (nomark _))))) (pss_one (ps_expr (pe_bm PySem.F.plainAttrs_list PySem.F.slot_list_append PySem.F.type_list_append mt_append (pv 5) (pa_cons (pv 7) pa_nil)))) pss_nil))))
      (pss_one (ps_ret (pv 5))))))), ?_⟩
  rintro as post g ⟨n, k, row, rfl, ok, hl, hk, hcl, hpost⟩
  have hN2 := ok.n2
  have hm2 := ok.m2
  walk_at "init"
  walk_at "gj"
  refine we_lcp (fun _ => true) (fun i => pairD (hby (n.rd i) row)) (wi_tup ?_)
  walk_at "gj"
  rw [List.length_map]
  refine ⟨by omega, fun _ => trivial, fun i r F' hi ⟨d, hd, hr⟩ => ?_, fun a F' hl' => ?_⟩
  · obtain ⟨_, rfl⟩ := rds_get hd
    subst hr
    refine ⟨_, gn_name, wt_yes ⟨rfl, .refl _, fun _ => ?_⟩⟩
    walk_at "gj"
    exact ⟨_, .cons (.im _) (.cons (.im _) .nil), n.rd i, row, rfl, by rw [hl]; exact ok.ai hi, by rw [hl]; exact ok.bi hi, rfl, .refl _⟩
  walk_at "gj"
  refine ⟨_, .cons (.im _) (.cons (.im _) .nil), n, row, rfl, ok, hl, ?_⟩
  walk_at "gj"
  intro q
  walk_at "gj"
  refine ws_forW (wi_list ?_)
  walk_at "gj"
  refine we_lcp (fun i => (hby (n.rd i) row).isSome) (fun i => pairD (hby (n.rd i) row)) (wi_list ?_)
  walk_at "gj"
  rw [ixs_all]
  refine ⟨a, _, rfl, lk1, by rw [List.length_map, List.length_range]; omega, fun _ => lk1, fun i r F' hi ⟨d, hd, hr⟩ => ?_, fun b F' hl' => ?_⟩
  · have hi' : i < n.rs.length := by rw [List.length_map, List.length_range] at hi; exact hi
    rw [List.getElem?_map, List.getElem?_range hi'] at hd
    cases hd
    subst hr
    refine ⟨_, gn_name, ?_⟩
    walk_at "gj"
    rw [pairD_isN]
    exact ⟨by cases hby (n.rd i) row <;> rfl, .refl _, fun _ => we_var rfl ⟨rfl, .refl _⟩⟩
  have eL : ((ixs (List.map (fun i => pairD (hby (n.rd i) row)) (List.range n.rs.length)).length fun i => (hby (n.rd i) row).isSome)).map (fun i => pairD (hby (n.rd i) row)) = (tolds n row).map fun i => pairD (hby (n.rd i) row) := by
    rw [List.length_map, List.length_range]; rfl
  rw [eL]
  walk_at "gj"
  have eK : ((k : Int) - (cl n row : Nat) + 1) = ((k - cl n row + 1 : Nat) : Int) := by omega
  rw [eK]
  refine rs_lst (p := 0) lk0 (HT.sIx_none _ _) (HT.sIx_nat _ _ _) fun sl => ?_
  have eX : ((((tolds n row).map fun i => pairD (hby (n.rd i) row)).drop 0).take (min (k - cl n row + 1) ((tolds n row).map fun i => pairD (hby (n.rd i) row)).length - 0)) = ((tolds n row).take (k - cl n row + 1)).map fun i => pairD (hby (n.rd i) row) := by
    rw [List.drop_zero, Nat.sub_zero, ← List.take_eq_take_min, List.map_take]
  rw [eX]
  generalize hX : (tolds n row).take (k - cl n row + 1) = X
  have hXl : X.length ≤ k + 1 := by rw [← hX, List.length_take]; omega
  have hXm : ∀ i ∈ X, i < n.rs.length ∧ (hby (n.rd i) row).isSome = true := fun i hi => by
    rw [← hX] at hi
    exact mem_ixs.mp (List.mem_of_mem_take hi)
  refine ⟨sl, _, rfl, lk0, ?_⟩
  rw [List.length_map]
  refine ⟨fun j F' δ' M' => ∃ found r6 r7 r8, δ' = [some (.im (netD n)), some (.im (.int (k : Int))), some (.im (rowD row)), some (.ad (.ref a)), some (.im (.int ((k : Int) - (cl n row : Nat)))), some (.ad (.ref q)), r6, r7, r8] ∧ M' = [(sl, X.map fun i => pairD (hby (n.rd i) row)), (q, found.map rowD)] ∧ found.Nodup ∧ found.length ≤ j ∧ ∀ g, g ∈ found ↔ ∃ i ∈ X.take j, ∃ v x, hby (n.rd i) row = some (v, x) ∧ g = row.set v (some x) ∧ cl n g ≤ k,
    ⟨[(sl, X.map fun i => pairD (hby (n.rd i) row)), (q, [])], .cons₂ _ (.cons _ (.cons₂ _ (List.nil_sublist _))), [], _, _, _, rfl, rfl, List.nodup_nil, Nat.le_refl _, fun g => ⟨fun h => (by cases h), fun ⟨i, hi, _⟩ => (by cases hi)⟩⟩, fun i F' δ' M' M3 _ hs ⟨found, r6, r7, r8, _, e, _⟩ => ?_, ?_, ?_⟩
  · refine lkM (hs.subset ?_)
    rw [e]
    exact List.mem_cons_self
  · rintro j x F' δ' M' hj ⟨d, hd, rfl⟩ ⟨found, r6, r7, r8, rfl, rfl, hnd, hfl, hmem⟩
    have hXj : X[j]? = some X[j] := List.getElem?_eq_getElem hj
    rw [List.getElem?_map, hXj] at hd
    cases hd
    obtain ⟨hi, hsome⟩ := hXm X[j] (List.getElem_mem hj)
    obtain ⟨⟨v, x⟩, hvx⟩ := Option.isSome_iff_exists.mp hsome
    have hv := hby_lt ok hi hvx
    show Wg _ _ (.im (pairD (hby (n.rd X[j]) row))) _ _ _ _
    rw [hvx]
    have hgl : (row.set v (some x)).length = n.names.length := by rw [List.length_set]; exact hl
    have more : ∀ found' : List Row, found'.length ≤ j + 1 → found'.Nodup → (∀ g, g ∈ found' ↔ g ∈ found ∨ (g = row.set v (some x) ∧ cl n g ≤ k)) → found'.length ≤ j + 1 ∧ found'.Nodup ∧ ∀ g, g ∈ found' ↔ ∃ i ∈ X.take (j + 1), ∃ v x, hby (n.rd i) row = some (v, x) ∧ g = row.set v (some x) ∧ cl n g ≤ k := fun found' h1 h2 h3 => ⟨h1, h2, fun g => by
      rw [h3, hmem, List.take_add_one, hXj]
      constructor
      · rintro (⟨i, hi, z⟩ | ⟨z1, z2⟩)
        · exact ⟨i, List.mem_append.mpr (.inl hi), z⟩
        · exact ⟨X[j], List.mem_append.mpr (.inr (by simp)), v, x, hvx, z1, z2⟩
      · rintro ⟨i, hi, v', x', e1, z1, z2⟩
        rcases List.mem_append.mp hi with hi | hi
        · exact .inl ⟨i, hi, v', x', e1, z1, z2⟩
        · have : i = X[j] := by simpa using hi
          subst this
          rw [hvx] at e1
          cases e1
          exact .inr ⟨z1, z2⟩⟩
    show Wg _ _ (.im (.tup [.int (v : Int), .int x])) _ _ _ _
    walk_at "gj"
    refine rs_tup (p := 0) (HT.sIx_none _ _) (HT.sIx_nat _ _ _) ?_
    walk_at "gj"
    refine rr_addt (by simp; omega) ?_
    walk_at "gj"
    rw [show (v : Int) + 1 = ((v + 1 : Nat) : Int) by omega]
    refine rs_tup (q := (row.map optD).length) (HT.sIx_nat _ _ _) (HT.sIx_none _ _) ?_
    have eR : (((row.map optD).drop 0).take (min v (row.map optD).length - 0) ++ [Dt.int x]) ++ ((row.map optD).drop (min (v + 1) (row.map optD).length)).take ((row.map optD).length - min (v + 1) (row.map optD).length) = (row.set v (some x)).map optD := by
      have eD : ((row.map optD).drop (v + 1)).take (row.length - (v + 1)) = (row.map optD).drop (v + 1) := List.take_of_length_le (by rw [List.length_drop, List.length_map]; omega)
      rw [← row_cut (by omega), List.drop_zero, Nat.sub_zero, List.length_map, Nat.min_eq_left (by omega), Nat.min_eq_left (by omega), eD]
    refine rr_addt (by simp; omega) ?_
    rw [eR]
    generalize hG : row.set v (some x) = G at *
    walk_at "gj"
    refine ws_ifP (B := (!decide (G ∈ found)) && decide (cl n G ≤ k)) (wp_and (wp_test ?_) fun _ => wp_test ?_) (fun hB => ?_) (fun hB => ?_)
    · walk_at "gj"
      refine rr_notinO lk1 (row_ok G) (rows_ok _) (fun h => ?_) (fun h => ?_)
      · have h' := mem_rows.mp h
        exact ⟨by rw [decide_eq_true h']; rfl, rfl, rfl⟩
      · have h' : G ∉ found := fun z => h (mem_rows.mpr z)
        exact ⟨by rw [decide_eq_false h']; rfl, rfl, rfl⟩
    · walk_at "gj"
      refine ⟨_, .cons (.im _) (.cons (.im _) .nil), n, G, rfl, ok, hgl, ?_⟩
      walk_at "gj"
      exact ⟨bl_iff (by omega), rfl, rfl⟩
    · simp only [Bool.and_eq_true, Bool.not_eq_true', decide_eq_false_iff_not, decide_eq_true_eq] at hB
      walk_at "gj"
      refine ⟨_, _, rfl, lk1, ?_⟩
      walk_at "gj"
      refine app_own (k := 1) rfl (by rw [List.length_map]; omega) ?_
      have hm' := more (found ++ [G]) (by rw [List.length_append]; simp; omega) (nodup_snoc hnd hB.1) (fun g => by
        rw [List.mem_append, List.mem_singleton]
        exact ⟨fun h => h.imp id fun e => ⟨e, e ▸ hB.2⟩, fun h => h.imp id fun e => e.1⟩)
      refine ⟨_, .refl _, found ++ [G], _, _, _, rfl, ?_, hm'.2.1, hm'.1, hm'.2.2⟩
      rw [List.map_append]; rfl
    · walk_at "gj"
      have hm' := more found (by omega) hnd (fun g => ⟨fun h => .inl h, fun h => h.elim id fun ⟨e, z⟩ => by
        rw [e] at z ⊢
        simp [z] at hB
        exact hB⟩)
      exact ⟨_, .refl _, found, _, _, _, rfl, rfl, hm'.2.1, hm'.1, hm'.2.2⟩
  · rintro F' δ' M' M3 hs ⟨found, r6, r7, r8, rfl, rfl, hnd, hfl, hmem⟩
    refine ws_weak hs ?_
    walk_at "go"
    refine .inr ⟨_, _, rfl, by simp, hpost found ⟨hnd, fun g => ?_, by omega⟩⟩
    rw [hmem, List.take_length]
    unfold Nx
    rw [hX]
end
end TL

set_option Elab.async false
set_option linter.all false
set_option autoImplicit false
set_option maxRecDepth 100000
set_option maxHeartbeats 4000000
namespace TL
open PySem PySem.Spec PyProof.Rows L2
local macro_rules | `(tactic| walk_at "lk") => `(tactic| first | assumption | exact lk0 | exact lk1 | exact lk2 | exact lk3 | exact lk4 | exact lr0 | exact lr1 | exact lkH | exact lkF)
/-! one step of the walk: by the reading's head; all else is left -/
local macro_rules | `(tactic| walk_at "s0") => `(tactic| first
  | with_reducible refine ws_seq ?_
  | with_reducible refine ws_pop0 ?_
  | with_reducible refine ws_append ?_
  | with_reducible refine ws_insert ?_
  | with_reducible refine ws_set ?_
  | with_reducible refine ws_drop ?_
  | with_reducible refine ws_ret ?_
  | with_reducible refine ws_asg ?_
  | with_reducible refine ws_next ?_
  | with_reducible refine wg_name ?_
  | with_reducible refine wgs_nameM ?_
  | with_reducible refine wgs_nilM ?_
  | ((with_reducible refine' wg_tup ?h ?k); (case h => exact rfl))
  | with_reducible refine wg_sub ?_
  | with_reducible refine we_andV ?_
  | with_reducible refine we_notV ?_
  | with_reducible refine rc_isi isi_int ?_
  | with_reducible refine rc_isi isi_intb ?_
  | with_reducible refine rc_isi isi_tup ?_
  | with_reducible refine we_orV ?_
  | with_reducible refine we_chain ?_
  | with_reducible refine we_call ?_
  | with_reducible refine rr_eqI ?_
  | ((with_reducible refine' we_var ?h ?k); (case h => exact rfl))
  | with_reducible refine we_int ?_
  | ((with_reducible refine' we_fNv ?m ?h ?k); (case m => assumption); (case h => exact rfl))
  | ((with_reducible refine' we_fWv ?m ?h ?k); (case m => assumption); (case h => exact rfl))
  | ((with_reducible refine' we_fMv ?m ?h ?k); (case m => assumption); (case h => exact rfl))
  | ((with_reducible refine' we_fHv ?m ?h ?k); (case m => assumption); (case h => exact rfl))
  | ((with_reducible refine' we_fFv ?m ?h ?k); (case m => assumption); (case h => exact rfl))
  | with_reducible refine we_str ?_
  | with_reducible refine we_non ?_
  | with_reducible refine we_bl ?_
  | with_reducible refine we_ty ?_
  | with_reducible refine we_op ?_
  | with_reducible refine we_un ?_
  | with_reducible refine we_neg ?_
  | with_reducible refine we_cb ?_
  | with_reducible refine wa_cons ?_
  | with_reducible refine wa_nil ?_
  | with_reducible refine wt_test ?_
  | with_reducible refine wt_B ?_
  | with_reducible refine wt_yes ?_
  | with_reducible refine wt_not ?_
  | with_reducible refine wt_and ?_
  | with_reducible refine wt_or ?_
  | with_reducible refine rr_add ?_
  | with_reducible refine rr_sub ?_
  | with_reducible refine rr_lt ?_
  | with_reducible refine rr_le ?_
  | with_reducible refine rr_gt ?_
  | with_reducible refine rr_ge ?_
  | with_reducible refine rr_isN ?_
  | with_reducible refine rr_eqI ?_
  | with_reducible refine rr_neI ?_
  | with_reducible refine rr_neB ?_
  | with_reducible refine rr_int ?_
  | with_reducible refine rr_notN ?_
  | with_reducible refine rc_abs ?_
  | with_reducible refine rc_inti ?_
  | with_reducible refine rc_intb ?_
  | with_reducible refine rc_lent ?_
  | ((with_reducible refine' rr_ixt ?h ?k); (case h => first | assumption | exact rfl))
  | ((with_reducible refine' rr_ixl ?l ?h ?k); (case l => walk_at "lk"); (case h => first | assumption | exact rfl))
  | ((with_reducible refine' rc_lenl ?l ?k); (case l => walk_at "lk"))
  | with_reducible refine rc_lstt ?_
  | ((with_reducible refine' rc_lstl ?l ?k); (case l => walk_at "lk"))
  | ((with_reducible refine' rc_tupl ?l ?k); (case l => walk_at "lk"))
  | with_reducible refine we_sl ?_
  | with_reducible refine wo_none ?_
  | with_reducible refine wo_some ?_
  | with_reducible refine we_tup ?_
  | with_reducible refine we_lst ?_
  | refine ⟨[], rfl, Nat.le_of_ble_eq_true rfl, ?_⟩
  | refine ⟨[_], rfl, Nat.le_of_ble_eq_true rfl, ?_⟩
  | refine ⟨[_, _], rfl, Nat.le_of_ble_eq_true rfl, ?_⟩
  | refine ⟨[_, _, _], rfl, Nat.le_of_ble_eq_true rfl, ?_⟩
  | refine ⟨[_, _, _, _], rfl, Nat.le_of_ble_eq_true rfl, ?_⟩
  | refine ⟨[_, _, _, _, _], rfl, Nat.le_of_ble_eq_true rfl, ?_⟩
  | refine ⟨_, rfl, ?_⟩)
local macro_rules | `(tactic| walk_at "init") => `(tactic| simp only [δS, cxK, cxK2, entR, entM, List.map_cons, List.map_nil, List.length_cons, List.length_nil, List.replicate, List.cons_append, List.nil_append, Nat.reduceAdd, Nat.reduceSub])
local macro_rules | `(tactic| walk_at "seti0") => `(tactic| (refine' set_ownI (k := 0) ?hk ?hj ?hi ?hn; (case hk => exact rfl); (case hi => exact rfl)))
local macro_rules | `(tactic| walk_at "set0") => `(tactic| (refine' set_own (k := 0) ?hk ?hj ?hi ?hn; (case hk => exact rfl); (case hi => exact rfl)))
local macro_rules | `(tactic| walk_at "seti1") => `(tactic| (refine' set_ownI (k := 1) ?hk ?hj ?hi ?hn; (case hk => exact rfl); (case hi => exact rfl)))
local macro_rules | `(tactic| walk_at "set1") => `(tactic| (refine' set_own (k := 1) ?hk ?hj ?hi ?hn; (case hk => exact rfl); (case hi => exact rfl)))
local macro_rules | `(tactic| walk_at "seti2") => `(tactic| (refine' set_ownI (k := 2) ?hk ?hj ?hi ?hn; (case hk => exact rfl); (case hi => exact rfl)))
local macro_rules | `(tactic| walk_at "set2") => `(tactic| (refine' set_own (k := 2) ?hk ?hj ?hi ?hn; (case hk => exact rfl); (case hi => exact rfl)))
local macro_rules | `(tactic| walk_at "s1") => `(tactic| first | with_reducible refine ws_if ?_ | walk_at "s0")
local macro_rules | `(tactic| walk_at "gj") => `(tactic| repeat walk_at "s0")
local macro_rules | `(tactic| walk_at "go") => `(tactic| repeat walk_at "s1")
section
variable {P : Program} {w : World} {K : PySem.W.Frag} {mg : Str → Option Value} {base : Heap}
def pre_check_worlds (as : List AV) (post : BV → Prop) : Prop := ∃ (n : Net) (k : Nat), as = [.im (netD n), .im (.int (k : Int))] ∧ n.ok ∧ (n.names.length ≠ 1 → ∀ c S, MinCut n S c → k + 1 ≤ c) ∧ post (.im .non)
theorem has_check_worlds (D : Df K mg "check_worlds" s_check_worlds P_check_worlds) (T : Tx mg) (G_strength : Has P w K mg base 5 "strength" P_strength (spP K pre_strength)) : Has P w K mg base 6 "check_worlds" P_check_worlds (spP K pre_check_worlds) := by
  obtain ⟨f, fd, F, hm, hb⟩ := D
  refine has_of (k := 5) F hm sc_check_worlds hb (by intro as post h; unfold pre_check_worlds at h; repeat (first | (obtain ⟨e, _⟩ := h; rw [e]; rfl) | (obtain ⟨_, h⟩ := h))) fun cdv A outer s H E hr => ?_
  refine ⟨_, (pss_one (ps_if (PW.pt (pw_and (pt_cmpR op_gtI (pe_callB (kLen (K := K) rfl) (by rfl) T.len_ bb_len (pa_cons (pe_ix (kIx (K := K) rfl) (pv 0) pe_int (fun _ _ => rfl)) pa_nil)) pe_int (nomark _)) (pw_and1 (pt_cmpR op_ltI (G_strength.pe (hr.mono (by omega)) (by rfl) (pa_cons (pv 0) pa_nil)) (pe_op (kAdd (K := K) rfl) (pv 1) pe_int) (nomark _))))) (pss_one ps_never) pss_nil)), ?_⟩
  rintro as post g ⟨n, k, rfl, ok, hc, hpost⟩
  have hN := ok.n1
  walk_at "init"
  walk_at "gj"
  refine ws_ifP (B := decide (1 < n.names.length) && false) (wp_and (wp_test ?_) fun hp => wp_test ?_) (fun hB => ?_) (fun hB => ?_)
  · walk_at "gj"
    rw [List.length_map]
    exact ⟨bl_iff (by omega), rfl, rfl⟩
  · have hp' : 1 < n.names.length := of_decide_eq_true hp
    walk_at "gj"
    refine ⟨_, .cons (.im _) .nil, n, rfl, ok, by omega, fun c S hcut => ?_⟩
    walk_at "gj"
    have := hc (by omega) c S hcut
    exact ⟨by rw [decide_eq_false (by omega)], rfl, rfl⟩
  · simp at hB
  · walk_at "gj"
    exact hpost
def pre_worlds (as : List AV) (post : BV → Prop) : Prop := ∃ (n : Net) (k : Nat) (G : Nat → List Row → Prop), as = [.im (netD n), .im (.int (k : Int))] ∧ n.ok ∧ n.names.length ≤ 6 ∧ k ≤ 3 ∧ (n.names.length ≠ 1 → ∀ c S, MinCut n S c → k + 1 ≤ c) ∧ G 0 [row0 n] ∧
  (∀ t rows rows', t < n.names.length - 1 → G t rows → StepOk n k rows rows' → G (t + 1) rows') ∧ (∀ t rows, G t rows → ∀ r ∈ rows, r.length = n.names.length ∧ cl n r ≤ k) ∧
  (∀ rows, G (n.names.length - 1) rows → rows.length ≤ 200 ∧ post (.im (.tup (rows.map rowD))))
theorem has_worlds (D : Df K mg "worlds" s_worlds P_worlds) (T : Tx mg) (G_check_worlds : Has P w K mg base 6 "check_worlds" P_check_worlds (spP K pre_check_worlds)) (G_further : Has P w K mg base 2 "further" P_further (spP K pre_further)) (G_known_key : Has P w K mg base 1 "known_key" P_known_key (spP K pre_known_key)) : Has P w K mg base 9 "worlds" P_worlds (spP K pre_worlds) := by
  obtain ⟨f, fd, F, hm, hb⟩ := D
  refine has_of (k := 8) F hm sc_worlds hb (by intro as post h; unfold pre_worlds at h; repeat (first | (obtain ⟨e, _⟩ := h; rw [e]; rfl) | (obtain ⟨_, h⟩ := h))) fun cdv A outer s H E hr => ?_
  refine ⟨_, (pss_cons (ps_expr (G_check_worlds.pe (hr.mono (by omega)) (by rfl) (pa_cons (pv 0) (pa_cons (pv 1) pa_nil))))
      (pss_cons (ps_set (i := 2) sc_worlds.nd rfl (Or.inl rfl) (pe_lst (pa_cons (pe_op (kAdd (K := K) rfl) (pe_tup (pa_cons pe_int pa_nil)) (pe_op (kMul (K := K) rfl) (pe_tup (pa_cons pe_non pa_nil)) (pe_op op_subI (pe_callB (kLen (K := K) rfl) (by rfl) T.len_ bb_len (pa_cons (pe_ix (kIx (K := K) rfl) (pv 0) pe_int (fun _ _ => rfl)) pa_nil)) pe_int))) pa_nil)))
      (pss_cons (ps_for PassesOwn.never rfl (pi_range1 (by rfl) T.range_ (pa_cons (pe_op op_subI (pe_callB (kLen (K := K) rfl) (by rfl) T.len_ bb_len (pa_cons (pe_ix (kIx (K := K) rfl) (pv 0) pe_int (fun _ _ => rfl)) pa_nil)) pe_int) pa_nil)) (pg_name (i := 3) sc_worlds.nd rfl (Or.inl rfl) (Or.inl rfl)) (pss_cons (ps_set (i := 4) sc_worlds.nd rfl (Or.inl rfl) (pe_lst pa_nil))
      (pss_cons (ps_for PassesOwn.never rfl (kiList (K := K) rfl (pv 2)) (pg_name (i := 5) sc_worlds.nd rfl (Or.inl rfl) (Or.inl rfl)) (pss_one (ps_for PassesOwn.never rfl (kiList (K := K) rfl (G_further.pe (hr.mono (by omega)) (by rfl) (pa_cons (pv 0) (pa_cons (pv 1) (pa_cons (pv 5) pa_nil))))) (pg_name (i := 6) sc_worlds.nd rfl (Or.inl rfl) (Or.inl rfl)) (pss_one (ps_if (pt_cmpR (kNotIn (K := K) rfl hr.u65) (pv 6) (pv 4) (by rfl)) (pss_one (ps_expr (pe_bm PySem.F.plainAttrs_list PySem.F.slot_list_append PySem.F.type_list_append mt_append (pv 4) (pa_cons (pv 6) pa_nil)))) pss_nil)))))
      (pss_one (ps_set (i := 2) sc_worlds.nd rfl (Or.inl rfl) (Has.peSort G_known_key (hr.mono (by omega)) (by rfl) T.sorted_ (by rfl) (pa_cons (pv 4) pa_nil)))))))
      (pss_cons (ps_if (pt_cmpR op_gtI (pe_callB (kLen (K := K) rfl) (by rfl) T.len_ bb_len (pa_cons (pv 2) pa_nil)) (pe_mw (by rfl) T.mgMW) (nomark _)) (pss_one ps_never) pss_nil)
      (pss_one (ps_ret (pe_callTy (kTup (K := K) rfl) (by rfl) T.tuple_ bb_tuple (pa_cons (pv 2) pa_nil)))))))), ?_⟩
  rintro as post g ⟨n, k, G, rfl, ok, hN6, hk3, hc, hG0, hGs, hGr, hpost⟩
  have hN := ok.n1
  walk_at "init"
  walk_at "gj"
  refine ⟨_, .cons (.im _) (.cons (.im _) .nil), n, k, rfl, ok, hc, ?_⟩
  walk_at "gj"
  rw [List.length_map]
  refine rr_rep1t (n := n.names.length - 1) (by omega) (by omega) ?_
  walk_at "gj"
  refine rr_addt (by simp; omega) ?_
  walk_at "gj"
  intro a
  walk_at "gj"
  have e0 : [Dt.tup ([Dt.int 0] ++ List.replicate (n.names.length - 1) Dt.non)] = [row0 n].map rowD := by
    unfold row0
    simp [optD, List.map_replicate]
  rw [e0]
  refine ws_forW (wi_rng1 ?_)
  walk_at "gj"
  rw [List.length_map]
  refine ⟨n.names.length - 1, by congr 2; omega, by omega, fun t F' δ' M' => ∃ rows a r3 r4 r5 r6, δ' = [some (.im (netD n)), some (.im (.int (k : Int))), some (.ad (.ref a)), r3, r4, r5, r6] ∧ M' = [(a, rows.map rowD)] ∧ G t rows ∧ rows.length ≤ 4 ^ t,
    ⟨_, .refl _, [row0 n], a, _, _, _, _, rfl, rfl, hG0, by simp⟩, fun _ _ _ _ _ _ _ _ => trivial, ?_, ?_⟩
  · rintro t x F' δ' M' ht hx ⟨rows, a, r3, r4, r5, r6, rfl, rfl, hG, hlen⟩
    have h4 := pow4 (t := t) (by omega)
    have hrow := hGr t rows hG
    subst hx
    walk_at "gj"
    intro m
    walk_at "gj"
    refine ws_forW (wi_list ?_)
    walk_at "gj"
    refine ⟨a, _, rfl, lk1, ?_⟩
    rw [List.length_map]
    refine ⟨fun j F' δ' M' => ∃ more r5 r6, δ' = [some (.im (netD n)), some (.im (.int (k : Int))), some (.ad (.ref a)), some (.im (.int (t : Int))), some (.ad (.ref m)), r5, r6] ∧ M' = [(m, more.map rowD), (a, rows.map rowD)] ∧ more.Nodup ∧ more.length ≤ 4 * j ∧ ∀ g, g ∈ more ↔ ∃ row ∈ rows.take j, Nx n k row g,
      ⟨_, .refl _, [], _, _, rfl, rfl, List.nodup_nil, by simp, fun g => ⟨fun h => (by cases h), fun ⟨i, hi, _⟩ => (by cases hi)⟩⟩, fun i F' δ' M' M3 _ hs ⟨more, r5, r6, _, e, _⟩ => lkM (hs.subset (by rw [e]; simp)), ?_, ?_⟩
    · rintro j x F' δ' M' hj ⟨d, hd, rfl⟩ ⟨more, r5, r6, rfl, rfl, hnd, hml, hmem⟩
      have hRj : rows[j]? = some rows[j] := List.getElem?_eq_getElem hj
      rw [List.getElem?_map, hRj] at hd
      cases hd
      obtain ⟨hrl, hrc⟩ := hrow _ (List.getElem_mem hj)
      walk_at "gj"
      refine ws_forW (wi_list ?_)
      walk_at "gj"
      refine ⟨_, .cons (.im _) (.cons (.im _) (.cons (.im _) .nil)), n, k, rows[j], rfl, ok, hrl, by omega, hrc, fun found hf => ?_⟩
      intro fl
      refine ⟨fl, _, rfl, lk0, ?_⟩
      rw [List.length_map]
      have hfl := hf.len
      refine ⟨fun i F' δ' M' => ∃ more' r6, δ' = [some (.im (netD n)), some (.im (.int (k : Int))), some (.ad (.ref a)), some (.im (.int (t : Int))), some (.ad (.ref m)), some (.im (rowD rows[j])), r6] ∧ M' = [(fl, found.map rowD), (m, more'.map rowD), (a, rows.map rowD)] ∧ more'.Nodup ∧ more'.length ≤ 4 * j + i ∧ ∀ g, g ∈ more' ↔ g ∈ more ∨ g ∈ found.take i,
        ⟨_, .refl _, more, _, rfl, rfl, hnd, by omega, fun g => by simp⟩, fun i F' δ' M' M3 _ hs ⟨more', r6, _, e, _⟩ => lkM (hs.subset (by rw [e]; simp)), ?_, ?_⟩
      · rintro i x F' δ' M' hi ⟨d, hd, rfl⟩ ⟨more', r6, rfl, rfl, hnd', hml', hmem'⟩
        have hFi : found[i]? = some found[i] := List.getElem?_eq_getElem hi
        rw [List.getElem?_map, hFi] at hd
        cases hd
        have htk : ∀ g, g ∈ found.take (i + 1) ↔ g ∈ found.take i ∨ g = found[i] := fun g => by
          rw [List.take_add_one, hFi, List.mem_append]; simp
        walk_at "gj"
        refine ws_ifP (B := (!decide (found[i] ∈ more'))) (wp_test ?_) (fun hB => ?_) (fun hB => ?_)
        · walk_at "gj"
          refine rr_notinO lk1 (row_ok found[i]) (rows_ok _) (fun h => ?_) (fun h => ?_)
          · have h' := mem_rows.mp h
            exact ⟨by rw [decide_eq_true h']; rfl, rfl, rfl⟩
          · have h' : found[i] ∉ more' := fun z => h (mem_rows.mpr z)
            exact ⟨by rw [decide_eq_false h']; rfl, rfl, rfl⟩
        · have hn : found[i] ∉ more' := by simpa using hB
          walk_at "gj"
          refine ⟨_, _, rfl, lk1, ?_⟩
          walk_at "gj"
          refine app_own (k := 1) rfl (by rw [List.length_map]; omega) ?_
          refine ⟨_, .refl _, more' ++ [found[i]], _, rfl, ?_, nodup_snoc hnd' hn, by rw [List.length_append]; simp; omega, fun g => ?_⟩
          · rw [List.map_append]; rfl
          · rw [List.mem_append, List.mem_singleton, hmem', htk, or_assoc]
        · have hn : found[i] ∈ more' := by simpa using hB
          walk_at "gj"
          refine ⟨_, .refl _, more', _, rfl, rfl, hnd', by omega, fun g => ?_⟩
          rw [hmem', htk]
          exact ⟨fun h => h.elim .inl fun z => .inr (.inl z), fun h => h.elim .inl fun z => z.elim .inr fun e => (hmem' g).mp (e ▸ hn)⟩
      · rintro F' δ' M' M3 hs ⟨more', r6, rfl, rfl, hnd', hml', hmem'⟩
        refine ⟨_, (List.sublist_cons_self _ _).trans hs, more', _, _, rfl, rfl, hnd', by omega, fun g => ?_⟩
        rw [hmem', hmem, List.take_length, hf.mem, List.take_add_one, hRj]
        constructor
        · rintro (⟨row, h1, h2⟩ | h)
          · exact ⟨row, List.mem_append.mpr (.inl h1), h2⟩
          · exact ⟨rows[j], List.mem_append.mpr (.inr (by simp)), h⟩
        · rintro ⟨row, h1, h2⟩
          rcases List.mem_append.mp h1 with h1 | h1
          · exact .inl ⟨row, h1, h2⟩
          · have : row = rows[j] := by simpa using h1
            exact .inr (this ▸ h2)
    · rintro F' δ' M' M3 hs ⟨more, r5, r6, rfl, rfl, hnd, hml, hmem⟩
      refine ws_weak hs ?_
      walk_at "gj"
      refine we_sortK ?_
      walk_at "gj"
      have hGm : StepOk n k rows more := ⟨hnd, fun g => by rw [hmem, List.take_length]⟩
      have hmr := hGr (t + 1) more (hGs t rows more (by omega) hG hGm)
      refine ⟨m, _, kfD, rfl, lk0, fun d hd => ?_, keys_alike, keys_sortable fun r hr e => ?_, keys_depth, fun z es hes => ?_⟩
      · obtain ⟨r, hr, rfl⟩ := List.mem_map.mp hd
        exact ⟨r, rfl, by have := (hmr r hr).1; omega, rfl⟩
      · have := (hmr r hr).1
        rw [e] at this; simp at this; omega
      · obtain ⟨rows', rfl, hp⟩ := rows_perm hes
        refine ⟨[(z, rows'.map rowD)], .cons₂ _ (List.nil_sublist _), rows', z, _, _, _, _, rfl, rfl, hGs t rows rows' (by omega) hG ⟨hp.nodup_iff.mpr hnd, fun g => by rw [hp.mem_iff]; exact hGm.mem g⟩, ?_⟩
        rw [hp.length_eq, Nat.pow_succ]
        omega
  · rintro F' δ' M' M3 hs ⟨rows, a, r3, r4, r5, r6, rfl, rfl, hG, hlen⟩
    obtain ⟨h200, hp⟩ := hpost rows hG
    refine ws_weak hs ?_
    walk_at "gj"
    refine ws_ifP (B := false) (wp_test ?_) (fun hB => by cases hB) (fun hB => ?_)
    · walk_at "gj"
      rw [List.length_map]
      exact ⟨by rw [decide_eq_false (by omega)], rfl, rfl⟩
    · walk_at "gj"
      exact .inl ⟨_, rfl, hp⟩
end
end TL

set_option Elab.async false
set_option linter.all false
set_option autoImplicit false
set_option maxRecDepth 100000
set_option maxHeartbeats 4000000
namespace TL
open PySem PySem.Spec PyProof.Rows L2
local macro_rules | `(tactic| walk_at "lk") => `(tactic| first | assumption | exact lk0 | exact lk1 | exact lk2 | exact lk3 | exact lk4 | exact lr0 | exact lr1 | exact lkH | exact lkF)
/-! one step of the walk: by the reading's head; all else is left -/
local macro_rules | `(tactic| walk_at "s0") => `(tactic| first
  | with_reducible refine ws_seq ?_
  | with_reducible refine ws_pop0 ?_
  | with_reducible refine ws_append ?_
  | with_reducible refine ws_insert ?_
  | with_reducible refine ws_set ?_
  | with_reducible refine ws_drop ?_
  | with_reducible refine ws_ret ?_
  | with_reducible refine ws_asg ?_
  | with_reducible refine ws_next ?_
  | with_reducible refine wg_name ?_
  | with_reducible refine wgs_nameM ?_
  | with_reducible refine wgs_nilM ?_
  | ((with_reducible refine' wg_tup ?h ?k); (case h => exact rfl))
  | with_reducible refine wg_sub ?_
  | with_reducible refine we_andV ?_
  | with_reducible refine we_notV ?_
  | with_reducible refine rc_isi isi_int ?_
  | with_reducible refine rc_isi isi_intb ?_
  | with_reducible refine rc_isi isi_tup ?_
  | with_reducible refine we_orV ?_
  | with_reducible refine we_chain ?_
  | with_reducible refine we_call ?_
  | with_reducible refine rr_eqI ?_
  | ((with_reducible refine' we_var ?h ?k); (case h => exact rfl))
  | with_reducible refine we_int ?_
  | ((with_reducible refine' we_fNv ?m ?h ?k); (case m => assumption); (case h => exact rfl))
  | ((with_reducible refine' we_fWv ?m ?h ?k); (case m => assumption); (case h => exact rfl))
  | ((with_reducible refine' we_fMv ?m ?h ?k); (case m => assumption); (case h => exact rfl))
  | ((with_reducible refine' we_fHv ?m ?h ?k); (case m => assumption); (case h => exact rfl))
  | ((with_reducible refine' we_fFv ?m ?h ?k); (case m => assumption); (case h => exact rfl))
  | with_reducible refine we_str ?_
  | with_reducible refine we_non ?_
  | with_reducible refine we_bl ?_
  | with_reducible refine we_ty ?_
  | with_reducible refine we_op ?_
  | with_reducible refine we_un ?_
  | with_reducible refine we_neg ?_
  | with_reducible refine we_cb ?_
  | with_reducible refine wa_cons ?_
  | with_reducible refine wa_nil ?_
  | with_reducible refine wt_test ?_
  | with_reducible refine wt_B ?_
  | with_reducible refine wt_yes ?_
  | with_reducible refine wt_not ?_
  | with_reducible refine wt_and ?_
  | with_reducible refine wt_or ?_
  | with_reducible refine rr_add ?_
  | with_reducible refine rr_sub ?_
  | with_reducible refine rr_lt ?_
  | with_reducible refine rr_le ?_
  | with_reducible refine rr_gt ?_
  | with_reducible refine rr_ge ?_
  | with_reducible refine rr_isN ?_
  | with_reducible refine rr_eqI ?_
  | with_reducible refine rr_neI ?_
  | with_reducible refine rr_neB ?_
  | with_reducible refine rr_int ?_
  | with_reducible refine rr_notN ?_
  | with_reducible refine rc_abs ?_
  | with_reducible refine rc_inti ?_
  | with_reducible refine rc_intb ?_
  | with_reducible refine rc_lent ?_
  | ((with_reducible refine' rr_ixt ?h ?k); (case h => first | assumption | exact rfl))
  | ((with_reducible refine' rr_ixl ?l ?h ?k); (case l => walk_at "lk"); (case h => first | assumption | exact rfl))
  | ((with_reducible refine' rc_lenl ?l ?k); (case l => walk_at "lk"))
  | with_reducible refine rc_lstt ?_
  | ((with_reducible refine' rc_lstl ?l ?k); (case l => walk_at "lk"))
  | ((with_reducible refine' rc_tupl ?l ?k); (case l => walk_at "lk"))
  | with_reducible refine we_sl ?_
  | with_reducible refine wo_none ?_
  | with_reducible refine wo_some ?_
  | with_reducible refine we_tup ?_
  | with_reducible refine we_lst ?_
  | refine ⟨[], rfl, Nat.le_of_ble_eq_true rfl, ?_⟩
  | refine ⟨[_], rfl, Nat.le_of_ble_eq_true rfl, ?_⟩
  | refine ⟨[_, _], rfl, Nat.le_of_ble_eq_true rfl, ?_⟩
  | refine ⟨[_, _, _], rfl, Nat.le_of_ble_eq_true rfl, ?_⟩
  | refine ⟨[_, _, _, _], rfl, Nat.le_of_ble_eq_true rfl, ?_⟩
  | refine ⟨[_, _, _, _, _], rfl, Nat.le_of_ble_eq_true rfl, ?_⟩
  | refine ⟨_, rfl, ?_⟩)
local macro_rules | `(tactic| walk_at "init") => `(tactic| simp only [δS, cxK, cxK2, entR, entM, List.map_cons, List.map_nil, List.length_cons, List.length_nil, List.replicate, List.cons_append, List.nil_append, Nat.reduceAdd, Nat.reduceSub])
local macro_rules | `(tactic| walk_at "seti0") => `(tactic| (refine' set_ownI (k := 0) ?hk ?hj ?hi ?hn; (case hk => exact rfl); (case hi => exact rfl)))
local macro_rules | `(tactic| walk_at "set0") => `(tactic| (refine' set_own (k := 0) ?hk ?hj ?hi ?hn; (case hk => exact rfl); (case hi => exact rfl)))
local macro_rules | `(tactic| walk_at "seti1") => `(tactic| (refine' set_ownI (k := 1) ?hk ?hj ?hi ?hn; (case hk => exact rfl); (case hi => exact rfl)))
local macro_rules | `(tactic| walk_at "set1") => `(tactic| (refine' set_own (k := 1) ?hk ?hj ?hi ?hn; (case hk => exact rfl); (case hi => exact rfl)))
local macro_rules | `(tactic| walk_at "seti2") => `(tactic| (refine' set_ownI (k := 2) ?hk ?hj ?hi ?hn; (case hk => exact rfl); (case hi => exact rfl)))
local macro_rules | `(tactic| walk_at "set2") => `(tactic| (refine' set_own (k := 2) ?hk ?hj ?hi ?hn; (case hk => exact rfl); (case hi => exact rfl)))
local macro_rules | `(tactic| walk_at "s1") => `(tactic| first | with_reducible refine ws_if ?_ | walk_at "s0")
local macro_rules | `(tactic| walk_at "gj") => `(tactic| repeat walk_at "s0")
local macro_rules | `(tactic| walk_at "go") => `(tactic| repeat walk_at "s1")
section
variable {P : Program} {w : World} {K : PySem.W.Frag} {mg : Str → Option Value} {base : Heap}
def pre_verdict_of (as : List AV) (post : BV → Prop) : Prop := ∃ (i : Nat) (l : List Nat), as = [.im (.int (i : Int)), .ls [wayD l]] ∧ post (.im (.str (if i ∈ l then "lies" else "kept")))
theorem has_verdict_of (D : Df K mg "verdict_of" s_verdict_of P_verdict_of) (T : Tx mg) : Has P w K mg base 1 "verdict_of" P_verdict_of (spP K pre_verdict_of) := by
  obtain ⟨f, fd, F, hm, hb⟩ := D
  refine has_of (k := 0) F hm sc_verdict_of hb (by intro as post h; unfold pre_verdict_of at h; repeat (first | (obtain ⟨e, _⟩ := h; rw [e]; rfl) | (obtain ⟨_, h⟩ := h))) fun cdv A outer s H E hr => ?_
  refine ⟨_, (pss_cons (ps_set (i := 2) sc_verdict_of.nd rfl (Or.inl rfl) (pe_callB (kLen (K := K) rfl) (by rfl) T.len_ bb_len (pa_cons (pe_lc (own := [("row", 3)]) rfl sc_verdict_of.nd (kiList (K := K) rfl (pv 1)) (blkOk_by (own := [("row", 3)]) (N := N_verdict_of) (sc := defScope s_verdict_of) (by decide +kernel)) (fun _ _ _ _ _ => (pg_name (i := 3) sc_verdict_of.nd rfl (Or.inl rfl) (Or.inr rfl))) (fun _ _ _ _ _ => (pts_one (pt_cmpR (kIn (K := K) rfl hr.u65) (pv 0) (pv 3) (by rfl)))) (fun _ _ _ _ _ => (pv 3))) pa_nil)))
      (pss_cons (ps_if (pt_cmpR (kEq (K := K) rfl hr.units) (pv 2) pe_int (nomark _)) (pss_one (ps_ret pe_str)) pss_nil)
      (pss_cons (ps_if (pt_cmpR (kEq (K := K) rfl hr.units) (pv 2) (pe_callB (kLen (K := K) rfl) (by rfl) T.len_ bb_len (pa_cons (pv 1) pa_nil)) (nomark _)) (pss_one (ps_ret pe_str)) pss_nil)
      (pss_one (ps_ret pe_str))))), ?_⟩
  rintro as post g ⟨i, l, rfl, hpost⟩
  have hin : decide ((i : Int) ∈ l.map fun v : Nat => (v : Int)) = decide (i ∈ l) := dec_iff ⟨fun h => by
    obtain ⟨v, hv, e⟩ := List.mem_map.mp h
    have : v = i := by omega
    exact this ▸ hv, fun h => List.mem_map.mpr ⟨i, h, rfl⟩⟩
  walk_at "init"
  walk_at "gj"
  refine we_lcp (fun _ => decide (i ∈ l)) (fun _ => wayD l) (wi_list ?_)
  walk_at "gj"
  refine ⟨g 1, _, rfl, lr0, by simp, fun _ => lr0, fun j r F' hj ⟨d, hd, hr⟩ => ?_, fun a F' hl => ?_⟩
  · have hj0 : j = 0 := by simpa using hj
    subst hj0
    cases hd
    subst hr
    refine ⟨_, gn_name, ?_⟩
    rw [show wayD l = Dt.tup ((l.map fun v : Nat => (v : Int)).map Dt.int) by show Dt.tup (natD l) = _; rw [natD_ints]]
    walk_at "gj"
    rw [hin]
    exact ⟨rfl, .refl _, fun _ => we_var rfl ⟨rfl, .refl _⟩⟩
  have eL : (List.map (fun _ : Nat => wayD l) (ixs [wayD l].length fun _ => decide (i ∈ l))).length = if i ∈ l then 1 else 0 := by
    rw [List.length_map]
    show ((List.range 1).filter fun _ => decide (i ∈ l)).length = _
    rw [show List.range 1 = [0] from rfl]
    by_cases h : i ∈ l
    · rw [if_pos h, List.filter_cons, if_pos (decide_eq_true h)]; rfl
    · rw [if_neg h, List.filter_cons, if_neg (by simpa using h)]; rfl
  walk_at "gj"
  rw [eL]
  refine ws_ifP (B := !decide (i ∈ l)) (wp_test ?_) (fun hB => ?_) (fun hB => ?_)
  · walk_at "gj"
    by_cases h : i ∈ l <;> simp [h]
  · have h : i ∉ l := by simpa using hB
    rw [if_neg h] at hpost
    walk_at "gj"
    exact .inl ⟨_, rfl, hpost⟩
  · have h : i ∈ l := by simpa using hB
    rw [if_pos h] at hpost
    walk_at "gj"
    refine ws_ifP (B := true) (wp_test ?_) (fun hB => ?_) (fun hB => by cases hB)
    · walk_at "gj"
      rw [if_pos h]
      exact ⟨rfl, rfl, rfl⟩
    · walk_at "gj"
      exact .inl ⟨_, rfl, hpost⟩
def pre_verdicts (as : List AV) (post : BV → Prop) : Prop := ∃ (n : Net) (k : Nat) (h : List Int), as = [.im (netD n), .im (.int (k : Int))] ∧ n.ok ∧ Lone n k h ∧ post (.im (.tup ((List.range n.rs.length).map fun i => .str (if i ∈ ixs n.rs.length (n.lie h) then "lies" else "kept"))))
theorem has_verdicts (D : Df K mg "verdicts" s_verdicts P_verdicts) (T : Tx mg) (G_worlds : Has P w K mg base 9 "worlds" P_worlds (spP K pre_worlds)) (G_lies : Has P w K mg base 3 "lies" P_lies (spP K pre_lies)) (G_verdict_of : Has P w K mg base 1 "verdict_of" P_verdict_of (spP K pre_verdict_of)) : Has P w K mg base 10 "verdicts" P_verdicts (spP K pre_verdicts) := by
  obtain ⟨f, fd, F, hm, hb⟩ := D
  refine has_of (k := 9) F hm sc_verdicts hb (by intro as post h; unfold pre_verdicts at h; repeat (first | (obtain ⟨e, _⟩ := h; rw [e]; rfl) | (obtain ⟨_, h⟩ := h))) fun cdv A outer s H E hr => ?_
  refine ⟨_, (pss_cons (ps_set (i := 2) sc_verdicts.nd rfl (Or.inr rfl) (pe_lc (own := [("heights", 3)]) rfl sc_verdicts.nd (kiTup (K := K) rfl (G_worlds.pe (hr.mono (by omega)) (by rfl) (pa_cons (pv 0) (pa_cons (pv 1) pa_nil)))) (blkOk_by (own := [("heights", 3)]) (N := N_verdicts) (sc := defScope s_verdicts) (by decide +kernel)) (fun _ _ _ _ _ => (pg_name (i := 3) sc_verdicts.nd rfl (Or.inl rfl) (Or.inr rfl))) (fun _ _ _ _ _ => pts_nil) (fun _ _ _ _ _ => (G_lies.pe (hr.mono (by omega)) (by rfl) (pa_cons (pv 0) (pa_cons (pv 3) pa_nil))))))
      (pss_cons (ps_if (pt_cmpR (kEq (K := K) rfl hr.units) (pv 2) (pe_lst pa_nil) (nomark _)) (pss_one (ps_ret (pe_tup pa_nil))) pss_nil)
      (pss_one (ps_ret (pe_callTy (kTup (K := K) rfl) (by rfl) T.tuple_ bb_tuple (pa_cons (pe_lc (own := [("index", 4)]) rfl sc_verdicts.nd (pi_range1 (by rfl) T.range_ (pa_cons (pe_callB (kLen (K := K) rfl) (by rfl) T.len_ bb_len (pa_cons (pe_ix (kIx (K := K) rfl) (pv 0) pe_int (fun _ _ => rfl)) pa_nil)) pa_nil)) (blkOk_by (own := [("index", 4)]) (N := N_verdicts) (sc := defScope s_verdicts) (by decide +kernel)) (fun _ _ _ _ _ => (pg_name (i := 4) sc_verdicts.nd rfl (Or.inl rfl) (Or.inr rfl))) (fun _ _ _ _ _ => pts_nil) (fun _ _ _ _ _ => (G_verdict_of.pe (hr.mono (by omega)) (by rfl) (pa_cons (pv 4) (pa_cons (pv 2) pa_nil))))) pa_nil)))))), ?_⟩
  rintro as post g ⟨n, k, h, rfl, ok, hL, hpost⟩
  have hm2 := ok.m2
  walk_at "init"
  walk_at "gj"
  refine we_lcp (fun _ => true) (fun _ => wayD (ixs n.rs.length (n.lie h))) (wi_tup ?_)
  walk_at "gj"
  obtain ⟨G, g0, gs, gr, ge⟩ := hL.go
  refine ⟨_, .cons (.im _) (.cons (.im _) .nil), n, k, G, rfl, ok, hL.n6, hL.k3, hL.cut, g0, gs, gr, fun rows hG => ?_⟩
  have e := ge rows hG
  subst e
  refine ⟨by simp, ?_⟩
  refine ⟨_, rfl, by simp, fun _ => trivial, fun j r F' hj ⟨d, hd, hr⟩ => ?_, fun a F' hl => ?_⟩
  · have hj0 : j = 0 := by simpa using hj
    subst hj0
    cases hd
    subst hr
    refine ⟨_, gn_name, wt_yes ⟨rfl, .refl _, fun _ => ?_⟩⟩
    rw [row_some]
    walk_at "gj"
    exact ⟨_, .cons (.im _) (.cons (.im _) .nil), n, h, rfl, ok, hL.hl, rfl, .refl _⟩
  rw [show (ixs (List.map rowD [List.map some h]).length fun _ => true).map (fun _ : Nat => wayD (ixs n.rs.length (n.lie h))) = [wayD (ixs n.rs.length (n.lie h))] from rfl]
  have okw : Dt.oks [wayD (ixs n.rs.length (n.lie h))] := fun x hx => by
    cases List.mem_singleton.mp hx
    refine ok_tup oks_nats fun x hx => ?_
    obtain ⟨v, _, rfl⟩ := List.mem_map.mp hx
    rw [dep_int]; omega
  walk_at "go"
  intro e
  walk_at "go"
  refine rr_eqL lk1 lk0 okw (fun x h => by cases h) (fun h => by cases h) (fun _ => ?_)
  refine ⟨_, rfl, (fun h => by cases h), fun _ => ?_⟩
  walk_at "gj"
  refine we_lcp (fun _ => true) (fun i => .str (if i ∈ ixs n.rs.length (n.lie h) then "lies" else "kept")) (wi_rng1 ?_)
  walk_at "gj"
  rw [List.length_map]
  refine ⟨by omega, by omega, fun _ => trivial, fun j r F' hj hr => ?_, fun b F' hl => ?_⟩
  · subst hr
    refine ⟨_, gn_name, wt_yes ⟨rfl, .refl _, fun _ => ?_⟩⟩
    walk_at "gj"
    exact ⟨_, .cons (.im _) (.cons (.ls lk1) .nil), j, _, rfl, rfl, .refl _⟩
  · walk_at "gj"
    rw [ixs_all]
    exact .inl ⟨_, rfl, hpost⟩
def pre_is_safe (as : List AV) (post : BV → Prop) : Prop := ∃ (n : Net) (k : Nat), as = [.im (netD n), .im (.int (k : Int))] ∧ n.ok ∧ (n.names.length = 1 → post (.im (.bl true))) ∧ (n.names.length ≠ 1 → ∀ c S, MinCut n S c → post (.im (.bl (decide (2 * k + 1 ≤ c)))))
theorem has_is_safe (D : Df K mg "is_safe" s_is_safe P_is_safe) (T : Tx mg) (G_strength : Has P w K mg base 5 "strength" P_strength (spP K pre_strength)) : Has P w K mg base 6 "is_safe" P_is_safe (spP K pre_is_safe) := by
  obtain ⟨f, fd, F, hm, hb⟩ := D
  refine has_of (k := 5) F hm sc_is_safe hb (by intro as post h; unfold pre_is_safe at h; repeat (first | (obtain ⟨e, _⟩ := h; rw [e]; rfl) | (obtain ⟨_, h⟩ := h))) fun cdv A outer s H E hr => ?_
  refine ⟨_, (pss_one (ps_ret (pe_or (pe_cmpR (kEq (K := K) rfl hr.units) (pe_callB (kLen (K := K) rfl) (by rfl) T.len_ bb_len (pa_cons (pe_ix (kIx (K := K) rfl) (pv 0) pe_int (fun _ _ => rfl)) pa_nil)) pe_int (nomark _)) (pe_one (pe_cmpR op_geI (G_strength.pe (hr.mono (by omega)) (by rfl) (pa_cons (pv 0) pa_nil)) (pe_op (kAdd (K := K) rfl) (pe_op (kMul (K := K) rfl) pe_int (pv 1)) pe_int) (nomark _)))))), ?_⟩
  rintro as post g ⟨n, k, rfl, ok, h1, h2⟩
  walk_at "init"
  walk_at "gj"
  rw [List.length_map]
  refine ⟨fun e => ?_, fun e => ?_⟩
  · have := of_decide_eq_true e
    exact .inl ⟨_, rfl, h1 (by omega)⟩
  · have := of_decide_eq_false e
    walk_at "gj"
    refine ⟨_, .cons (.im _) .nil, n, rfl, ok, by omega, fun c S hc => ?_⟩
    walk_at "gj"
    refine rr_mul (.inl ⟨by decide, by decide⟩) ?_
    walk_at "gj"
    have hp := h2 (by omega) c S hc
    rw [dec_iff (q := ((2 * (k : Int) + 1 ≤ c))) (by omega)] at hp
    exact .inl ⟨_, rfl, hp⟩
def pre_most_lies (as : List AV) (post : BV → Prop) : Prop := ∃ (n : Net), as = [.im (netD n)] ∧ n.ok ∧ (n.names.length = 1 → post (.im (.int (-1)))) ∧ (n.names.length ≠ 1 → ∀ (c : Nat) S, MinCut n S c → post (.im (.int (((c : Int) - 1).fdiv 2))))
theorem has_most_lies (D : Df K mg "most_lies" s_most_lies P_most_lies) (T : Tx mg) (G_strength : Has P w K mg base 5 "strength" P_strength (spP K pre_strength)) : Has P w K mg base 6 "most_lies" P_most_lies (spP K pre_most_lies) := by
  obtain ⟨f, fd, F, hm, hb⟩ := D
  refine has_of (k := 5) F hm sc_most_lies hb (by intro as post h; unfold pre_most_lies at h; repeat (first | (obtain ⟨e, _⟩ := h; rw [e]; rfl) | (obtain ⟨_, h⟩ := h))) fun cdv A outer s H E hr => ?_
  refine ⟨_, (pss_cons (ps_if (pt_cmpR (kEq (K := K) rfl hr.units) (pe_callB (kLen (K := K) rfl) (by rfl) T.len_ bb_len (pa_cons (pe_ix (kIx (K := K) rfl) (pv 0) pe_int (fun _ _ => rfl)) pa_nil)) pe_int (nomark _)) (pss_one (ps_ret (pe_un un_neg pe_int))) pss_nil)
      (pss_one (ps_ret (pe_op op_divI (pe_op op_subI (G_strength.pe (hr.mono (by omega)) (by rfl) (pa_cons (pv 0) pa_nil)) pe_int) pe_int)))), ?_⟩
  rintro as post g ⟨n, rfl, ok, h1, h2⟩
  walk_at "init"
  walk_at "gj"
  refine ws_ifP (B := decide (n.names.length = 1)) (wp_test ?_) (fun hB => ?_) (fun hB => ?_)
  · walk_at "gj"
    rw [List.length_map]
    exact ⟨bl_iff (by omega), rfl, rfl⟩
  · walk_at "gj"
    exact .inl ⟨_, rfl, h1 (of_decide_eq_true hB)⟩
  · walk_at "gj"
    refine ⟨_, .cons (.im _) .nil, n, rfl, ok, of_decide_eq_false hB, fun c S hc => ?_⟩
    walk_at "gj"
    refine rr_div ⟨by decide, by decide⟩ ?_
    exact .inl ⟨_, rfl, h2 (of_decide_eq_false hB) c S hc⟩
def pre_twins (as : List AV) (post : BV → Prop) : Prop := ∃ (n : Net) (k : Nat), as = [.im (netD n), .im (.int (k : Int))] ∧ n.ok ∧ (n.names.length = 1 → post (.im (.tup []))) ∧
  (n.names.length ≠ 1 → ∀ c S, MinCut n S c → (2 * k + 1 ≤ c → post (.im (.tup []))) ∧ (c < 2 * k + 1 → ∀ c' S', MinCut n S' c' → post (.im (twD n S' k))))
theorem has_twins (D : Df K mg "twins" s_twins P_twins) (T : Tx mg) (G_is_safe : Has P w K mg base 6 "is_safe" P_is_safe (spP K pre_is_safe)) (G_strength_paper : Has P w K mg base 4 "strength_paper" P_strength_paper (spP K pre_strength_paper)) (G_cut_of : Has P w K mg base 1 "cut_of" P_cut_of (spP K pre_cut_of)) : Has P w K mg base 7 "twins" P_twins (spP K pre_twins) := by
  obtain ⟨f, fd, F, hm, hb⟩ := D
  refine has_of (k := 6) F hm sc_twins hb (by intro as post h; unfold pre_twins at h; repeat (first | (obtain ⟨e, _⟩ := h; rw [e]; rfl) | (obtain ⟨_, h⟩ := h))) fun cdv A outer s H E hr => ?_
  refine ⟨_, (pss_cons (ps_if (pt_val (G_is_safe.pe (hr.mono (by omega)) (by rfl) (pa_cons (pv 0) (pa_cons (pv 1) pa_nil)))) (pss_one (ps_ret (pe_tup pa_nil))) pss_nil)
      (pss_cons (ps_set (i := 2) sc_twins.nd rfl (Or.inr rfl) (pe_ix (kIx (K := K) rfl) (G_strength_paper.pe (hr.mono (by omega)) (by rfl) (pa_cons (pv 0) pa_nil)) pe_int (fun _ _ => rfl)))
      (pss_cons (ps_set (i := 3) sc_twins.nd rfl (Or.inl rfl) (pe_slice (kSlT (K := K) rfl) (G_cut_of.pe (hr.mono (by omega)) (by rfl) (pa_cons (pv 0) (pa_cons (pv 2) pa_nil))) po_none (po_some (pv 1))))
      (pss_cons (ps_set (i := 4) sc_twins.nd rfl (Or.inl rfl) (pe_lst pa_nil))
      (pss_cons (ps_for PassesOwn.never rfl (pi_range1 (by rfl) T.range_ (pa_cons (pe_callB (kLen (K := K) rfl) (by rfl) T.len_ bb_len (pa_cons (pe_ix (kIx (K := K) rfl) (pv 0) pe_int (fun _ _ => rfl)) pa_nil)) pa_nil)) (pg_name (i := 5) sc_twins.nd rfl (Or.inl rfl) (Or.inl rfl)) (pss_cons (ps_asg (pe_ix (kIx (K := K) rfl) (pe_ix (kIx (K := K) rfl) (pv 0) pe_int (fun _ _ => rfl)) (pv 5) (fun _ _ => rfl)) (kgTup (K := K) (n := 3) rfl rfl (pgs_cons (pg_name (i := 6) sc_twins.nd rfl (Or.inl rfl) (Or.inl rfl)) (pgs_cons (pg_name (i := 7) sc_twins.nd rfl (Or.inl rfl) (Or.inl rfl)) (pgs_cons (pg_name (i := 8) sc_twins.nd rfl (Or.inl rfl) (Or.inl rfl)) pgs_nil)))))
      (pss_cons (ps_set (i := 8) sc_twins.nd rfl (Or.inl rfl) pe_int)
      (pss_cons (ps_if (pt_cmpR (kIn (K := K) rfl hr.u65) (pv 5) (pv 3) (by rfl)) (pss_one (ps_set (i := 8) sc_twins.nd rfl (Or.inl rfl) (pe_op op_subI (pe_callTy call_intQ (by rfl) T.int_ bb_int (pa_cons (pe_cmpR (kIn (K := K) rfl hr.u65) (pv 7) (pv 2) (by rfl)) pa_nil)) (pe_callTy call_intQ (by rfl) T.int_ bb_int (pa_cons (pe_cmpR (kIn (K := K) rfl hr.u65) (pv 6) (pv 2) (by rfl)) pa_nil))))) pss_nil)
      (pss_one (ps_expr (pe_bm PySem.F.plainAttrs_list PySem.F.slot_list_append PySem.F.type_list_append mt_append (pv 4) (pa_cons (pe_tup (pa_cons (pv 6) (pa_cons (pv 7) (pa_cons (pv 8) pa_nil)))) pa_nil))))))))
      (pss_cons (ps_set (i := 9) sc_twins.nd rfl (Or.inl rfl) (pe_callB (kLen (K := K) rfl) (by rfl) T.len_ bb_len (pa_cons (pe_ix (kIx (K := K) rfl) (pv 0) pe_int (fun _ _ => rfl)) pa_nil)))
      (pss_cons (ps_set (i := 10) sc_twins.nd rfl (Or.inl rfl) (pe_callTy (kTup (K := K) rfl) (by rfl) T.tuple_ bb_tuple (pa_cons (pe_lc (own := [("mark", 11)]) rfl sc_twins.nd (pi_range1 (by rfl) T.range_ (pa_cons (pv 9) pa_nil)) (blkOk_by (own := [("mark", 11)]) (N := N_twins) (sc := defScope s_twins) (by decide +kernel)) (fun _ _ _ _ _ => (pg_name (i := 11) sc_twins.nd rfl (Or.inl rfl) (Or.inr rfl))) (fun _ _ _ _ _ => pts_nil) (fun _ _ _ _ _ => (pe_callTy call_intQ (by rfl) T.int_ bb_int (pa_cons (pe_cmpR (kIn (K := K) rfl hr.u65) (pv 11) (pv 2) (by rfl)) pa_nil)))) pa_nil)))
      (pss_one (ps_ret (pe_tup (pa_cons (pv 2) (pa_cons (pe_tup (pa_cons pe_str (pa_cons (pe_ix (kIx (K := K) rfl) (pv 0) pe_int (fun _ _ => rfl)) (pa_cons (pe_callTy (kTup (K := K) rfl) (by rfl) T.tuple_ bb_tuple (pa_cons (pv 4) pa_nil)) pa_nil)))) (pa_cons (pe_op (kMul (K := K) rfl) (pe_tup (pa_cons pe_int pa_nil)) (pv 9)) (pa_cons (pv 10) pa_nil)))))))))))))), ?_⟩
  rintro as post g ⟨n, k, rfl, ok, h1, h2⟩
  have hm2 := ok.m2
  have hN2 := ok.n2
  walk_at "init"
  walk_at "go"
  by_cases hN1 : n.names.length = 1
  · refine ⟨_, .cons (.im _) (.cons (.im _) .nil), n, k, rfl, ok, fun _ => ?_, fun h => absurd hN1 h⟩
    refine ⟨_, rfl, fun _ => ?_, fun h => by cases h⟩
    walk_at "gj"
    exact .inl ⟨_, rfl, h1 hN1⟩
  refine ⟨_, .cons (.im _) (.cons (.im _) .nil), n, k, rfl, ok, fun h => absurd h hN1, fun _ c S hcut => ?_⟩
  obtain ⟨h3, h4⟩ := h2 hN1 c S hcut
  refine ⟨_, rfl, fun hB => ?_, fun hB => ?_⟩
  · walk_at "gj"
    exact .inl ⟨_, rfl, h3 (of_decide_eq_true hB)⟩
  have hlt : c < 2 * k + 1 := by have := of_decide_eq_false hB; omega
  walk_at "gj"
  refine ⟨_, .cons (.im _) .nil, n, rfl, ok, fun h => absurd h hN1, fun _ c' S' X hcut' => ?_⟩
  have hp := h4 hlt c' S'
  have eS : wayD (ixs n.names.length S') = Dt.tup ((sideZ n.names.length S').map Dt.int) := by show Dt.tup (natD _) = _; rw [sideZ_nat]
  rw [eS]
  walk_at "gj"
  refine ⟨_, .cons (.im _) (.cons (.im _) .nil), n, sideZ n.names.length S', rfl, ok, ?_⟩
  have eC : ixs n.rs.length (inCut n (sideZ n.names.length S')) = cutL n S' := ixs_congr fun i hi => by
    unfold inCut
    rw [in_side (ok.ai hi), in_side (ok.bi hi)]
  rw [eC]
  walk_at "gj"
  refine rs_tup (p := 0) (HT.sIx_none _ _) (HT.sIx_nat _ _ _) ?_
  have eR : ((natD (cutL n S')).drop 0).take (min k (natD (cutL n S')).length - 0) = (((cutL n S').take k).map fun v : Nat => (v : Int)).map Dt.int := by
    rw [List.drop_zero, Nat.sub_zero, ← List.take_eq_take_min, natD_ints, List.map_take, List.map_take]
  rw [eR]
  generalize hR : ((cutL n S').take k).map (fun v : Nat => (v : Int)) = R
  have hin : ∀ i : Nat, decide ((i : Int) ∈ R) = decide (i ∈ (cutL n S').take k) := fun i => dec_iff ⟨fun h => by
    rw [← hR] at h
    obtain ⟨v, hv, e⟩ := List.mem_map.mp h
    have : v = i := by omega
    exact this ▸ hv, fun h => by rw [← hR]; exact List.mem_map.mpr ⟨i, h, rfl⟩⟩
  walk_at "gj"
  intro q
  walk_at "gj"
  refine ws_forW (wi_rng1 ?_)
  walk_at "gj"
  rw [List.length_map]
  generalize hZ : sideZ n.names.length S' = Z
  refine ⟨by omega, fun i F' δ' M' => ∃ r5 r6 r7 r8, δ' = [some (.im (netD n)), some (.im (.int (k : Int))), some (.im (.tup (Z.map Dt.int))), some (.im (.tup (R.map Dt.int))), some (.ad (.ref q)), r5, r6, r7, r8, none, none, none] ∧ M' = [(q, (List.range i).map fun j => rdD ⟨(n.rd j).a, (n.rd j).b, twV n S' k j⟩)],
    ⟨_, .refl _, _, _, _, _, rfl, rfl⟩, fun _ _ _ _ _ _ _ _ => trivial, ?_, ?_⟩
  · rintro i x F' δ' M' hi hx ⟨r5, r6, r7, r8, rfl, rfl⟩
    subst hx
    have i1 := at_rd (n := n) hi
    walk_at "gj"
    refine Ws.mono (N := fun F' δ' M' => δ' = [some (.im (netD n)), some (.im (.int (k : Int))), some (.im (.tup (Z.map Dt.int))), some (.im (.tup (R.map Dt.int))), some (.ad (.ref q)), some (.im (.int (i : Int))), some (.im (.int (n.rd i).a)), some (.im (.int (n.rd i).b)), some (.im (.int (twV n S' k i))), none, none, none] ∧ M' = [(q, (List.range i).map fun j => rdD ⟨(n.rd j).a, (n.rd j).b, twV n S' k j⟩)]) ?_ ?_
    · refine ws_ifP (B := decide (i ∈ (cutL n S').take k)) (wp_test ?_) (fun hB => ?_) (fun hB => ?_)
      · walk_at "gj"
        rw [hin]; exact ⟨rfl, rfl, rfl⟩
      · have h := of_decide_eq_true hB
        walk_at "gj"
        refine ⟨?_, rfl⟩
        rw [← hZ, in_side (ok.ai hi), in_side (ok.bi hi)]
        unfold twV
        rw [if_pos h]
        rfl
      · have h := of_decide_eq_false hB
        walk_at "gj"
        refine ⟨?_, rfl⟩
        unfold twV
        rw [if_neg h]
        rfl
    · rintro F' δ' M' ⟨rfl, rfl⟩
      walk_at "gj"
      refine ⟨_, _, rfl, lk0, ?_⟩
      walk_at "gj"
      refine app_own (k := 0) rfl (by rw [List.length_map, List.length_range]; omega) ?_
      refine ⟨_, .refl _, _, _, _, _, rfl, ?_⟩
      rw [List.range_succ, List.map_append]
      rfl
  · rintro F' δ' M' M3 hs ⟨r5, r6, r7, r8, rfl, rfl⟩
    refine ws_weak hs ?_
    walk_at "gj"
    refine we_lcp (fun _ => true) (fun v => .int (bI (S' v))) (wi_rng1 ?_)
    walk_at "gj"
    rw [List.length_map]
    refine ⟨by omega, by omega, fun _ => trivial, fun v r F' hv hr => ?_, fun a F' hl => ?_⟩
    · subst hr
      refine ⟨_, gn_name, wt_yes ⟨rfl, .refl _, fun _ => ?_⟩⟩
      walk_at "gj"
      rw [← hZ, in_side hv]
      exact ⟨rfl, .refl _⟩
    rw [ixs_all]
    walk_at "gj"
    refine rr_rep1t (n := n.names.length) rfl (by omega) ?_
    walk_at "gj"
    refine .inl ⟨_, rfl, ?_⟩
    have hp' := hp hcut'
    unfold twD twNet at hp'
    rw [sideZ_nat, hZ] at hp'
    unfold netD at hp'
    rw [List.map_map] at hp'
    exact hp'
end
end TL

set_option Elab.async false
set_option linter.all false
set_option autoImplicit false
set_option maxRecDepth 100000
set_option maxHeartbeats 4000000
namespace TL
open PySem PySem.Spec PyProof.Rows L2
local macro_rules | `(tactic| walk_at "lk") => `(tactic| first | assumption | exact lk0 | exact lk1 | exact lk2 | exact lk3 | exact lk4 | exact lr0 | exact lr1 | exact lkH | exact lkF)
/-! one step of the walk: by the reading's head; all else is left -/
local macro_rules | `(tactic| walk_at "s0") => `(tactic| first
  | with_reducible refine ws_seq ?_
  | with_reducible refine ws_pop0 ?_
  | with_reducible refine ws_append ?_
  | with_reducible refine ws_insert ?_
  | with_reducible refine ws_set ?_
  | with_reducible refine ws_drop ?_
  | with_reducible refine ws_ret ?_
  | with_reducible refine ws_asg ?_
  | with_reducible refine ws_next ?_
  | with_reducible refine wg_name ?_
  | with_reducible refine wgs_nameM ?_
  | with_reducible refine wgs_nilM ?_
  | ((with_reducible refine' wg_tup ?h ?k); (case h => exact rfl))
  | with_reducible refine wg_sub ?_
  | with_reducible refine we_andV ?_
  | with_reducible refine we_notV ?_
  | with_reducible refine rc_isi isi_int ?_
  | with_reducible refine rc_isi isi_intb ?_
  | with_reducible refine rc_isi isi_tup ?_
  | with_reducible refine we_orV ?_
  | with_reducible refine we_chain ?_
  | with_reducible refine we_call ?_
  | with_reducible refine rr_eqI ?_
  | ((with_reducible refine' we_var ?h ?k); (case h => exact rfl))
  | with_reducible refine we_int ?_
  | ((with_reducible refine' we_fNv ?m ?h ?k); (case m => assumption); (case h => exact rfl))
  | ((with_reducible refine' we_fWv ?m ?h ?k); (case m => assumption); (case h => exact rfl))
  | ((with_reducible refine' we_fMv ?m ?h ?k); (case m => assumption); (case h => exact rfl))
  | ((with_reducible refine' we_fHv ?m ?h ?k); (case m => assumption); (case h => exact rfl))
  | ((with_reducible refine' we_fFv ?m ?h ?k); (case m => assumption); (case h => exact rfl))
  | with_reducible refine we_str ?_
  | with_reducible refine we_non ?_
  | with_reducible refine we_bl ?_
  | with_reducible refine we_ty ?_
  | with_reducible refine we_op ?_
  | with_reducible refine we_un ?_
  | with_reducible refine we_neg ?_
  | with_reducible refine we_cb ?_
  | with_reducible refine wa_cons ?_
  | with_reducible refine wa_nil ?_
  | with_reducible refine wt_test ?_
  | with_reducible refine wt_B ?_
  | with_reducible refine wt_yes ?_
  | with_reducible refine wt_not ?_
  | with_reducible refine wt_and ?_
  | with_reducible refine wt_or ?_
  | with_reducible refine rr_add ?_
  | with_reducible refine rr_sub ?_
  | with_reducible refine rr_lt ?_
  | with_reducible refine rr_le ?_
  | with_reducible refine rr_gt ?_
  | with_reducible refine rr_ge ?_
  | with_reducible refine rr_isN ?_
  | with_reducible refine rr_eqI ?_
  | with_reducible refine rr_neI ?_
  | with_reducible refine rr_neB ?_
  | with_reducible refine rr_int ?_
  | with_reducible refine rr_notN ?_
  | with_reducible refine rc_abs ?_
  | with_reducible refine rc_inti ?_
  | with_reducible refine rc_intb ?_
  | with_reducible refine rc_lent ?_
  | ((with_reducible refine' rr_ixt ?h ?k); (case h => first | assumption | exact rfl))
  | ((with_reducible refine' rr_ixl ?l ?h ?k); (case l => walk_at "lk"); (case h => first | assumption | exact rfl))
  | ((with_reducible refine' rc_lenl ?l ?k); (case l => walk_at "lk"))
  | with_reducible refine rc_lstt ?_
  | ((with_reducible refine' rc_lstl ?l ?k); (case l => walk_at "lk"))
  | ((with_reducible refine' rc_tupl ?l ?k); (case l => walk_at "lk"))
  | with_reducible refine we_sl ?_
  | with_reducible refine wo_none ?_
  | with_reducible refine wo_some ?_
  | with_reducible refine we_tup ?_
  | with_reducible refine we_lst ?_
  | refine ⟨[], rfl, Nat.le_of_ble_eq_true rfl, ?_⟩
  | refine ⟨[_], rfl, Nat.le_of_ble_eq_true rfl, ?_⟩
  | refine ⟨[_, _], rfl, Nat.le_of_ble_eq_true rfl, ?_⟩
  | refine ⟨[_, _, _], rfl, Nat.le_of_ble_eq_true rfl, ?_⟩
  | refine ⟨[_, _, _, _], rfl, Nat.le_of_ble_eq_true rfl, ?_⟩
  | refine ⟨[_, _, _, _, _], rfl, Nat.le_of_ble_eq_true rfl, ?_⟩
  | refine ⟨_, rfl, ?_⟩)
local macro_rules | `(tactic| walk_at "init") => `(tactic| simp only [δS, cxK, cxK2, entR, entM, List.map_cons, List.map_nil, List.length_cons, List.length_nil, List.replicate, List.cons_append, List.nil_append, Nat.reduceAdd, Nat.reduceSub])
local macro_rules | `(tactic| walk_at "seti0") => `(tactic| (refine' set_ownI (k := 0) ?hk ?hj ?hi ?hn; (case hk => exact rfl); (case hi => exact rfl)))
local macro_rules | `(tactic| walk_at "set0") => `(tactic| (refine' set_own (k := 0) ?hk ?hj ?hi ?hn; (case hk => exact rfl); (case hi => exact rfl)))
local macro_rules | `(tactic| walk_at "seti1") => `(tactic| (refine' set_ownI (k := 1) ?hk ?hj ?hi ?hn; (case hk => exact rfl); (case hi => exact rfl)))
local macro_rules | `(tactic| walk_at "set1") => `(tactic| (refine' set_own (k := 1) ?hk ?hj ?hi ?hn; (case hk => exact rfl); (case hi => exact rfl)))
local macro_rules | `(tactic| walk_at "seti2") => `(tactic| (refine' set_ownI (k := 2) ?hk ?hj ?hi ?hn; (case hk => exact rfl); (case hi => exact rfl)))
local macro_rules | `(tactic| walk_at "set2") => `(tactic| (refine' set_own (k := 2) ?hk ?hj ?hi ?hn; (case hk => exact rfl); (case hi => exact rfl)))
local macro_rules | `(tactic| walk_at "s1") => `(tactic| first | with_reducible refine ws_if ?_ | walk_at "s0")
local macro_rules | `(tactic| walk_at "gj") => `(tactic| repeat walk_at "s0")
local macro_rules | `(tactic| walk_at "go") => `(tactic| repeat walk_at "s1")
section
variable {P : Program} {w : World} {K : PySem.W.Frag} {mg : Str → Option Value} {base : Heap}
def pre_best_paper (as : List AV) (post : BV → Prop) : Prop := ∃ (n : Net), as = [.im (netD n)] ∧ n.ok ∧ ∀ h f, Best n h f → post (.im (.tup [.str "best", .tup (h.map Dt.int), .tup (f.map Dt.int)]))
def pre_judge (as : List AV) (post : BV → Prop) : Prop := ∃ (n : Net) (h f : List Int), as = [.im (netD n), .im (.tup [.str "best", .tup (h.map Dt.int), .tup (f.map Dt.int)])] ∧ n.ok ∧ h.length = n.names.length ∧ h.getD 0 0 = 0 ∧ f.length = n.rs.length ∧ (∀ x ∈ f, -1 ≤ x ∧ x ≤ 1) ∧ evenF n (fn f) ∧ n.cost h = worthF n (fn f) ∧ post (.im (.bl true))
theorem has_judge (D : Df K mg "judge" s_judge P_judge) (T : Tx mg) (G_judge_best : Has P w K mg base 4 "judge_best" P_judge_best (spP K pre_judge_best)) : Has P w K mg base 5 "judge" P_judge (spP K pre_judge) := by
  obtain ⟨f, fd, F, hm, hb⟩ := D
  refine has_of (k := 4) F hm sc_judge hb (by intro as post h; unfold pre_judge at h; repeat (first | (obtain ⟨e, _⟩ := h; rw [e]; rfl) | (obtain ⟨_, h⟩ := h))) fun cdv A outer s H E hr => ?_
  refine ⟨_, (pss_cons (ps_if (PW.pt (pw_or (pt_not (pt_val (pe_callB (kIsi (K := K) rfl) (by rfl) T.isinstance_ bb_isinstance (pa_cons (pv 1) (pa_cons (pe_bltn (v := .ty "tuple") (by rfl) T.tuple_ bb_tuple rfl) pa_nil))))) (pw_or1 (pt_cmpR (kEq (K := K) rfl hr.units) (pe_callB (kLen (K := K) rfl) (by rfl) T.len_ bb_len (pa_cons (pv 1) pa_nil)) pe_int (nomark _))))) (pss_one (ps_ret pe_bl)) pss_nil)
      (pss_cons (ps_if (PW.pt (pw_and (pt_cmpR (kEq (K := K) rfl hr.units) (pe_ix (kIx (K := K) rfl) (pv 1) pe_int (fun _ _ => rfl)) pe_str (nomark _)) (pw_and1 (pt_cmpR (kEq (K := K) rfl hr.units) (pe_callB (kLen (K := K) rfl) (by rfl) T.len_ bb_len (pa_cons (pv 1) pa_nil)) pe_int (nomark _))))) (pss_one (ps_ret (G_judge_best.pe (hr.mono (by omega)) (by rfl) (pa_cons (pv 0) (pa_cons (pe_ix (kIx (K := K) rfl) (pv 1) pe_int (fun _ _ => rfl)) (pa_cons (pe_ix (kIx (K := K) rfl) (pv 1) pe_int (fun _ _ => rfl)) pa_nil)))))) pss_nil)
      (pss_cons (ps_if (PW.pt (pw_and (pt_cmpR (kEq (K := K) rfl hr.units) (pe_ix (kIx (K := K) rfl) (pv 1) pe_int (fun _ _ => rfl)) pe_str (nomark _)) (pw_and1 (pt_cmpR (kEq (K := K) rfl hr.units) (pe_callB (kLen (K := K) rfl) (by rfl) T.len_ bb_len (pa_cons (pv 1) pa_nil)) pe_int (nomark _))))) pss_never pss_nil)
      (pss_one (ps_ret pe_bl))))), ?_⟩
  rintro as post g ⟨n, h, f, rfl, ok, hl, h0, hf, hfb, hev, hcw, hpost⟩
  have os : ∀ s : Str, PyData.strOk s = true → (Dt.str s).ok := fun s h => ok_str h
  walk_at "init"
  walk_at "go"
  refine ⟨(fun h => by cases h), fun _ => ?_⟩
  walk_at "go"
  refine ⟨(fun h => by simp at h), fun _ => ?_⟩
  walk_at "gj"
  refine ws_ifP (B := true && true) (wp_and (wp_test ?_) fun _ => wp_test ?_) (fun _ => ?_) (fun h => by cases h)
  · walk_at "gj"
    exact rr_eqO (os _ (by decide +kernel)) (os _ (by decide +kernel)) (fun _ => ⟨rfl, rfl, rfl⟩) (fun h => absurd rfl h)
  · walk_at "gj"
    exact ⟨rfl, rfl, rfl⟩
  · walk_at "gj"
    exact ⟨_, .cons (.im _) (.cons (.im _) (.cons (.im _) .nil)), n, h, f, rfl, ok, hl, h0, hf, hfb, hev, hcw, .inl ⟨_, rfl, hpost⟩⟩
def pre_bounds (as : List AV) (post : BV → Prop) : Prop := ∃ (n : Net) (f : List Int), as = [.im (netD n), .im (.tup (f.map Dt.int))] ∧ n.ok ∧ f.length = n.rs.length ∧ post (.ls ((bnd n (fn f) n.rs.length).map bD))
theorem has_bounds (D : Df K mg "bounds" s_bounds P_bounds) (T : Tx mg) : Has P w K mg base 1 "bounds" P_bounds (spP K pre_bounds) := by
  obtain ⟨f, fd, F, hm, hb⟩ := D
  refine has_of (k := 0) F hm sc_bounds hb (by intro as post h; unfold pre_bounds at h; repeat (first | (obtain ⟨e, _⟩ := h; rw [e]; rfl) | (obtain ⟨_, h⟩ := h))) fun cdv A outer s H E hr => ?_
  refine ⟨_, (pss_cons (ps_set (i := 2) sc_bounds.nd rfl (Or.inl rfl) (pe_lst pa_nil))
      (pss_cons (ps_for PassesOwn.never rfl (kiZip (K := K) rfl (by rfl) T.zip_ (pa_cons (pe_ix (kIx (K := K) rfl) (pv 0) pe_int (fun _ _ => rfl)) (pa_cons (pv 1) pa_nil))) (kgTup (K := K) (n := 2) rfl rfl (pgs_cons (pg_name (i := 3) sc_bounds.nd rfl (Or.inl rfl) (Or.inl rfl)) (pgs_cons (pg_name (i := 4) sc_bounds.nd rfl (Or.inl rfl) (Or.inl rfl)) pgs_nil))) (pss_cons (ps_if (pt_cmpR op_geI (pv 4) pe_int (nomark _)) (pss_one (ps_expr (pe_bm PySem.F.plainAttrs_list PySem.F.slot_list_append PySem.F.type_list_append mt_append (pv 2) (pa_cons (pe_tup (pa_cons (pe_ix (kIx (K := K) rfl) (pv 3) pe_int (fun _ _ => rfl)) (pa_cons (pe_ix (kIx (K := K) rfl) (pv 3) pe_int (fun _ _ => rfl)) (pa_cons (pe_ix (kIx (K := K) rfl) (pv 3) pe_int (fun _ _ => rfl)) pa_nil)))) pa_nil)))) pss_nil)
      (pss_one (ps_if (pt_cmpR op_leI (pv 4) pe_int (nomark _)) (pss_one (ps_expr (pe_bm PySem.F.plainAttrs_list PySem.F.slot_list_append PySem.F.type_list_append mt_append (pv 2) (pa_cons (pe_tup (pa_cons (pe_ix (kIx (K := K) rfl) (pv 3) pe_int (fun _ _ => rfl)) (pa_cons (pe_ix (kIx (K := K) rfl) (pv 3) pe_int (fun _ _ => rfl)) (pa_cons (pe_un un_neg (pe_ix (kIx (K := K) rfl) (pv 3) pe_int (fun _ _ => rfl))) pa_nil)))) pa_nil)))) pss_nil))))
      (pss_one (ps_ret (pv 2))))), ?_⟩
  rintro as post g ⟨n, f, rfl, ok, hf, hpost⟩
  have hm2 := ok.m2
  walk_at "init"
  walk_at "go"
  intro q
  walk_at "go"
  refine ws_forW (wi_zipt ?_)
  walk_at "go"
  have hn : min (n.rs.map rdD).length (f.map Dt.int).length = n.rs.length := by simp [hf]
  refine ⟨_, _, rfl, rfl, ?_⟩
  rw [hn]
  refine ⟨fun i F' δ' M' => ∃ r3 r4, δ' = [some (.im (netD n)), some (.im (.tup (f.map Dt.int))), some (.ad (.ref q)), r3, r4] ∧ M' = [(q, (bnd n (fn f) i).map bD)], ⟨_, .refl _, _, _, rfl, rfl⟩, fun _ _ _ _ _ _ _ _ => trivial, ?_, ?_⟩
  · rintro i x F' δ' M' hi ⟨d, d2, hd, hd2, rfl⟩ ⟨r3, r4, rfl, rfl⟩
    obtain ⟨_, rfl⟩ := rds_get hd
    rw [List.getElem?_map, List.getElem?_eq_getElem (by omega)] at hd2
    cases hd2
    have e0 : f[i]'(by omega) = fn f i := by unfold fn; rw [List.getD_eq_getElem?_getD, List.getElem?_eq_getElem (by omega)]; rfl
    rw [e0]
    have hbl := bnd_len (n := n) (f := fn f) (k := i)
    walk_at "gj"
    refine Ws.mono (N := fun F' δ' M' => δ' = [some (.im (netD n)), some (.im (.tup (f.map Dt.int))), some (.ad (.ref q)), some (.im (rdD (n.rd i))), some (.im (.int (fn f i)))] ∧ M' = [(q, (bnd n (fn f) i ++ (if 0 ≤ fn f i then [((n.rd i).a, (n.rd i).b, (n.rd i).v)] else [])).map bD)]) ?_ ?_
    · refine ws_ifP (B := decide (0 ≤ fn f i)) (wp_test ?_) (fun hB => ?_) (fun hB => ?_)
      · walk_at "gj"
        exact ⟨rfl, rfl, rfl⟩
      · walk_at "gj"
        refine ⟨_, _, rfl, lk0, ?_⟩
        walk_at "gj"
        refine app_own (k := 0) rfl (by rw [List.length_map]; omega) ?_
        rw [if_pos (of_decide_eq_true hB), List.map_append]
        exact ⟨rfl, rfl⟩
      · walk_at "gj"
        rw [if_neg (of_decide_eq_false hB), List.append_nil]
        exact ⟨rfl, rfl⟩
    · rintro F' δ' M' ⟨rfl, rfl⟩
      have hl2 : (bnd n (fn f) i ++ (if 0 ≤ fn f i then [((n.rd i).a, (n.rd i).b, (n.rd i).v)] else [])).length ≤ 2 * i + 1 := by
        rw [List.length_append]; split <;> simp <;> omega
      refine ws_ifP (B := decide (fn f i ≤ 0)) (wp_test ?_) (fun hB => ?_) (fun hB => ?_)
      · walk_at "gj"
        exact ⟨rfl, rfl, rfl⟩
      · walk_at "gj"
        refine ⟨_, _, rfl, lk0, ?_⟩
        walk_at "gj"
        refine app_own (k := 0) rfl (by rw [List.length_map]; omega) ?_
        refine ⟨_, .refl _, _, _, rfl, ?_⟩
        rw [bnd, if_pos (of_decide_eq_true hB), ← List.append_assoc, List.map_append (l₂ := [((n.rd i).b, (n.rd i).a, -(n.rd i).v)])]
        rfl
      · walk_at "gj"
        refine ⟨_, .refl _, _, _, rfl, ?_⟩
        rw [bnd, if_neg (of_decide_eq_false hB), List.append_nil]
  · rintro F' δ' M' M3 hs ⟨r3, r4, rfl, rfl⟩
    refine ws_weak hs ?_
    walk_at "go"
    exact .inr ⟨_, _, rfl, by simp, hpost⟩
def pre_greatest (as : List AV) (post : BV → Prop) : Prop := ∃ (N : Nat) (E : List Edge) (p : Nat → Int) (C : Nat), as = [.im (.int (N : Int)), .ls (E.map bD)] ∧ 1 ≤ N ∧ N ≤ 100 ∧ E.length ≤ 2000 ∧ Feas N E p C ∧ ∀ g, Great N E g → post (.ls (g.map optD))
theorem has_greatest (D : Df K mg "greatest" s_greatest P_greatest) (T : Tx mg) : Has P w K mg base 1 "greatest" P_greatest (spP K pre_greatest) := by
  obtain ⟨f, fd, F, hm, hb⟩ := D
  refine has_of (k := 0) F hm sc_greatest hb (by intro as post h; unfold pre_greatest at h; repeat (first | (obtain ⟨e, _⟩ := h; rw [e]; rfl) | (obtain ⟨_, h⟩ := h))) fun cdv A outer s H E hr => ?_
  refine ⟨_, (pss_cons (ps_set (i := 2) sc_greatest.nd rfl (Or.inl rfl) (pe_op (kMul (K := K) rfl) (pe_lst (pa_cons pe_non pa_nil)) (pv 0)))
      (pss_cons (ps_asg pe_int (pg_sub (pv 2) pe_int set_list))
      (pss_cons (ps_set (i := 3) sc_greatest.nd rfl (Or.inl rfl) pe_bl)
      (pss_cons (ps_while PassesOwn.never (pt_val (pv 3)) (pss_cons (ps_set (i := 3) sc_greatest.nd rfl (Or.inl rfl) pe_bl)
      (pss_one (ps_for PassesOwn.never rfl (kiList (K := K) rfl (pv 1)) (kgTup (K := K) (n := 3) rfl rfl (pgs_cons (pg_name (i := 4) sc_greatest.nd rfl (Or.inl rfl) (Or.inl rfl)) (pgs_cons (pg_name (i := 5) sc_greatest.nd rfl (Or.inl rfl) (Or.inl rfl)) (pgs_cons (pg_name (i := 6) sc_greatest.nd rfl (Or.inl rfl) (Or.inl rfl)) pgs_nil)))) (pss_one (ps_if (PW.pt (pw_and (pt_cmpR op_notNT (pe_ix (kIx (K := K) rfl) (pv 2) (pv 4) (fun _ _ => rfl)) pe_non (nomark _)) (pw_and1 (PW.pt (pw_or (pt_cmpR op_isNT (pe_ix (kIx (K := K) rfl) (pv 2) (pv 5) (fun _ _ => rfl)) pe_non (nomark _)) (pw_or1 (pt_cmpR op_ltI (pe_op (kAdd (K := K) rfl) (pe_ix (kIx (K := K) rfl) (pv 2) (pv 4) (fun _ _ => rfl)) (pv 6)) (pe_ix (kIx (K := K) rfl) (pv 2) (pv 5) (fun _ _ => rfl)) (nomark _)))))))) (pss_cons (ps_asg (pe_op (kAdd (K := K) rfl) (pe_ix (kIx (K := K) rfl) (pv 2) (pv 4) (fun _ _ => rfl)) (pv 6)) (pg_sub (pv 2) (pv 5) set_list))
      (pss_one (ps_set (i := 3) sc_greatest.nd rfl (Or.inl rfl) pe_bl))) pss_nil))))))
      (pss_one (ps_ret (pv 2))))))), ?_⟩
  rintro as post g ⟨N, E, p, C, rfl, hN1, hN, hE, hF, hpost⟩
  walk_at "init"
  walk_at "go"
  intro a
  walk_at "go"
  refine rr_rep1 List.mem_cons_self rfl (by omega) fun b => ?_
  walk_at "go"
  refine set_own (k := 0) (j := 0) rfl (by rw [List.length_replicate]; omega) rfl ?_
  walk_at "go"
  have e0 : (List.replicate N Dt.non).set 0 (.int 0) = (g0 N).map optD := by
    unfold g0
    rw [List.map_set, List.map_replicate]; rfl
  rw [e0]
  refine ws_whileW (fun m F' δ' M' => ∃ (r : Row) (c : Bool), ∃ r4 r5 r6, δ' = [some (.im (.int (N : Int))), some (.ad (.ref (g 1))), some (.ad (.ref b)), some (.im (.bl c)), r4, r5, r6] ∧ M' = [(b, r.map optD)] ∧ BF N p C r ∧ r.getD 0 none = some 0 ∧ (c = false → Great N E r) ∧ m = 2 * meas p C r + c.toNat) _ ⟨_, .cons₂ _ (List.nil_sublist _), g0 N, true, _, _, _, rfl, rfl, bf0 hN1 hF.z, ?_, (fun h => by cases h), rfl⟩ ?_
  · unfold g0
    rw [getD_set_selfR (by rw [List.length_replicate]; exact hN1)]
  rintro m F' δ' M' ⟨r, c, r4, r5, r6, rfl, rfl, hB, hz, hG, hm⟩
  walk_at "go"
  refine ⟨fun hc => ?_, fun hc => ?_⟩
  rotate_left
  · walk_at "go"
    exact .inr ⟨_, _, rfl, by simp, hpost r (hG hc)⟩
  subst hc
  walk_at "go"
  refine ws_for (wi_list ?_)
  walk_at "go"
  refine ⟨g 1, _, rfl, lr0, ?_⟩
  rw [List.length_map]
  refine ⟨fun j F' δ' M' => ∃ (r' : Row) (c : Bool), ∃ r4 r5 r6, δ' = [some (.im (.int (N : Int))), some (.ad (.ref (g 1))), some (.ad (.ref b)), some (.im (.bl c)), r4, r5, r6] ∧ M' = [(b, r'.map optD)] ∧ BF N p C r' ∧ r'.getD 0 none = some 0 ∧ meas p C r' ≤ meas p C r ∧ (c = true → meas p C r' < meas p C r) ∧ (c = false → ∀ e ∈ E.take j, ∀ x, r'.getD e.1 none = some x → ∃ y, r'.getD e.2.1 none = some y ∧ y ≤ x + e.2.2), ⟨r, false, _, _, _, rfl, rfl, hB, hz, Nat.le_refl _, (fun h => by cases h), fun _ e he => by cases he⟩, fun _ _ _ _ _ _ => lr0, ?_, ?_⟩
  · rintro j x F' δ' M' hj ⟨d, hd, rfl⟩ ⟨r', c, r4, r5, r6, rfl, rfl, hB', hz', hle, hlt, hti⟩
    have hEj : E[j]? = some E[j] := List.getElem?_eq_getElem hj
    rw [List.getElem?_map, hEj] at hd
    cases hd
    have hEm : E[j] ∈ E := List.getElem_mem hj
    have h1 := hF.lt _ hEm
    have hlo := hF.lo _ hEm
    have hhi := hF.hi _ hEm
    have hl := hB'.len
    have htk : ∀ e, e ∈ E.take (j + 1) ↔ e ∈ E.take j ∨ e = E[j] := fun e => by
      rw [List.take_add_one, hEj, List.mem_append]; simp
    generalize E[j] = ed at *
    obtain ⟨u, v, co⟩ := ed
    have h1 : u < N ∧ v < N := h1
    have hlo : 0 ≤ co + p u - p v := hlo
    have hhi : co + p u - p v ≤ C := hhi
    have ia := at_opt (r := r') (i := u) (by omega)
    have ib := at_opt (r := r') (i := v) (by omega)
    have stay : (∀ x, r'.getD u none = some x → ∃ y, r'.getD v none = some y ∧ y ≤ x + co) → (c = false → ∀ e ∈ E.take (j + 1), ∀ x, r'.getD e.1 none = some x → ∃ y, r'.getD e.2.1 none = some y ∧ y ≤ x + e.2.2) := fun h hc e he x hx => by
      rcases (htk e).mp he with he | rfl
      · exact hti hc e he x hx
      · exact h x hx
    have go : ∀ x, r'.getD u none = some x → (∀ y, r'.getD v none = some y → x + co < y) → BF N p C (r'.set v (some (x + co))) ∧ (r'.set v (some (x + co))).getD 0 none = some 0 ∧ meas p C (r'.set v (some (x + co))) < meas p C r := fun x hx hn => by
      obtain ⟨z1, z2⟩ := hB'.upd h1.2 (of_getD hx) hlo hhi hn
      refine ⟨z1, ?_, by omega⟩
      by_cases q : v = 0
      · subst q
        exfalso
        have h3 := hn 0 hz'
        have h4 := (hB'.bd u x (of_getD hx)).1
        have h5 : 0 ≤ co + p u - p 0 := hlo
        rw [hF.z] at h5
        omega
      · rw [getD_set_neR (fun z => q z.symm)]; exact hz'
    show Wg _ _ (.im (.tup [.int (u : Int), .int (v : Int), .int co])) _ _ _ _
    walk_at "gj"
    cases eu : r'.getD u none with
    | none =>
      rw [eu] at ia
      refine ws_ifP (B := false && false) (wp_and (wp_test ?_) fun h => by cases h) (fun hB => by cases hB) (fun _ => ?_)
      · walk_at "gj"
        exact ⟨rfl, rfl, rfl⟩
      · walk_at "gj"
        exact ⟨r', c, _, _, _, rfl, rfl, hB', hz', hle, hlt, stay fun x hx => by rw [eu] at hx; cases hx⟩
    | some x =>
      rw [eu] at ia
      have ia' : atI (r'.map optD) (u : Int) = some (.int x) := ia
      have fin : (∀ y, r'.getD v none = some y → x + co < y) → ∃ (r'_1 : Row) (c : Bool), ∃ r4 r5 r6, (([some (.im (.int (N : Int))), some (.ad (.ref (g 1))), some (.ad (.ref b)), some (.im (.bl true)), some (.im (.int (u : Int))), some (.im (.int (v : Int))), some (.im (.int co))] : List (Option RV))) = [some (.im (.int (N : Int))), some (.ad (.ref (g 1))), some (.ad (.ref b)), some (.im (.bl c)), r4, r5, r6] ∧ [(b, (r'.set v (some (x + co))).map optD)] = [(b, r'_1.map optD)] ∧ BF N p C r'_1 ∧ r'_1.getD 0 none = some 0 ∧ meas p C r'_1 ≤ meas p C r ∧ (c = true → meas p C r'_1 < meas p C r) ∧ (c = false → ∀ e ∈ E.take (j + 1), ∀ x, r'_1.getD e.1 none = some x → ∃ y, r'_1.getD e.2.1 none = some y ∧ y ≤ x + e.2.2) := fun hn => by
        obtain ⟨z1, z2, z3⟩ := go x eu hn
        exact ⟨_, true, _, _, _, rfl, rfl, z1, z2, by omega, fun _ => z3, fun h => by cases h⟩
      have eset : (r'.map optD).set v (.int (x + co)) = (r'.set v (some (x + co))).map optD := by rw [List.map_set]; rfl
      cases ev : r'.getD v none with
      | none =>
        rw [ev] at ib
        refine ws_ifP (B := true && (true || false)) (wp_and (wp_test ?_) fun _ => wp_or (wp_test ?_) fun h => by cases h) (fun _ => ?_) (fun h => by cases h)
        · walk_at "gj"
          exact ⟨rfl, rfl, rfl⟩
        · walk_at "gj"
          exact ⟨rfl, rfl, rfl⟩
        · walk_at "gj"
          refine set_own (k := 0) (j := v) rfl (by rw [List.length_map]; omega) rfl ?_
          rw [eset]
          walk_at "gj"
          exact fin fun y hy => by rw [ev] at hy; cases hy
      | some y =>
        rw [ev] at ib
        have ib' : atI (r'.map optD) (v : Int) = some (.int y) := ib
        refine ws_ifP (B := true && (false || decide (x + co < y))) (wp_and (wp_test ?_) fun _ => wp_or (wp_test ?_) fun _ => wp_test ?_) (fun hB => ?_) (fun hB => ?_)
        · walk_at "gj"
          exact ⟨rfl, rfl, rfl⟩
        · walk_at "gj"
          exact ⟨rfl, rfl, rfl⟩
        · walk_at "gj"
          exact ⟨rfl, rfl, rfl⟩
        · have hlt' : x + co < y := by simpa using hB
          walk_at "gj"
          refine set_own (k := 0) (j := v) rfl (by rw [List.length_map]; omega) rfl ?_
          rw [eset]
          walk_at "gj"
          exact fin fun y' hy => by rw [ev] at hy; cases hy; exact hlt'
        · have hge : ¬ x + co < y := by simpa using hB
          walk_at "gj"
          exact ⟨r', c, _, _, _, rfl, rfl, hB', hz', hle, hlt, stay fun x' hx => by rw [eu] at hx; cases hx; exact ⟨y, ev, by omega⟩⟩
  · rintro F' δ' M' ⟨r', c, r4, r5, r6, rfl, rfl, hB', hz', hle, hlt, hti⟩
    rw [List.take_length] at hti
    refine ⟨2 * meas p C r' + c.toNat, ?_, _, .refl _, r', c, _, _, _, rfl, rfl, hB', hz', fun h => ⟨hB'.len, hz', hti h⟩, rfl⟩
    cases c with
    | false => simp at hm ⊢; omega
    | true => have := hlt rfl; simp at hm ⊢; omega
def pre_spans (as : List AV) (post : BV → Prop) : Prop := ∃ (n : Net) (h : List Int), as = [.im (netD n)] ∧ n.ok ∧ SpanOk n h ∧ post (.im (.tup (h.map fun x => .tup [.int x, .int x])))
theorem has_spans (D : Df K mg "spans" s_spans P_spans) (T : Tx mg) (G_best_paper : Has P w K mg base 13 "best_paper" P_best_paper (spP K pre_best_paper)) (G_bounds : Has P w K mg base 1 "bounds" P_bounds (spP K pre_bounds)) (G_greatest : Has P w K mg base 1 "greatest" P_greatest (spP K pre_greatest)) : Has P w K mg base 14 "spans" P_spans (spP K pre_spans) := by
  obtain ⟨f, fd, F, hm, hb⟩ := D
  refine has_of (k := 13) F hm sc_spans hb (by intro as post h; unfold pre_spans at h; repeat (first | (obtain ⟨e, _⟩ := h; rw [e]; rfl) | (obtain ⟨_, h⟩ := h))) fun cdv A outer s H E hr => ?_
  refine ⟨_, (pss_cons (ps_set (i := 1) sc_spans.nd rfl (Or.inl rfl) (G_bounds.pe (hr.mono (by omega)) (by rfl) (pa_cons (pv 0) (pa_cons (pe_ix (kIx (K := K) rfl) (G_best_paper.pe (hr.mono (by omega)) (by rfl) (pa_cons (pv 0) pa_nil)) pe_int (fun _ _ => rfl)) pa_nil))))
      (pss_cons (ps_set (i := 2) sc_spans.nd rfl (Or.inl rfl) (G_greatest.pe (hr.mono (by omega)) (by rfl) (pa_cons (pe_callB (kLen (K := K) rfl) (by rfl) T.len_ bb_len (pa_cons (pe_ix (kIx (K := K) rfl) (pv 0) pe_int (fun _ _ => rfl)) pa_nil)) (pa_cons (pv 1) pa_nil))))
      (pss_cons (ps_set (i := 3) sc_spans.nd rfl (Or.inl rfl) (G_greatest.pe (hr.mono (by omega)) (by rfl) (pa_cons (pe_callB (kLen (K := K) rfl) (by rfl) T.len_ bb_len (pa_cons (pe_ix (kIx (K := K) rfl) (pv 0) pe_int (fun _ _ => rfl)) pa_nil)) (pa_cons (pe_lc (own := [("one", 4), ("other", 5), ("most", 6)]) rfl sc_spans.nd (kiList (K := K) rfl (pv 1)) (blkOk_by (own := [("one", 4), ("other", 5), ("most", 6)]) (N := N_spans) (sc := defScope s_spans) (by decide +kernel)) (fun _ _ _ _ _ => (kgTup (K := K) (n := 3) rfl rfl (pgs_cons (pg_name (i := 4) sc_spans.nd rfl (Or.inl rfl) (Or.inr rfl)) (pgs_cons (pg_name (i := 5) sc_spans.nd rfl (Or.inl rfl) (Or.inr rfl)) (pgs_cons (pg_name (i := 6) sc_spans.nd rfl (Or.inl rfl) (Or.inr rfl)) pgs_nil))))) (fun _ _ _ _ _ => pts_nil) (fun _ _ _ _ _ => (pe_tup (pa_cons (pv 5) (pa_cons (pv 4) (pa_cons (pv 6) pa_nil)))))) pa_nil))))
      (pss_one (ps_ret (pe_callTy (kTup (K := K) rfl) (by rfl) T.tuple_ bb_tuple (pa_cons (pe_lc (own := [("least", 7), ("most", 6)]) rfl sc_spans.nd (kiZip (K := K) rfl (by rfl) T.zip_ (pa_cons (pv 3) (pa_cons (pv 2) pa_nil))) (blkOk_by (own := [("least", 7), ("most", 6)]) (N := N_spans) (sc := defScope s_spans) (by decide +kernel)) (fun _ _ _ _ _ => (kgTup (K := K) (n := 2) rfl rfl (pgs_cons (pg_name (i := 7) sc_spans.nd rfl (Or.inl rfl) (Or.inr rfl)) (pgs_cons (pg_name (i := 6) sc_spans.nd rfl (Or.inl rfl) (Or.inr rfl)) pgs_nil)))) (fun _ _ _ _ _ => pts_nil) (fun _ _ _ _ _ => (pe_tup (pa_cons (pe_un un_neg (pv 7)) (pa_cons (pv 6) pa_nil))))) pa_nil))))))), ?_⟩
  rintro as post g ⟨n, h, rfl, ok, ⟨hl, hso⟩, hpost⟩
  have hm2 := ok.m2
  have hN1 := ok.n1
  have hN2 := ok.n2
  walk_at "init"
  walk_at "go"
  refine ⟨_, .cons (.im _) .nil, n, rfl, ok, fun h' f hb => ?_⟩
  obtain ⟨hs1, hs2⟩ := hso h' f hb
  obtain ⟨C, hF⟩ := hb.feas ok
  have hbl := bnd_len (n := n) (f := fn f) (k := n.rs.length)
  walk_at "go"
  refine ⟨_, .cons (.im _) (.cons (.im _) .nil), n, f, rfl, ok, hb.fl, fun a => ?_⟩
  walk_at "go"
  generalize bnd n (fn f) n.rs.length = E at *
  rw [List.length_map]
  refine ⟨_, .cons (.im _) (.cons (.ls lk0) .nil), n.names.length, E, fn h', C, rfl, hN1, hN2, by omega, hF, fun g1 hg1 hi => ?_⟩
  walk_at "go"
  rw [List.length_map]
  refine we_lcp (fun _ => true) (fun i => bD (swapE (E.getD i (0, 0, 0)))) (wi_list ?_)
  walk_at "gj"
  refine ⟨a, _, rfl, lk1, by rw [List.length_map]; omega, fun _ => lk1, fun i r F' hi' ⟨d, hd, hr⟩ => ?_, fun b F' hl' => ?_⟩
  · have hi2 : i < E.length := by simpa using hi'
    rw [List.getElem?_map, List.getElem?_eq_getElem hi2] at hd
    cases hd
    subst hr
    have e : E.getD i (0, 0, 0) = E[i] := by rw [List.getD_eq_getElem?_getD, List.getElem?_eq_getElem hi2]; rfl
    refine ⟨_, gn_tup rfl (gns_cons (gns_cons (gns_cons gns_nil))), wt_yes ⟨rfl, .refl _, fun _ => ?_⟩⟩
    rw [e]
    walk_at "gj"
    exact ⟨rfl, .refl _⟩
  have eE : (ixs (E.map bD).length fun _ => true).map (fun i => bD (swapE (E.getD i (0, 0, 0)))) = (E.map swapE).map bD := by
    rw [ixs_all, List.length_map]
    refine List.ext_getElem? fun i => ?_
    rw [List.getElem?_map, List.map_map, List.getElem?_map]
    by_cases q : i < E.length
    · rw [List.getElem?_range q, List.getElem?_eq_getElem q]
      simp [q]
    · rw [List.getElem?_eq_none (by simp; omega), List.getElem?_eq_none (by omega)]; rfl
  rw [eE]
  walk_at "gj"
  refine ⟨_, .cons (.im _) (.cons (.ls lk0) .nil), n.names.length, E.map swapE, _, C, rfl, hN1, hN2, by rw [List.length_map]; omega, hF.swap, fun g2 hg2 lo => ?_⟩
  have e1 := hs1 g1 hg1
  have e2 := hs2 g2 hg2
  subst e1
  subst e2
  walk_at "gj"
  refine we_lcp (fun _ => true) (fun i => .tup [.int (h.getD i 0), .int (h.getD i 0)]) (wi_zipl ?_)
  walk_at "gj"
  have hmin : min ((h.map fun x => some (-x)).map optD).length ((h.map some).map optD).length = n.names.length := by simp [hl]
  refine ⟨lo, hi, _, _, rfl, rfl, lk0, lk2, ?_⟩
  rw [hmin]
  refine ⟨by omega, fun _ => ⟨lk0, lk2⟩, fun i r F' hi' ⟨d, d2, hd, hd2, hr⟩ => ?_, fun b F' hl' => ?_⟩
  · have hi2 : i < h.length := by omega
    rw [List.getElem?_map, List.getElem?_map, List.getElem?_eq_getElem hi2] at hd hd2
    cases hd
    cases hd2
    subst hr
    have e : h.getD i 0 = h[i] := by rw [List.getD_eq_getElem?_getD, List.getElem?_eq_getElem hi2]; rfl
    refine ⟨_, gn_tup rfl (gns_cons (gns_cons gns_nil)), wt_yes ⟨rfl, .refl _, fun _ => ?_⟩⟩
    rw [e]
    show We _ _ _ (setD _ _ [.im (.int (-h[i])), .im (.int h[i])]) _ _
    walk_at "gj"
    rw [Int.neg_neg]
    exact ⟨rfl, .refl _⟩
  · walk_at "gj"
    rw [ixs_all]
    have e : (List.range n.names.length).map (fun i => Dt.tup [.int (h.getD i 0), .int (h.getD i 0)]) = h.map fun x => Dt.tup [.int x, .int x] := by
      refine List.ext_getElem? fun i => ?_
      rw [List.getElem?_map, List.getElem?_map]
      by_cases q : i < h.length
      · rw [List.getElem?_range (by omega), List.getElem?_eq_getElem q]
        simp [q]
      · rw [List.getElem?_eq_none (by simp; omega), List.getElem?_eq_none (by omega)]; rfl
    rw [e]
    exact .inl ⟨_, rfl, hpost⟩
def pre_is_one (as : List AV) (post : BV → Prop) : Prop := ∃ (n : Net) (h : List Int), as = [.im (netD n)] ∧ n.ok ∧ SpanOk n h ∧ post (.im (.bl true))
theorem has_is_one (D : Df K mg "is_one" s_is_one P_is_one) (T : Tx mg) (G_spans : Has P w K mg base 14 "spans" P_spans (spP K pre_spans)) : Has P w K mg base 15 "is_one" P_is_one (spP K pre_is_one) := by
  obtain ⟨f, fd, F, hm, hb⟩ := D
  refine has_of (k := 14) F hm sc_is_one hb (by intro as post h; unfold pre_is_one at h; repeat (first | (obtain ⟨e, _⟩ := h; rw [e]; rfl) | (obtain ⟨_, h⟩ := h))) fun cdv A outer s H E hr => ?_
  refine ⟨_, (pss_one (ps_ret (pe_callB (kAll (K := K) rfl rfl) (by rfl) T.all_ bb_all (pa_cons (pe_lc (own := [("least", 1), ("most", 2)]) rfl sc_is_one.nd (kiTup (K := K) rfl (G_spans.pe (hr.mono (by omega)) (by rfl) (pa_cons (pv 0) pa_nil))) (blkOk_by (own := [("least", 1), ("most", 2)]) (N := N_is_one) (sc := defScope s_is_one) (by decide +kernel)) (fun _ _ _ _ _ => (kgTup (K := K) (n := 2) rfl rfl (pgs_cons (pg_name (i := 1) sc_is_one.nd rfl (Or.inl rfl) (Or.inr rfl)) (pgs_cons (pg_name (i := 2) sc_is_one.nd rfl (Or.inl rfl) (Or.inr rfl)) pgs_nil)))) (fun _ _ _ _ _ => pts_nil) (fun _ _ _ _ _ => (pe_cmpR (kEq (K := K) rfl hr.units) (pv 1) (pv 2) (nomark _)))) pa_nil)))), ?_⟩
  rintro as post g ⟨n, h, rfl, ok, hs, hpost⟩
  have hN2 := ok.n2
  have hl := hs.1
  walk_at "init"
  walk_at "go"
  refine we_lcp (fun _ => true) (fun i => .bl true) (wi_tup ?_)
  walk_at "gj"
  refine ⟨_, .cons (.im _) .nil, n, h, rfl, ok, hs, ?_⟩
  refine ⟨_, rfl, by rw [List.length_map]; omega, fun _ => trivial, fun i r F' hi ⟨d, hd, hr⟩ => ?_, fun a F' hl => ?_⟩
  · have hi2 : i < h.length := by simpa using hi
    rw [List.getElem?_map, List.getElem?_eq_getElem hi2] at hd
    cases hd
    subst hr
    refine ⟨_, gn_tup rfl (gns_cons (gns_cons gns_nil)), wt_yes ⟨rfl, .refl _, fun _ => ?_⟩⟩
    walk_at "gj"
    rw [decide_eq_true rfl]
    exact ⟨rfl, .refl _⟩
  · walk_at "gj"
    rw [ixs_all]
    refine rc_all (bs := (List.range (h.map fun x => Dt.tup [.int x, .int x]).length).map fun _ => true) (by rw [List.map_map]; exact lk0) ?_
    rw [show ((List.range (h.map fun x => Dt.tup [.int x, .int x]).length).map fun _ => true).all id = true by simp]
    exact .inl ⟨_, rfl, hpost⟩
end
end TL

set_option Elab.async false
set_option linter.all false
set_option autoImplicit false
set_option maxRecDepth 100000
set_option maxHeartbeats 4000000
namespace TL
open PySem PySem.Spec PyProof.Rows L2
local macro_rules | `(tactic| walk_at "lk") => `(tactic| first | assumption | exact lk0 | exact lk1 | exact lk2 | exact lk3 | exact lk4 | exact lr0 | exact lr1 | exact lkH | exact lkF)
/-! one step of the walk: by the reading's head; all else is left -/
local macro_rules | `(tactic| walk_at "s0") => `(tactic| first
  | with_reducible refine ws_seq ?_
  | with_reducible refine ws_pop0 ?_
  | with_reducible refine ws_append ?_
  | with_reducible refine ws_insert ?_
  | with_reducible refine ws_set ?_
  | with_reducible refine ws_drop ?_
  | with_reducible refine ws_ret ?_
  | with_reducible refine ws_asg ?_
  | with_reducible refine ws_next ?_
  | with_reducible refine wg_name ?_
  | with_reducible refine wgs_nameM ?_
  | with_reducible refine wgs_nilM ?_
  | ((with_reducible refine' wg_tup ?h ?k); (case h => exact rfl))
  | with_reducible refine wg_sub ?_
  | with_reducible refine we_andV ?_
  | with_reducible refine we_notV ?_
  | with_reducible refine rc_isi isi_int ?_
  | with_reducible refine rc_isi isi_intb ?_
  | with_reducible refine rc_isi isi_tup ?_
  | with_reducible refine we_orV ?_
  | with_reducible refine we_chain ?_
  | with_reducible refine we_call ?_
  | with_reducible refine rr_eqI ?_
  | ((with_reducible refine' we_var ?h ?k); (case h => exact rfl))
  | with_reducible refine we_int ?_
  | ((with_reducible refine' we_fNv ?m ?h ?k); (case m => assumption); (case h => exact rfl))
  | ((with_reducible refine' we_fWv ?m ?h ?k); (case m => assumption); (case h => exact rfl))
  | ((with_reducible refine' we_fMv ?m ?h ?k); (case m => assumption); (case h => exact rfl))
  | ((with_reducible refine' we_fHv ?m ?h ?k); (case m => assumption); (case h => exact rfl))
  | ((with_reducible refine' we_fFv ?m ?h ?k); (case m => assumption); (case h => exact rfl))
  | with_reducible refine we_str ?_
  | with_reducible refine we_non ?_
  | with_reducible refine we_bl ?_
  | with_reducible refine we_ty ?_
  | with_reducible refine we_op ?_
  | with_reducible refine we_un ?_
  | with_reducible refine we_neg ?_
  | with_reducible refine we_cb ?_
  | with_reducible refine wa_cons ?_
  | with_reducible refine wa_nil ?_
  | with_reducible refine wt_test ?_
  | with_reducible refine wt_B ?_
  | with_reducible refine wt_yes ?_
  | with_reducible refine wt_not ?_
  | with_reducible refine wt_and ?_
  | with_reducible refine wt_or ?_
  | with_reducible refine rr_add ?_
  | with_reducible refine rr_sub ?_
  | with_reducible refine rr_lt ?_
  | with_reducible refine rr_le ?_
  | with_reducible refine rr_gt ?_
  | with_reducible refine rr_ge ?_
  | with_reducible refine rr_isN ?_
  | with_reducible refine rr_eqI ?_
  | with_reducible refine rr_neI ?_
  | with_reducible refine rr_neB ?_
  | with_reducible refine rr_int ?_
  | with_reducible refine rr_notN ?_
  | with_reducible refine rc_abs ?_
  | with_reducible refine rc_inti ?_
  | with_reducible refine rc_intb ?_
  | with_reducible refine rc_lent ?_
  | ((with_reducible refine' rr_ixt ?h ?k); (case h => first | assumption | exact rfl))
  | ((with_reducible refine' rr_ixl ?l ?h ?k); (case l => walk_at "lk"); (case h => first | assumption | exact rfl))
  | ((with_reducible refine' rc_lenl ?l ?k); (case l => walk_at "lk"))
  | with_reducible refine rc_lstt ?_
  | ((with_reducible refine' rc_lstl ?l ?k); (case l => walk_at "lk"))
  | ((with_reducible refine' rc_tupl ?l ?k); (case l => walk_at "lk"))
  | with_reducible refine we_sl ?_
  | with_reducible refine wo_none ?_
  | with_reducible refine wo_some ?_
  | with_reducible refine we_tup ?_
  | with_reducible refine we_lst ?_
  | refine ⟨[], rfl, Nat.le_of_ble_eq_true rfl, ?_⟩
  | refine ⟨[_], rfl, Nat.le_of_ble_eq_true rfl, ?_⟩
  | refine ⟨[_, _], rfl, Nat.le_of_ble_eq_true rfl, ?_⟩
  | refine ⟨[_, _, _], rfl, Nat.le_of_ble_eq_true rfl, ?_⟩
  | refine ⟨[_, _, _, _], rfl, Nat.le_of_ble_eq_true rfl, ?_⟩
  | refine ⟨[_, _, _, _, _], rfl, Nat.le_of_ble_eq_true rfl, ?_⟩
  | refine ⟨_, rfl, ?_⟩)
local macro_rules | `(tactic| walk_at "init") => `(tactic| simp only [δS, cxK, cxK2, entR, entM, List.map_cons, List.map_nil, List.length_cons, List.length_nil, List.replicate, List.cons_append, List.nil_append, Nat.reduceAdd, Nat.reduceSub])
local macro_rules | `(tactic| walk_at "seti0") => `(tactic| (refine' set_ownI (k := 0) ?hk ?hj ?hi ?hn; (case hk => exact rfl); (case hi => exact rfl)))
local macro_rules | `(tactic| walk_at "set0") => `(tactic| (refine' set_own (k := 0) ?hk ?hj ?hi ?hn; (case hk => exact rfl); (case hi => exact rfl)))
local macro_rules | `(tactic| walk_at "seti1") => `(tactic| (refine' set_ownI (k := 1) ?hk ?hj ?hi ?hn; (case hk => exact rfl); (case hi => exact rfl)))
local macro_rules | `(tactic| walk_at "set1") => `(tactic| (refine' set_own (k := 1) ?hk ?hj ?hi ?hn; (case hk => exact rfl); (case hi => exact rfl)))
local macro_rules | `(tactic| walk_at "seti2") => `(tactic| (refine' set_ownI (k := 2) ?hk ?hj ?hi ?hn; (case hk => exact rfl); (case hi => exact rfl)))
local macro_rules | `(tactic| walk_at "set2") => `(tactic| (refine' set_own (k := 2) ?hk ?hj ?hi ?hn; (case hk => exact rfl); (case hi => exact rfl)))
local macro_rules | `(tactic| walk_at "s1") => `(tactic| first | with_reducible refine ws_if ?_ | walk_at "s0")
local macro_rules | `(tactic| walk_at "gj") => `(tactic| repeat walk_at "s0")
local macro_rules | `(tactic| walk_at "go") => `(tactic| repeat walk_at "s1")
section
variable {P : Program} {w : World} {K : PySem.W.Frag} {mg : Str → Option Value} {base : Heap} {C : Addr}
def pre_S_excess : PreR := fun n h f as post => as = [] ∧ n.ok ∧ f.length = n.rs.length ∧ post ((exL n (fn f) n.rs.length).map Dt.int)
theorem has_S_excess (D : DfM K C "excess" "Search.excess" s_S_excess P_S_excess) (T : Tx mg) (ks : KS K C) : HasM P w K mg base 1 C "excess" P_S_excess (spR K C pre_S_excess) := by
  obtain ⟨f, fd, F, hm, hb⟩ := D
  refine hasM_of (k := 0) F hm sc_S_excess hb (lenR (j := 0) (by intro n h f as post hp; unfold pre_S_excess at hp; repeat (first | (obtain ⟨e, _⟩ := hp; rw [e]; rfl) | (obtain ⟨_, hp⟩ := hp)))) fun cdv A outer s H E hr => ?_
  refine ⟨_, (pss_cons (ps_set (i := 1) sc_S_excess.nd rfl (Or.inl rfl) (pe_op (kMul (K := K) rfl) (pe_lst (pa_cons pe_int pa_nil)) (kFld (K := K) rfl (pv 0) rfl)))
      (pss_cons (ps_for PassesOwn.never rfl (kiEnum (K := K) rfl (by rfl) T.enumerate_ (pa_cons (pe_ix (kIx (K := K) rfl) (kFld (K := K) rfl (pv 0) rfl) pe_int (fun _ _ => rfl)) pa_nil)) (kgTup (K := K) (n := 2) rfl rfl (pgs_cons (pg_name (i := 2) sc_S_excess.nd rfl (Or.inl rfl) (Or.inl rfl)) (pgs_cons (pg_name (i := 3) sc_S_excess.nd rfl (Or.inl rfl) (Or.inl rfl)) pgs_nil))) (pss_cons (ps_asg (pe_op op_subI (pe_ix (kIx (K := K) rfl) (pv 1) (pe_ix (kIx (K := K) rfl) (pv 3) pe_int (fun _ _ => rfl)) (fun _ _ => rfl)) (pe_ix (kIx (K := K) rfl) (kFld (K := K) rfl (pv 0) rfl) (pv 2) (fun _ _ => rfl))) (pg_sub (pv 1) (pe_ix (kIx (K := K) rfl) (pv 3) pe_int (fun _ _ => rfl)) set_list))
      (pss_one (ps_asg (pe_op (kAdd (K := K) rfl) (pe_ix (kIx (K := K) rfl) (pv 1) (pe_ix (kIx (K := K) rfl) (pv 3) pe_int (fun _ _ => rfl)) (fun _ _ => rfl)) (pe_ix (kIx (K := K) rfl) (kFld (K := K) rfl (pv 0) rfl) (pv 2) (fun _ _ => rfl))) (pg_sub (pv 1) (pe_ix (kIx (K := K) rfl) (pv 3) pe_int (fun _ _ => rfl)) set_list)))))
      (pss_one (ps_ret (pv 1))))), fun vs Q hs => spR_start ks hs ?_⟩
  rintro a n lh lf h f as post g me ⟨rfl, ok, hf, hpost⟩
  have hN2 := ok.n2
  walk_at "init"
  simp only [entM] at me
  walk_at "go"
  intro a1
  walk_at "go"
  refine rr_rep1 List.mem_cons_self rfl (by omega) fun b => ?_
  rw [exL_zero (f := fn f)]
  walk_at "go"
  refine ws_for (wi_enumt ?_)
  walk_at "go"
  rw [List.length_map]
  refine ⟨fun i F' δ' M' => ∃ r2 r3, F' = FS lh lf h f ∧ δ' = [some (.ad (.ref a)), some (.ad (.ref b)), r2, r3] ∧ M' = [(b, (exL n (fn f) i).map Dt.int), (a1, [.int 0])], ⟨_, _, rfl, rfl, rfl⟩, fun _ _ _ _ _ _ => trivial, ?_, ?_⟩
  · rintro i x F' δ' M' hi ⟨d, hd, rfl⟩ ⟨r2, r3, rfl, rfl, rfl⟩
    obtain ⟨_, rfl⟩ := rds_get hd
    have ha := ok.ai hi
    have hb := ok.bi hi
    have i0 := at_int (h := f) (i := i) (by omega)
    have i1 := at_int (h := exL n (fn f) i) (i := (n.rd i).a) (by simp only [exL_len]; exact ha)
    walk_at "go"
    walk_at "seti0"
    · rw [exL_len]; exact ha
    have i2 := at_int (h := (exL n (fn f) i).set (n.rd i).a ((exL n (fn f) i).getD (n.rd i).a 0 - f.getD i 0)) (i := (n.rd i).b) (by simp only [List.length_set, exL_len]; exact hb)
    walk_at "go"
    walk_at "seti0"
    · rw [List.length_set, exL_len]; exact hb
    refine ⟨_, _, rfl, rfl, ?_⟩
    rw [← exL_step2 (x := f.getD i 0) ok hi rfl]
    rfl
  · rintro F' δ' M' ⟨r2, r3, rfl, rfl, rfl⟩
    walk_at "go"
    exact ⟨rfl, b, _, rfl, List.mem_cons_self, hpost⟩
def pre_S_steps : PreR := fun n h f as post => as = [] ∧ n.ok ∧ h.length = n.names.length ∧ f.length = n.rs.length ∧ ∀ L, StepsOk n h (fn f) n.rs.length L → post (L.map stD)
theorem has_S_steps (D : DfM K C "steps" "Search.steps" s_S_steps P_S_steps) (T : Tx mg) (ks : KS K C) (G_misses : Has P w K mg base 2 "misses" P_misses (spP K pre_misses)) : HasM P w K mg base 3 C "steps" P_S_steps (spR K C pre_S_steps) := by
  obtain ⟨f, fd, F, hm, hb⟩ := D
  refine hasM_of (k := 2) F hm sc_S_steps hb (lenR (j := 0) (by intro n h f as post hp; unfold pre_S_steps at hp; repeat (first | (obtain ⟨e, _⟩ := hp; rw [e]; rfl) | (obtain ⟨_, hp⟩ := hp)))) fun cdv A outer s H E hr => ?_
  refine ⟨_, (pss_cons (ps_set (i := 1) sc_S_steps.nd rfl (Or.inl rfl) (pe_lst pa_nil))
      (pss_cons (ps_set (i := 2) sc_S_steps.nd rfl (Or.inl rfl) (G_misses.pe (hr.mono (by omega)) (by rfl) (pa_cons (kFld (K := K) rfl (pv 0) rfl) (pa_cons (kFld (K := K) rfl (pv 0) rfl) pa_nil))))
      (pss_cons (ps_for PassesOwn.never rfl (kiEnum (K := K) rfl (by rfl) T.enumerate_ (pa_cons (pe_ix (kIx (K := K) rfl) (kFld (K := K) rfl (pv 0) rfl) pe_int (fun _ _ => rfl)) pa_nil)) (kgTup (K := K) (n := 2) rfl rfl (pgs_cons (pg_name (i := 3) sc_S_steps.nd rfl (Or.inl rfl) (Or.inl rfl)) (pgs_cons (pg_name (i := 4) sc_S_steps.nd rfl (Or.inl rfl) (Or.inl rfl)) pgs_nil))) (pss_cons (ps_if (pt_cmpR op_ltI (pe_ix (kIx (K := K) rfl) (kFld (K := K) rfl (pv 0) rfl) (pv 3) (fun _ _ => rfl)) (pe_ix (kIx (K := K) rfl) (kFld (K := K) rfl (pv 0) rfl) (pv 3) (fun _ _ => rfl)) (nomark _)) (pss_one (ps_expr (pe_bm PySem.F.plainAttrs_list PySem.F.slot_list_append PySem.F.type_list_append mt_append (pv 1) (pa_cons (pe_tup (pa_cons (pe_ix (kIx (K := K) rfl) (pv 4) pe_int (fun _ _ => rfl)) (pa_cons (pe_ix (kIx (K := K) rfl) (pv 4) pe_int (fun _ _ => rfl)) (pa_cons (pe_un un_neg (pe_ix (kIx (K := K) rfl) (pv 2) (pv 3) (fun _ _ => rfl))) (pa_cons (pv 3) (pa_cons pe_int pa_nil)))))) pa_nil)))) pss_nil)
      (pss_one (ps_if (pt_cmpR op_gtI (pe_ix (kIx (K := K) rfl) (kFld (K := K) rfl (pv 0) rfl) (pv 3) (fun _ _ => rfl)) (pe_un un_neg (pe_ix (kIx (K := K) rfl) (kFld (K := K) rfl (pv 0) rfl) (pv 3) (fun _ _ => rfl))) (nomark _)) (pss_one (ps_expr (pe_bm PySem.F.plainAttrs_list PySem.F.slot_list_append PySem.F.type_list_append mt_append (pv 1) (pa_cons (pe_tup (pa_cons (pe_ix (kIx (K := K) rfl) (pv 4) pe_int (fun _ _ => rfl)) (pa_cons (pe_ix (kIx (K := K) rfl) (pv 4) pe_int (fun _ _ => rfl)) (pa_cons (pe_ix (kIx (K := K) rfl) (pv 2) (pv 3) (fun _ _ => rfl)) (pa_cons (pv 3) (pa_cons (pe_un un_neg pe_int) pa_nil)))))) pa_nil)))) pss_nil))))
      (pss_one (ps_ret (pv 1)))))), fun vs Q hs => spR_start ks hs ?_⟩
  rintro a n lh lf h f as post g me ⟨rfl, ok, hh, hf, hpost⟩
  have hm2 := ok.m2
  walk_at "init"
  simp only [entM] at me
  walk_at "go"
  intro q
  walk_at "go"
  refine ⟨_, .cons (.im _) (.cons (.ls lkH) .nil), n, h, _, rfl, .inr rfl, ok, hh, ?_⟩
  walk_at "go"
  refine ws_for (wi_enumt ?_)
  walk_at "go"
  rw [List.length_map]
  generalize hT : (n.row (n.miss h)).map Dt.int = T
  refine ⟨fun i F' δ' M' => ∃ L r3 r4, F' = FS lh lf h f ∧ δ' = [some (.ad (.ref a)), some (.ad (.ref q)), some (.im (.tup T)), r3, r4] ∧ M' = [(q, L.map stD)] ∧ StepsOk n h (fn f) i L, ⟨[], _, _, rfl, rfl, rfl, ⟨fun x hx => (by cases hx), fun u i b v hi => absurd hi (by omega), Nat.le_refl _⟩⟩, fun _ _ _ _ _ _ => trivial, ?_, ?_⟩
  · rintro i x F' δ' M' hi ⟨d, hd, rfl⟩ ⟨L, r3, r4, rfl, rfl, rfl, hL⟩
    obtain ⟨_, rfl⟩ := rds_get hd
    have hll := hL.len
    have i0 := at_int (h := f) (i := i) (by omega)
    have i1 : atI ((List.replicate n.rs.length (1 : Int)).map Dt.int) (i : Int) = some (.int 1) := by
      have := at_int (h := List.replicate n.rs.length (1 : Int)) (i := i) (by rw [List.length_replicate]; exact hi)
      rw [this, List.getD_eq_getElem?_getD, List.getElem?_replicate, if_pos hi]; rfl
    have i2 : atI T (i : Int) = some (.int (n.miss h i)) := by
      rw [← hT]
      have := at_int (h := n.row (n.miss h)) (i := i) (by rw [row_len]; exact hi)
      rw [this, row_get hi]
    walk_at "gj"
    refine Ws.mono (N := fun F' δ' M' => ∃ L' : List Stp, F' = FS lh lf h f ∧ δ' = [some (.ad (.ref a)), some (.ad (.ref q)), some (.im (.tup T)), some (.im (.int (i : Int))), some (.im (rdD (n.rd i)))] ∧ M' = [(q, L'.map stD)] ∧ (∀ x ∈ L', Res n (fn f) x.u x.i x.s x.v ∧ x.c = -(x.s * n.miss h x.i)) ∧ (∀ u j b v, j < i → Res n (fn f) u j b v → ∃ x ∈ L', x.u = u ∧ x.v = v ∧ x.i = j ∧ x.s = b) ∧ L'.length ≤ 2 * i + 1 ∧ ∀ u v, Res n (fn f) u i 1 v → ∃ x ∈ L', x.u = u ∧ x.v = v ∧ x.i = i ∧ x.s = 1) ?_ ?_
    · refine ws_ifP (B := decide (fn f i < 1)) (wp_test ?_) (fun hB => ?_) (fun hB => ?_)
      · walk_at "gj"
        exact ⟨rfl, rfl, rfl⟩
      · have hB' := of_decide_eq_true hB
        walk_at "gj"
        refine ⟨_, _, rfl, lk0, ?_⟩
        walk_at "gj"
        refine app_own (k := 0) rfl (by rw [List.length_map]; omega) ?_
        refine ⟨L ++ [⟨(n.rd i).a, (n.rd i).b, -n.miss h i, i, 1⟩], rfl, rfl, ?_, fun x hx => ?_, fun u j b v hj hr => ?_, by rw [List.length_append]; simp; omega, fun u v hr => ?_⟩
        · rw [List.map_append]; rfl
        · rcases List.mem_append.mp hx with hx | hx
          · exact hL.ok x hx
          · cases List.mem_singleton.mp hx
            exact ⟨⟨hi, .inl ⟨rfl, rfl, rfl, hB'⟩⟩, by show -n.miss h i = -(1 * n.miss h i); omega⟩
        · obtain ⟨x, hx, z⟩ := hL.all u j b v hj hr
          exact ⟨x, List.mem_append.mpr (.inl hx), z⟩
        · rcases hr.2 with ⟨e1, e2, _, _⟩ | ⟨_, _, e3, _⟩
          · exact ⟨_, List.mem_append.mpr (.inr (List.mem_singleton.mpr rfl)), e1, e2, rfl, rfl⟩
          · cases e3
      · have hB' := of_decide_eq_false hB
        walk_at "gj"
        refine ⟨L, rfl, rfl, rfl, hL.ok, hL.all, by omega, fun u v hr => ?_⟩
        rcases hr.2 with ⟨_, _, _, e4⟩ | ⟨_, _, e3, _⟩
        · exact absurd e4 hB'
        · cases e3
    · rintro F' δ' M' ⟨L', rfl, rfl, rfl, h1, h2, h3, h4⟩
      refine ws_ifP (B := decide (-1 < fn f i)) (wp_test ?_) (fun hB => ?_) (fun hB => ?_)
      · walk_at "gj"
        exact ⟨rfl, rfl, rfl⟩
      · have hB' := of_decide_eq_true hB
        walk_at "gj"
        refine ⟨_, _, rfl, lk0, ?_⟩
        walk_at "gj"
        refine app_own (k := 0) rfl (by rw [List.length_map]; omega) ?_
        refine ⟨L' ++ [⟨(n.rd i).b, (n.rd i).a, n.miss h i, i, -1⟩], _, _, rfl, rfl, ?_, fun x hx => ?_, fun u j b v hj hr => ?_, by rw [List.length_append]; simp; omega⟩
        · rw [List.map_append]; rfl
        · rcases List.mem_append.mp hx with hx | hx
          · exact h1 x hx
          · cases List.mem_singleton.mp hx
            exact ⟨⟨hi, .inr ⟨rfl, rfl, rfl, hB'⟩⟩, by show n.miss h i = -(-1 * n.miss h i); omega⟩
        · by_cases e : j = i
          · subst e
            rcases hr.2 with ⟨_, _, rfl, _⟩ | ⟨e1, e2, rfl, _⟩
            · obtain ⟨x, hx, z⟩ := h4 u v hr
              exact ⟨x, List.mem_append.mpr (.inl hx), z⟩
            · exact ⟨_, List.mem_append.mpr (.inr (List.mem_singleton.mpr rfl)), e1, e2, rfl, rfl⟩
          · obtain ⟨x, hx, z⟩ := h2 u j b v (by omega) hr
            exact ⟨x, List.mem_append.mpr (.inl hx), z⟩
      · have hB' := of_decide_eq_false hB
        walk_at "gj"
        refine ⟨L', _, _, rfl, rfl, rfl, h1, fun u j b v hj hr => ?_, by omega⟩
        by_cases e : j = i
        · subst e
          rcases hr.2 with ⟨_, _, rfl, _⟩ | ⟨_, _, _, e4⟩
          · exact h4 u v hr
          · exact absurd e4 hB'
        · exact h2 u j b v (by omega) hr
  · rintro F' δ' M' ⟨L, r3, r4, rfl, rfl, rfl, hL⟩
    walk_at "go"
    exact ⟨rfl, q, _, rfl, List.mem_cons_self, hpost L hL⟩
end
end TL

set_option Elab.async false
set_option linter.all false
set_option autoImplicit false
set_option maxRecDepth 100000
set_option maxHeartbeats 4000000
namespace TL
open PySem PySem.Spec PyProof.Rows L2
local macro_rules | `(tactic| walk_at "lk") => `(tactic| first | assumption | exact lk0 | exact lk1 | exact lk2 | exact lk3 | exact lk4 | exact lr0 | exact lr1 | exact lkH | exact lkF)
/-! one step of the walk: by the reading's head; all else is left -/
local macro_rules | `(tactic| walk_at "s0") => `(tactic| first
  | with_reducible refine ws_seq ?_
  | with_reducible refine ws_pop0 ?_
  | with_reducible refine ws_append ?_
  | with_reducible refine ws_insert ?_
  | with_reducible refine ws_set ?_
  | with_reducible refine ws_drop ?_
  | with_reducible refine ws_ret ?_
  | with_reducible refine ws_asg ?_
  | with_reducible refine ws_next ?_
  | with_reducible refine wg_name ?_
  | with_reducible refine wgs_nameM ?_
  | with_reducible refine wgs_nilM ?_
  | ((with_reducible refine' wg_tup ?h ?k); (case h => exact rfl))
  | with_reducible refine wg_sub ?_
  | with_reducible refine we_andV ?_
  | with_reducible refine we_notV ?_
  | with_reducible refine rc_isi isi_int ?_
  | with_reducible refine rc_isi isi_intb ?_
  | with_reducible refine rc_isi isi_tup ?_
  | with_reducible refine we_orV ?_
  | with_reducible refine we_chain ?_
  | with_reducible refine we_call ?_
  | with_reducible refine rr_eqI ?_
  | ((with_reducible refine' we_var ?h ?k); (case h => exact rfl))
  | with_reducible refine we_int ?_
  | ((with_reducible refine' we_fNv ?m ?h ?k); (case m => assumption); (case h => exact rfl))
  | ((with_reducible refine' we_fWv ?m ?h ?k); (case m => assumption); (case h => exact rfl))
  | ((with_reducible refine' we_fMv ?m ?h ?k); (case m => assumption); (case h => exact rfl))
  | ((with_reducible refine' we_fHv ?m ?h ?k); (case m => assumption); (case h => exact rfl))
  | ((with_reducible refine' we_fFv ?m ?h ?k); (case m => assumption); (case h => exact rfl))
  | with_reducible refine we_str ?_
  | with_reducible refine we_non ?_
  | with_reducible refine we_bl ?_
  | with_reducible refine we_ty ?_
  | with_reducible refine we_op ?_
  | with_reducible refine we_un ?_
  | with_reducible refine we_neg ?_
  | with_reducible refine we_cb ?_
  | with_reducible refine wa_cons ?_
  | with_reducible refine wa_nil ?_
  | with_reducible refine wt_test ?_
  | with_reducible refine wt_B ?_
  | with_reducible refine wt_yes ?_
  | with_reducible refine wt_not ?_
  | with_reducible refine wt_and ?_
  | with_reducible refine wt_or ?_
  | with_reducible refine rr_add ?_
  | with_reducible refine rr_sub ?_
  | with_reducible refine rr_lt ?_
  | with_reducible refine rr_le ?_
  | with_reducible refine rr_gt ?_
  | with_reducible refine rr_ge ?_
  | with_reducible refine rr_isN ?_
  | with_reducible refine rr_eqI ?_
  | with_reducible refine rr_neI ?_
  | with_reducible refine rr_neB ?_
  | with_reducible refine rr_int ?_
  | with_reducible refine rr_notN ?_
  | with_reducible refine rc_abs ?_
  | with_reducible refine rc_inti ?_
  | with_reducible refine rc_intb ?_
  | with_reducible refine rc_lent ?_
  | ((with_reducible refine' rr_ixt ?h ?k); (case h => first | assumption | exact rfl))
  | ((with_reducible refine' rr_ixl ?l ?h ?k); (case l => walk_at "lk"); (case h => first | assumption | exact rfl))
  | ((with_reducible refine' rc_lenl ?l ?k); (case l => walk_at "lk"))
  | with_reducible refine rc_lstt ?_
  | ((with_reducible refine' rc_lstl ?l ?k); (case l => walk_at "lk"))
  | ((with_reducible refine' rc_tupl ?l ?k); (case l => walk_at "lk"))
  | with_reducible refine we_sl ?_
  | with_reducible refine wo_none ?_
  | with_reducible refine wo_some ?_
  | with_reducible refine we_tup ?_
  | with_reducible refine we_lst ?_
  | refine ⟨[], rfl, Nat.le_of_ble_eq_true rfl, ?_⟩
  | refine ⟨[_], rfl, Nat.le_of_ble_eq_true rfl, ?_⟩
  | refine ⟨[_, _], rfl, Nat.le_of_ble_eq_true rfl, ?_⟩
  | refine ⟨[_, _, _], rfl, Nat.le_of_ble_eq_true rfl, ?_⟩
  | refine ⟨[_, _, _, _], rfl, Nat.le_of_ble_eq_true rfl, ?_⟩
  | refine ⟨[_, _, _, _, _], rfl, Nat.le_of_ble_eq_true rfl, ?_⟩
  | refine ⟨_, rfl, ?_⟩)
local macro_rules | `(tactic| walk_at "init") => `(tactic| simp only [δS, cxK, cxK2, entR, entM, List.map_cons, List.map_nil, List.length_cons, List.length_nil, List.replicate, List.cons_append, List.nil_append, Nat.reduceAdd, Nat.reduceSub])
local macro_rules | `(tactic| walk_at "seti0") => `(tactic| (refine' set_ownI (k := 0) ?hk ?hj ?hi ?hn; (case hk => exact rfl); (case hi => exact rfl)))
local macro_rules | `(tactic| walk_at "set0") => `(tactic| (refine' set_own (k := 0) ?hk ?hj ?hi ?hn; (case hk => exact rfl); (case hi => exact rfl)))
local macro_rules | `(tactic| walk_at "seti1") => `(tactic| (refine' set_ownI (k := 1) ?hk ?hj ?hi ?hn; (case hk => exact rfl); (case hi => exact rfl)))
local macro_rules | `(tactic| walk_at "set1") => `(tactic| (refine' set_own (k := 1) ?hk ?hj ?hi ?hn; (case hk => exact rfl); (case hi => exact rfl)))
local macro_rules | `(tactic| walk_at "seti2") => `(tactic| (refine' set_ownI (k := 2) ?hk ?hj ?hi ?hn; (case hk => exact rfl); (case hi => exact rfl)))
local macro_rules | `(tactic| walk_at "set2") => `(tactic| (refine' set_own (k := 2) ?hk ?hj ?hi ?hn; (case hk => exact rfl); (case hi => exact rfl)))
local macro_rules | `(tactic| walk_at "s1") => `(tactic| first | with_reducible refine ws_if ?_ | walk_at "s0")
local macro_rules | `(tactic| walk_at "gj") => `(tactic| repeat walk_at "s0")
local macro_rules | `(tactic| walk_at "go") => `(tactic| repeat walk_at "s1")
section
variable {P : Program} {w : World} {K : PySem.W.Frag} {mg : Str → Option Value} {base : Heap} {C : Addr}
def pre_S_shortest : PreSh := fun n h f as post => ∃ s : Nat, as = [.im (.int (s : Int))] ∧ n.ok ∧ h.length = n.names.length ∧ f.length = n.rs.length ∧ Slack n h (fn f) ∧ s < n.names.length ∧ ∀ g last, ShortOk n h (fn f) s g last → post (g.map optD) (last.map lstD)
theorem has_S_shortest (D : DfM K C "shortest" "Search.shortest" s_S_shortest P_S_shortest) (T : Tx mg) (ks : KS K C) (G_S_steps : HasM P w K mg base 3 C "steps" P_S_steps (spR K C pre_S_steps)) : HasM P w K mg base 4 C "shortest" P_S_shortest (spSh K C pre_S_shortest) := by
  obtain ⟨f, fd, F, hm, hb⟩ := D
  refine hasM_of (k := 3) F hm sc_S_shortest hb (lenSh (j := 1) (by intro n h f as post hp; unfold pre_S_shortest at hp; repeat (first | (obtain ⟨e, _⟩ := hp; rw [e]; rfl) | (obtain ⟨_, hp⟩ := hp)))) fun cdv A outer s H E hr => ?_
  refine ⟨_, (pss_cons (ps_set (i := 2) sc_S_shortest.nd rfl (Or.inl rfl) (pe_op (kMul (K := K) rfl) (pe_lst (pa_cons pe_non pa_nil)) (kFld (K := K) rfl (pv 0) rfl)))
      (pss_cons (ps_set (i := 3) sc_S_shortest.nd rfl (Or.inl rfl) (pe_op (kMul (K := K) rfl) (pe_lst (pa_cons pe_non pa_nil)) (kFld (K := K) rfl (pv 0) rfl)))
      (pss_cons (ps_asg pe_int (pg_sub (pv 2) (pv 1) set_list))
      (pss_cons (ps_set (i := 4) sc_S_shortest.nd rfl (Or.inl rfl) (HasM.pe0 G_S_steps ks.c (hr.mono (by omega)) (pv 0)))
      (pss_cons (ps_set (i := 5) sc_S_shortest.nd rfl (Or.inl rfl) pe_bl)
      (pss_cons (ps_while PassesOwn.never (pt_val (pv 5)) (pss_cons (ps_set (i := 5) sc_S_shortest.nd rfl (Or.inl rfl) pe_bl)
      (pss_one (ps_for PassesOwn.never rfl (kiList (K := K) rfl (pv 4)) (pg_name (i := 6) sc_S_shortest.nd rfl (Or.inl rfl) (Or.inl rfl)) (pss_one (ps_if (pt_cmpR op_notNT (pe_ix (kIx (K := K) rfl) (pv 2) (pe_ix (kIx (K := K) rfl) (pv 6) pe_int (fun _ _ => rfl)) (fun _ _ => rfl)) pe_non (nomark _)) (pss_cons (ps_set (i := 7) sc_S_shortest.nd rfl (Or.inl rfl) (pe_op (kAdd (K := K) rfl) (pe_ix (kIx (K := K) rfl) (pv 2) (pe_ix (kIx (K := K) rfl) (pv 6) pe_int (fun _ _ => rfl)) (fun _ _ => rfl)) (pe_ix (kIx (K := K) rfl) (pv 6) pe_int (fun _ _ => rfl))))
      (pss_one (ps_if (PW.pt (pw_or (pt_cmpR op_isNT (pe_ix (kIx (K := K) rfl) (pv 2) (pe_ix (kIx (K := K) rfl) (pv 6) pe_int (fun _ _ => rfl)) (fun _ _ => rfl)) pe_non (nomark _)) (pw_or1 (pt_cmpR op_ltI (pv 7) (pe_ix (kIx (K := K) rfl) (pv 2) (pe_ix (kIx (K := K) rfl) (pv 6) pe_int (fun _ _ => rfl)) (fun _ _ => rfl)) (nomark _))))) (pss_cons (ps_asg (pv 7) (pg_sub (pv 2) (pe_ix (kIx (K := K) rfl) (pv 6) pe_int (fun _ _ => rfl)) set_list))
      (pss_cons (ps_asg (pv 6) (pg_sub (pv 3) (pe_ix (kIx (K := K) rfl) (pv 6) pe_int (fun _ _ => rfl)) set_list))
      (pss_one (ps_set (i := 5) sc_S_shortest.nd rfl (Or.inl rfl) pe_bl)))) pss_nil))) pss_nil))))))
      (pss_one (ps_ret (pe_tup (pa_cons (pv 2) (pa_cons (pv 3) pa_nil))))))))))), fun vs Q hs => spSh_start ks hs ?_⟩
  rintro a n lh lf h f as post g me ⟨s0, rfl, ok, hh, hf, sl, hs0, hpost⟩
  have hm2 := ok.m2
  have hN2 := ok.n2
  walk_at "init"
  simp only [entM] at me
  walk_at "go"
  intro a1
  walk_at "go"
  refine rr_rep1 List.mem_cons_self rfl (by omega) fun c => ?_
  walk_at "go"
  intro a2
  walk_at "go"
  refine rr_rep1 List.mem_cons_self rfl (by omega) fun l => ?_
  walk_at "go"
  refine set_own (k := 2) (j := s0) rfl (by rw [List.length_replicate]; exact hs0) rfl ?_
  walk_at "go"
  refine we_methRv me (by decide) rfl ?_
  walk_at "go"
  refine ⟨[], h, f, rfl, .nil, rfl, ok, hh, hf, fun L hL S => ?_⟩
  have e0 : (List.replicate n.names.length Dt.non).set s0 (.int 0) = (gS n.names.length s0).map optD := by
    unfold gS
    rw [List.map_set, List.map_replicate]; rfl
  have e1 : List.replicate n.names.length Dt.non = (List.replicate n.names.length (none : Option Stp)).map lstD := by
    rw [List.map_replicate]; rfl
  refine ws_weak (M' := [(S, L.map stD), (l, (List.replicate n.names.length (none : Option Stp)).map lstD), (c, (gS n.names.length s0).map optD)]) (by rw [← e0, ← e1]; exact .cons₂ _ (.cons₂ _ (.cons _ (.cons₂ _ (List.nil_sublist _))))) ?_
  have hLl := hL.len
  have hcost : ∀ x ∈ L, 0 ≤ x.c := fun x hx => by rw [(hL.ok x hx).2]; exact sl.pos (hL.ok x hx).1
  obtain ⟨CC, hCC⟩ : ∃ CC : Nat, ∀ x ∈ L, x.c ≤ CC := ⟨(L.map fun x => x.c.toNat).sum, fun x hx => by
    have := le_sum_st (F := fun x : Stp => x.c.toNat) hx
    omega⟩
  walk_at "go"
  refine ws_whileW (fun m F' δ' M' => ∃ (r : Row) (last : List (Option Stp)) (ch : Bool), ∃ r6 r7, F' = FS lh lf h f ∧ δ' = [some (.ad (.ref a)), some (.im (.int (s0 : Int))), some (.ad (.ref c)), some (.ad (.ref l)), some (.ad (.ref S)), some (.im (.bl ch)), r6, r7] ∧ M' = [(S, L.map stD), (l, last.map lstD), (c, r.map optD)] ∧ Way n h (fn f) s0 CC r last ∧ (ch = false → ∀ x ∈ L, ∀ d, r.getD x.u none = some d → ∃ y, r.getD x.v none = some y ∧ y ≤ d + x.c) ∧ m = 2 * meas (fun _ => 0) CC r + ch.toNat) _ ⟨_, .refl _, _, _, true, _, _, rfl, rfl, rfl, way0 hs0, (fun h => by cases h), rfl⟩ ?_
  rintro m F' δ' M' ⟨r, last, ch, r6, r7, rfl, rfl, rfl, hW, hG, hm⟩
  walk_at "go"
  refine ⟨fun hc => ?_, fun hc => ?_⟩
  rotate_left
  · refine ws_ret (we_tup2 (x := .ref c) (y := .ref l) ?_)
    walk_at "gj"
    refine ⟨rfl, ?_⟩
    walk_at "gj"
    refine ⟨rfl, rfl, c, l, r.map optD, last.map lstD, rfl, ?_, hpost r last ⟨hW.bf.len, hW.ll, hW.z, fun v x e => (hW.bf.bd v x (of_getD e)).1, fun u i b v x hr hx => ?_, hW.tr⟩⟩
    · exact .cons _ (.refl _)
    · obtain ⟨st, hst, rfl, rfl, rfl, rfl⟩ := hL.all u i b v hr.1 hr
      have := hG hc st hst x hx
      rw [(hL.ok st hst).2] at this
      exact this
  subst hc
  walk_at "go"
  refine ws_for (wi_list ?_)
  walk_at "go"
  refine ⟨S, _, rfl, lk0, ?_⟩
  rw [List.length_map]
  refine ⟨fun j F' δ' M' => ∃ (r' : Row) (last : List (Option Stp)) (ch : Bool), ∃ r6 r7, F' = FS lh lf h f ∧ δ' = [some (.ad (.ref a)), some (.im (.int (s0 : Int))), some (.ad (.ref c)), some (.ad (.ref l)), some (.ad (.ref S)), some (.im (.bl ch)), r6, r7] ∧ M' = [(S, L.map stD), (l, last.map lstD), (c, r'.map optD)] ∧ Way n h (fn f) s0 CC r' last ∧ meas (fun _ => 0) CC r' ≤ meas (fun _ => 0) CC r ∧ (ch = true → meas (fun _ => 0) CC r' < meas (fun _ => 0) CC r) ∧ (ch = false → ∀ x ∈ L.take j, ∀ d, r'.getD x.u none = some d → ∃ y, r'.getD x.v none = some y ∧ y ≤ d + x.c), ⟨r, last, false, _, _, rfl, rfl, rfl, hW, Nat.le_refl _, (fun h => by cases h), fun _ e he => by cases he⟩, fun i F' δ' M' _ ⟨_, _, _, _, _, _, _, e, _⟩ => by rw [e]; exact lk0, ?_, ?_⟩
  · rintro j x F' δ' M' hj ⟨d, hd, rfl⟩ ⟨r', last, ch, r6, r7, rfl, rfl, rfl, hW', hle, hlt, hti⟩
    have hLj : L[j]? = some L[j] := List.getElem?_eq_getElem hj
    rw [List.getElem?_map, hLj] at hd
    cases hd
    have hLm : L[j] ∈ L := List.getElem_mem hj
    obtain ⟨hr, hcc⟩ := hL.ok _ hLm
    have hhi := hCC _ hLm
    have hl := hW'.bf.len
    have hl2 := hW'.ll
    have h1 := hr.lt ok
    have htk : ∀ e, e ∈ L.take (j + 1) ↔ e ∈ L.take j ∨ e = L[j] := fun e => by
      rw [List.take_add_one, hLj, List.mem_append]; simp
    generalize L[j] = ed at *
    have ia := at_opt (r := r') (i := ed.u) (by omega)
    have ib := at_opt (r := r') (i := ed.v) (by omega)
    have stay : (∀ x, r'.getD ed.u none = some x → ∃ y, r'.getD ed.v none = some y ∧ y ≤ x + ed.c) → (ch = false → ∀ e ∈ L.take (j + 1), ∀ x, r'.getD e.u none = some x → ∃ y, r'.getD e.v none = some y ∧ y ≤ x + e.c) := fun h hc e he x hx => by
      rcases (htk e).mp he with he | rfl
      · exact hti hc e he x hx
      · exact h x hx
    walk_at "gj"
    cases eu : r'.getD ed.u none with
    | none =>
      rw [eu] at ia
      refine ws_ifP (B := false) (wp_test ?_) (fun hB => by cases hB) (fun _ => ?_)
      · walk_at "gj"
        exact ⟨rfl, rfl, rfl⟩
      · walk_at "gj"
        exact ⟨r', last, ch, _, _, rfl, rfl, rfl, hW', hle, hlt, stay fun x hx => by rw [eu] at hx; cases hx⟩
    | some x =>
      rw [eu] at ia
      have ia' : atI (r'.map optD) (ed.u : Int) = some (.int x) := ia
      refine ws_ifP (B := true) (wp_test ?_) (fun _ => ?_) (fun hB => by cases hB)
      · walk_at "gj"
        exact ⟨rfl, rfl, rfl⟩
      walk_at "gj"
      have eset : (r'.map optD).set ed.v (.int (x + ed.c)) = (r'.set ed.v (some (x + ed.c))).map optD := by rw [List.map_set]; rfl
      have eset2 : (last.map lstD).set ed.v (stD ed) = (last.set ed.v (some ed)).map lstD := by rw [List.map_set]; rfl
      have fin : (∀ y, r'.getD ed.v none = some y → x + ed.c < y) → Way n h (fn f) s0 CC (r'.set ed.v (some (x + ed.c))) (last.set ed.v (some ed)) ∧ meas (fun _ => 0) CC (r'.set ed.v (some (x + ed.c))) < meas (fun _ => 0) CC r := fun hn => by
        obtain ⟨z1, z2⟩ := hW'.upd ok sl hr hcc hhi eu hn
        exact ⟨z1, by omega⟩
      cases ev : r'.getD ed.v none with
      | none =>
        rw [ev] at ib
        obtain ⟨z1, z2⟩ := fin fun y hy => by rw [ev] at hy; cases hy
        refine ws_ifP (B := true || false) (wp_or (wp_test ?_) fun h => by cases h) (fun _ => ?_) (fun h => by cases h)
        · walk_at "gj"
          exact ⟨rfl, rfl, rfl⟩
        · walk_at "gj"
          refine set_own (k := 2) (j := ed.v) rfl (by rw [List.length_map]; omega) rfl ?_
          rw [eset]
          walk_at "gj"
          refine set_own (k := 1) (j := ed.v) rfl (by rw [List.length_map]; omega) rfl ?_
          rw [eset2]
          walk_at "gj"
          exact ⟨_, _, true, _, _, rfl, rfl, rfl, z1, by omega, fun _ => z2, fun h => by cases h⟩
      | some y =>
        rw [ev] at ib
        have ib' : atI (r'.map optD) (ed.v : Int) = some (.int y) := ib
        refine ws_ifP (B := false || decide (x + ed.c < y)) (wp_or (wp_test ?_) fun _ => wp_test ?_) (fun hB => ?_) (fun hB => ?_)
        · walk_at "gj"
          exact ⟨rfl, rfl, rfl⟩
        · walk_at "gj"
          exact ⟨rfl, rfl, rfl⟩
        · have hlt' : x + ed.c < y := by simpa using hB
          obtain ⟨z1, z2⟩ := fin fun y' hy => by rw [ev] at hy; cases hy; exact hlt'
          walk_at "gj"
          refine set_own (k := 2) (j := ed.v) rfl (by rw [List.length_map]; omega) rfl ?_
          rw [eset]
          walk_at "gj"
          refine set_own (k := 1) (j := ed.v) rfl (by rw [List.length_map]; omega) rfl ?_
          rw [eset2]
          walk_at "gj"
          exact ⟨_, _, true, _, _, rfl, rfl, rfl, z1, by omega, fun _ => z2, fun h => by cases h⟩
        · have hge : ¬ x + ed.c < y := by simpa using hB
          walk_at "gj"
          exact ⟨r', last, ch, _, _, rfl, rfl, rfl, hW', hle, hlt, stay fun x' hx => by rw [eu] at hx; cases hx; exact ⟨y, ev, by omega⟩⟩
  · rintro F' δ' M' ⟨r', last, ch, r6, r7, rfl, rfl, rfl, hW', hle, hlt, hti⟩
    rw [List.take_length] at hti
    refine ⟨2 * meas (fun _ => 0) CC r' + ch.toNat, ?_, _, .refl _, r', last, ch, _, _, rfl, rfl, rfl, hW', hti, rfl⟩
    cases ch with
    | false => simp at hm ⊢; omega
    | true => have := hlt rfl; simp at hm ⊢; omega
end
end TL

set_option Elab.async false
set_option linter.all false
set_option autoImplicit false
set_option maxRecDepth 100000
set_option maxHeartbeats 4000000
namespace TL
open PySem PySem.Spec PyProof.Rows L2
local macro_rules | `(tactic| walk_at "lk") => `(tactic| first | assumption | exact lk0 | exact lk1 | exact lk2 | exact lk3 | exact lk4 | exact lr0 | exact lr1 | exact lkH | exact lkF)
/-! one step of the walk: by the reading's head; all else is left -/
local macro_rules | `(tactic| walk_at "s0") => `(tactic| first
  | with_reducible refine ws_seq ?_
  | with_reducible refine ws_pop0 ?_
  | with_reducible refine ws_append ?_
  | with_reducible refine ws_insert ?_
  | with_reducible refine ws_set ?_
  | with_reducible refine ws_drop ?_
  | with_reducible refine ws_ret ?_
  | with_reducible refine ws_asg ?_
  | with_reducible refine ws_next ?_
  | with_reducible refine wg_name ?_
  | with_reducible refine wgs_nameM ?_
  | with_reducible refine wgs_nilM ?_
  | ((with_reducible refine' wg_tup ?h ?k); (case h => exact rfl))
  | with_reducible refine wg_sub ?_
  | with_reducible refine we_andV ?_
  | with_reducible refine we_notV ?_
  | with_reducible refine rc_isi isi_int ?_
  | with_reducible refine rc_isi isi_intb ?_
  | with_reducible refine rc_isi isi_tup ?_
  | with_reducible refine we_orV ?_
  | with_reducible refine we_chain ?_
  | with_reducible refine we_call ?_
  | with_reducible refine rr_eqI ?_
  | ((with_reducible refine' we_var ?h ?k); (case h => exact rfl))
  | with_reducible refine we_int ?_
  | ((with_reducible refine' we_fNv ?m ?h ?k); (case m => assumption); (case h => exact rfl))
  | ((with_reducible refine' we_fWv ?m ?h ?k); (case m => assumption); (case h => exact rfl))
  | ((with_reducible refine' we_fMv ?m ?h ?k); (case m => assumption); (case h => exact rfl))
  | ((with_reducible refine' we_fHv ?m ?h ?k); (case m => assumption); (case h => exact rfl))
  | ((with_reducible refine' we_fFv ?m ?h ?k); (case m => assumption); (case h => exact rfl))
  | with_reducible refine we_str ?_
  | with_reducible refine we_non ?_
  | with_reducible refine we_bl ?_
  | with_reducible refine we_ty ?_
  | with_reducible refine we_op ?_
  | with_reducible refine we_un ?_
  | with_reducible refine we_neg ?_
  | with_reducible refine we_cb ?_
  | with_reducible refine wa_cons ?_
  | with_reducible refine wa_nil ?_
  | with_reducible refine wt_test ?_
  | with_reducible refine wt_B ?_
  | with_reducible refine wt_yes ?_
  | with_reducible refine wt_not ?_
  | with_reducible refine wt_and ?_
  | with_reducible refine wt_or ?_
  | with_reducible refine rr_add ?_
  | with_reducible refine rr_sub ?_
  | with_reducible refine rr_lt ?_
  | with_reducible refine rr_le ?_
  | with_reducible refine rr_gt ?_
  | with_reducible refine rr_ge ?_
  | with_reducible refine rr_isN ?_
  | with_reducible refine rr_eqI ?_
  | with_reducible refine rr_neI ?_
  | with_reducible refine rr_neB ?_
  | with_reducible refine rr_int ?_
  | with_reducible refine rr_notN ?_
  | with_reducible refine rc_abs ?_
  | with_reducible refine rc_inti ?_
  | with_reducible refine rc_intb ?_
  | with_reducible refine rc_lent ?_
  | ((with_reducible refine' rr_ixt ?h ?k); (case h => first | assumption | exact rfl))
  | ((with_reducible refine' rr_ixl ?l ?h ?k); (case l => walk_at "lk"); (case h => first | assumption | exact rfl))
  | ((with_reducible refine' rc_lenl ?l ?k); (case l => walk_at "lk"))
  | with_reducible refine rc_lstt ?_
  | ((with_reducible refine' rc_lstl ?l ?k); (case l => walk_at "lk"))
  | ((with_reducible refine' rc_tupl ?l ?k); (case l => walk_at "lk"))
  | with_reducible refine we_sl ?_
  | with_reducible refine wo_none ?_
  | with_reducible refine wo_some ?_
  | with_reducible refine we_tup ?_
  | with_reducible refine we_lst ?_
  | refine ⟨[], rfl, Nat.le_of_ble_eq_true rfl, ?_⟩
  | refine ⟨[_], rfl, Nat.le_of_ble_eq_true rfl, ?_⟩
  | refine ⟨[_, _], rfl, Nat.le_of_ble_eq_true rfl, ?_⟩
  | refine ⟨[_, _, _], rfl, Nat.le_of_ble_eq_true rfl, ?_⟩
  | refine ⟨[_, _, _, _], rfl, Nat.le_of_ble_eq_true rfl, ?_⟩
  | refine ⟨[_, _, _, _, _], rfl, Nat.le_of_ble_eq_true rfl, ?_⟩
  | refine ⟨_, rfl, ?_⟩)
local macro_rules | `(tactic| walk_at "init") => `(tactic| simp only [δS, cxK, cxK2, entR, entM, List.map_cons, List.map_nil, List.length_cons, List.length_nil, List.replicate, List.cons_append, List.nil_append, Nat.reduceAdd, Nat.reduceSub])
local macro_rules | `(tactic| walk_at "seti0") => `(tactic| (refine' set_ownI (k := 0) ?hk ?hj ?hi ?hn; (case hk => exact rfl); (case hi => exact rfl)))
local macro_rules | `(tactic| walk_at "set0") => `(tactic| (refine' set_own (k := 0) ?hk ?hj ?hi ?hn; (case hk => exact rfl); (case hi => exact rfl)))
local macro_rules | `(tactic| walk_at "seti1") => `(tactic| (refine' set_ownI (k := 1) ?hk ?hj ?hi ?hn; (case hk => exact rfl); (case hi => exact rfl)))
local macro_rules | `(tactic| walk_at "set1") => `(tactic| (refine' set_own (k := 1) ?hk ?hj ?hi ?hn; (case hk => exact rfl); (case hi => exact rfl)))
local macro_rules | `(tactic| walk_at "seti2") => `(tactic| (refine' set_ownI (k := 2) ?hk ?hj ?hi ?hn; (case hk => exact rfl); (case hi => exact rfl)))
local macro_rules | `(tactic| walk_at "set2") => `(tactic| (refine' set_own (k := 2) ?hk ?hj ?hi ?hn; (case hk => exact rfl); (case hi => exact rfl)))
local macro_rules | `(tactic| walk_at "s1") => `(tactic| first | with_reducible refine ws_if ?_ | walk_at "s0")
local macro_rules | `(tactic| walk_at "gj") => `(tactic| repeat walk_at "s0")
local macro_rules | `(tactic| walk_at "go") => `(tactic| repeat walk_at "s1")
section
variable {P : Program} {w : World} {K : PySem.W.Frag} {mg : Str → Option Value} {base : Heap} {C : Addr}
def pre_S_push : PreW := fun n h f as post => ∃ s : Nat, as = [.im (.int (s : Int)), .ls ((exL n (fn f) n.rs.length).map Dt.int)] ∧ n.ok ∧ h.length = n.names.length ∧ f.length = n.rs.length ∧ (∀ i, i < n.rs.length → -1 ≤ fn f i ∧ fn f i ≤ 1) ∧ Slack n h (fn f) ∧ s < n.names.length ∧ 0 < ex n (fn f) n.rs.length s ∧ ∀ h' f', PushOk n (fn f) h' f' → post h' f'
theorem has_S_push (D : DfM K C "push" "Search.push" s_S_push P_S_push) (T : Tx mg) (ks : KS K C) (G_S_shortest : HasM P w K mg base 4 C "shortest" P_S_shortest (spSh K C pre_S_shortest)) : HasM P w K mg base 5 C "push" P_S_push (spW K C pre_S_push) := by
  obtain ⟨f, fd, F, hm, hb⟩ := D
  refine hasM_of (k := 4) F hm sc_S_push hb (lenW (j := 2) (by intro n h f as post hp; unfold pre_S_push at hp; repeat (first | (obtain ⟨e, _⟩ := hp; rw [e]; rfl) | (obtain ⟨_, hp⟩ := hp)))) fun cdv A outer s H E hr => ?_
  refine ⟨_, (pss_cons (ps_asg (HasM.pe G_S_shortest ks.c (hr.mono (by omega)) (pv 0) (pa_cons (pv 1) pa_nil)) (kgTup (K := K) (n := 2) rfl rfl (pgs_cons (pg_name (i := 3) sc_S_push.nd rfl (Or.inr rfl) (Or.inl rfl)) (pgs_cons (pg_name (i := 4) sc_S_push.nd rfl (Or.inl rfl) (Or.inl rfl)) pgs_nil))))
      (pss_cons (ps_setLc (i := 5) (own := [("mark", 7)]) rfl sc_S_push.nd rfl rfl (sw_true rfl rfl rfl (by decide +kernel)) (pi_range1 (by rfl) T.range_ (pa_cons (kFld (K := K) rfl (pv 0) rfl) pa_nil)) (blkOk_by (own := [("mark", 7)]) (N := N_S_push) (sc := defScope s_S_push) (by decide +kernel)) (fun _ _ _ _ _ => (pg_name (i := 7) sc_S_push.nd rfl (Or.inl rfl) (Or.inr rfl))) (fun _ _ _ _ _ => (pts_one (PW.pt (pw_and (pt_cmpR op_ltI (pe_ix (kIx (K := K) rfl) (pv 2) (pv 7) (fun _ _ => rfl)) pe_int (nomark _)) (pw_and1 (pt_cmpR op_notNT (pe_ix (kIx (K := K) rfl) (pv 3) (pv 7) (fun _ _ => rfl)) pe_non (nomark _))))))) (fun _ _ _ _ _ => (pe_tup (pa_cons (pe_ix (kIx (K := K) rfl) (pv 3) (pv 7) (fun _ _ => rfl)) (pa_cons (pv 7) pa_nil)))))
      (pss_cons (ps_asg (pe_callB (kMinP (K := K) rfl rfl hr.u65) (by rfl) T.min_ bb_min (pa_cons (pv 5) pa_nil)) (kgTup (K := K) (n := 2) rfl rfl (pgs_cons (pg_name (i := 6) sc_S_push.nd rfl (Or.inl rfl) (Or.inl rfl)) (pgs_cons (pg_name (i := 7) sc_S_push.nd rfl (Or.inl rfl) (Or.inl rfl)) pgs_nil))))
      (pss_cons (ps_for PassesOwn.never rfl (pi_range1 (by rfl) T.range_ (pa_cons (kFld (K := K) rfl (pv 0) rfl) pa_nil)) (pg_name (i := 8) sc_S_push.nd rfl (Or.inl rfl) (Or.inl rfl)) (pss_one (ps_if (PW.pt (pw_or (pt_cmpR op_isNT (pe_ix (kIx (K := K) rfl) (pv 3) (pv 8) (fun _ _ => rfl)) pe_non (nomark _)) (pw_or1 (pt_cmpR op_gtI (pe_ix (kIx (K := K) rfl) (pv 3) (pv 8) (fun _ _ => rfl)) (pv 6) (nomark _))))) (pss_one (ps_asg (pe_op op_subI (pe_ix (kIx (K := K) rfl) (kFld (K := K) rfl (pv 0) rfl) (pv 8) (fun _ _ => rfl)) (pv 6)) (pg_sub (kFld (K := K) rfl (pv 0) rfl) (pv 8) set_list))) (pss_one (ps_asg (pe_op op_subI (pe_ix (kIx (K := K) rfl) (kFld (K := K) rfl (pv 0) rfl) (pv 8) (fun _ _ => rfl)) (pe_ix (kIx (K := K) rfl) (pv 3) (pv 8) (fun _ _ => rfl))) (pg_sub (kFld (K := K) rfl (pv 0) rfl) (pv 8) set_list))))))
      (pss_cons (ps_set (i := 9) sc_S_push.nd rfl (Or.inl rfl) (pe_lst pa_nil))
      (pss_cons (ps_set (i := 10) sc_S_push.nd rfl (Or.inl rfl) (pe_callB (call_min2Q rfl) (by rfl) T.min_ bb_min (pa_cons (pe_ix (kIx (K := K) rfl) (pv 2) (pv 1) (fun _ _ => rfl)) (pa_cons (pe_un un_neg (pe_ix (kIx (K := K) rfl) (pv 2) (pv 7) (fun _ _ => rfl))) pa_nil))))
      (pss_cons (ps_while PassesOwn.never (pt_cmpR (kNe (K := K) rfl hr.units) (pv 7) (pv 1) (nomark _)) (pss_cons (ps_set (i := 11) sc_S_push.nd rfl (Or.inl rfl) (pe_ix (kIx (K := K) rfl) (pv 4) (pv 7) (fun _ _ => rfl)))
      (pss_cons (ps_expr (pe_bm PySem.F.plainAttrs_list PySem.F.slot_list_append PySem.F.type_list_append mt_append (pv 9) (pa_cons (pv 11) pa_nil)))
      (pss_cons (ps_set (i := 10) sc_S_push.nd rfl (Or.inl rfl) (pe_callB (call_min2Q rfl) (by rfl) T.min_ bb_min (pa_cons (pv 10) (pa_cons (pe_op op_subI (pe_ix (kIx (K := K) rfl) (kFld (K := K) rfl (pv 0) rfl) (pe_ix (kIx (K := K) rfl) (pv 11) pe_int (fun _ _ => rfl)) (fun _ _ => rfl)) (pe_op (kMul (K := K) rfl) (pe_ix (kIx (K := K) rfl) (pv 11) pe_int (fun _ _ => rfl)) (pe_ix (kIx (K := K) rfl) (kFld (K := K) rfl (pv 0) rfl) (pe_ix (kIx (K := K) rfl) (pv 11) pe_int (fun _ _ => rfl)) (fun _ _ => rfl)))) pa_nil))))
      (pss_one (ps_set (i := 7) sc_S_push.nd rfl (Or.inl rfl) (pe_ix (kIx (K := K) rfl) (pv 11) pe_int (fun _ _ => rfl))))))))
      (pss_one (ps_for PassesOwn.never rfl (kiList (K := K) rfl (pv 9)) (pg_name (i := 11) sc_S_push.nd rfl (Or.inl rfl) (Or.inl rfl)) (pss_one (ps_asg (pe_op (kAdd (K := K) rfl) (pe_ix (kIx (K := K) rfl) (kFld (K := K) rfl (pv 0) rfl) (pe_ix (kIx (K := K) rfl) (pv 11) pe_int (fun _ _ => rfl)) (fun _ _ => rfl)) (pe_op (kMul (K := K) rfl) (pe_ix (kIx (K := K) rfl) (pv 11) pe_int (fun _ _ => rfl)) (pv 10))) (pg_sub (kFld (K := K) rfl (pv 0) rfl) (pe_ix (kIx (K := K) rfl) (pv 11) pe_int (fun _ _ => rfl)) set_list)))))))))))), fun vs Q hs => spW_start ks hs ?_⟩
  rintro a n lh lf h f as post g me ⟨s0, rfl, ok, hh, hf, hfb, sl, hs0, hex, hpost⟩
  have hm2 := ok.m2
  have hN2 := ok.n2
  walk_at "init"
  simp only [entM] at me
  walk_at "go"
  refine we_methShv me (by decide) rfl ?_
  walk_at "go"
  refine ⟨[.im _], h, f, rfl, .cons (.im _) .nil, s0, rfl, ok, hh, hf, sl, hs0, fun gg last hk b d => ?_⟩
  refine wg_tup2 (wgs_name (wgs_name (wgs_nil ?_)))
  walk_at "go"
  have hgl := hk.gl
  have hll := hk.ll
  obtain ⟨dv, hdv, hdneg, dx, hdx⟩ := deficit ok hk hfb hs0 hex
  refine we_lcpF (fun v => decide (ex n (fn f) n.rs.length v < 0) && !(gg.getD v none).isNone) (fun v => pD ((gg.getD v none).getD 0, (v : Int))) (wi_rng1 ?_)
  walk_at "go"
  refine ⟨by omega, by omega, trivial, fun v r hv hr => ?_, fun en hl => ?_⟩
  · subst hr
    have i1 := at_int (h := exL n (fn f) n.rs.length) (i := v) (by rw [exL_len]; exact hv)
    rw [exL_get hv] at i1
    have i2 := at_opt (r := gg) (i := v) (by omega)
    refine ⟨_, gn_name, wp_t (wp_and (p := decide (ex n (fn f) n.rs.length v < 0)) (q := !(gg.getD v none).isNone) (wp_test ?_) fun _ => wp_test ?_) ⟨rfl, rfl, .refl _, fun hp => ?_⟩⟩
    · walk_at "gj"
      exact ⟨rfl, rfl, rfl⟩
    · walk_at "gj"
      rw [optD_isN]; exact ⟨rfl, rfl, rfl⟩
    · have hp2 : (gg.getD v none).isNone = false := by simp at hp; simpa using hp.2
      cases e : gg.getD v none with
      | none => rw [e] at hp2; cases hp2
      | some x =>
        rw [e] at i2
        have i2' : atI (gg.map optD) (v : Int) = some (.int x) := i2
        walk_at "gj"
        exact ⟨rfl, rfl, .refl _⟩
  generalize hEn : (ixs n.names.length fun v => decide (ex n (fn f) n.rs.length v < 0) && !(gg.getD v none).isNone) = En
  have hEm : ∀ v ∈ En, v < n.names.length ∧ ex n (fn f) n.rs.length v < 0 ∧ ∃ x, gg.getD v none = some x := fun v hv => by
    rw [← hEn] at hv
    obtain ⟨h1, h2⟩ := mem_ixs.mp hv
    rw [Bool.and_eq_true] at h2
    refine ⟨h1, of_decide_eq_true h2.1, ?_⟩
    cases e : gg.getD v none with
    | none => rw [e] at h2; simp at h2
    | some x => exact ⟨x, rfl⟩
  have hEne : dv ∈ En := by
    rw [← hEn]
    exact mem_ixs.mpr ⟨hdv, by rw [hdx]; simp [hdneg]⟩
  have eP : En.map (fun v => pD ((gg.getD v none).getD 0, (v : Int))) = (En.map fun v => ((gg.getD v none).getD 0, (v : Int))).map pD := by rw [List.map_map]; rfl
  rw [eP]
  walk_at "go"
  refine rc_minp lk0 (by rw [List.length_map]; exact List.length_pos_of_mem hEne) fun p hp _ => ?_
  obtain ⟨mk, hmk, rfl⟩ := List.mem_map.mp hp
  obtain ⟨hmkN, hmkneg, most, hmost⟩ := hEm mk hmk
  have hgm : (gg.getD mk none).getD 0 = most := by rw [hmost]; rfl
  rw [hgm]
  show Wg _ _ (.im (.tup [.int most, .int (mk : Int)])) _ _ _ _
  walk_at "gj"
  refine ws_weak (M' := [(b, gg.map optD), (d, last.map lstD)]) (.cons _ (.refl _)) ?_
  refine ws_forW (wi_rng1 ?_)
  walk_at "gj"
  have hmkm : mk ≠ s0 := fun e => by rw [e] at hmkneg; omega
  refine ⟨by omega, fun i F' δ' M' => ∃ r8, F' = FS lh lf (shiftK n h gg most i) f ∧ δ' = [some (.ad (.ref a)), some (.im (.int (s0 : Int))), some (.ad (.ref (g 1))), some (.ad (.ref b)), some (.ad (.ref d)), some (.ad (.ref en)), some (.im (.int most)), some (.im (.int (mk : Int))), r8, none, none, none] ∧ M' = [(b, gg.map optD), (d, last.map lstD)],
    ⟨_, .refl _, none, by rw [shiftK_zero hh], rfl, rfl⟩, fun _ _ _ _ _ _ _ _ => trivial, ?_, ?_⟩
  · rintro i x F' δ' M' hi hx ⟨r8, rfl, rfl, rfl⟩
    subst hx
    have i1 := at_int (h := shiftK n h gg most i) (i := i) (by rw [shiftK_len]; exact hi)
    rw [shiftK_get hi] at i1
    have i2 := at_opt (r := gg) (i := i) (by omega)
    walk_at "gj"
    cases e : gg.getD i none with
    | none =>
      rw [e] at i2
      have hcap : capN gg most i = most := by unfold capN; rw [e]
      refine ws_ifP (B := true || false) (wp_or (wp_test ?_) fun h => by cases h) (fun _ => ?_) (fun h => by cases h)
      · walk_at "gj"
        exact ⟨rfl, rfl, rfl⟩
      · walk_at "gj"
        refine set_H me (j := i) (by rw [shiftK_len]; exact hi) rfl ?_
        walk_at "gj"
        refine ⟨_, .refl _, _, ?_, rfl, rfl⟩
        rw [← shiftK_step hi, hcap]
    | some x =>
      rw [e] at i2
      have i2' : atI (gg.map optD) (i : Int) = some (.int x) := i2
      refine ws_ifP (B := false || decide (most < x)) (wp_or (wp_test ?_) fun _ => wp_test ?_) (fun hB => ?_) (fun hB => ?_)
      · walk_at "gj"
        exact ⟨rfl, rfl, rfl⟩
      · walk_at "gj"
        exact ⟨rfl, rfl, rfl⟩
      · have hB' : most < x := by simpa using hB
        have hcap : capN gg most i = most := by unfold capN; rw [e]; dsimp only; rw [if_pos hB']
        walk_at "gj"
        refine set_H me (j := i) (by rw [shiftK_len]; exact hi) rfl ?_
        walk_at "gj"
        refine ⟨_, .refl _, _, ?_, rfl, rfl⟩
        rw [← shiftK_step hi, hcap]
      · have hB' : ¬ most < x := by simpa using hB
        have hcap : capN gg most i = x := by unfold capN; rw [e]; dsimp only; rw [if_neg hB']
        walk_at "gj"
        refine set_H me (j := i) (by rw [shiftK_len]; exact hi) rfl ?_
        walk_at "gj"
        refine ⟨_, .refl _, _, ?_, rfl, rfl⟩
        rw [← shiftK_step hi, hcap]
  rintro F' δ' M' M3 hs ⟨r8, rfl, rfl, rfl⟩
  refine ws_weak hs ?_
  rw [shiftK_all]
  have x1 := at_int (h := exL n (fn f) n.rs.length) (i := s0) (by rw [exL_len]; exact hs0)
  rw [exL_get hs0] at x1
  have x2 := at_int (h := exL n (fn f) n.rs.length) (i := mk) (by rw [exL_len]; exact hmkN)
  rw [exL_get hmkN] at x2
  obtain ⟨r, tr⟩ := hk.tr
  walk_at "gj"
  intro pt
  walk_at "gj"
  refine rc_min2 ?_
  walk_at "gj"
  refine ws_whileW (fun m F' δ' M' => ∃ (P : List Stp) (v : Nat) (many : Int), ∃ r8 r11, F' = FS lh lf (shifted n h gg most) f ∧ δ' = [some (.ad (.ref a)), some (.im (.int (s0 : Int))), some (.ad (.ref (g 1))), some (.ad (.ref b)), some (.ad (.ref d)), some (.ad (.ref en)), some (.im (.int most)), some (.im (.int (v : Int))), r8, some (.ad (.ref pt)), some (.im (.int many)), r11] ∧ M' = [(pt, P.map stD), (d, last.map lstD)] ∧ PathOk n h (fn f) gg most r mk v P ∧ 1 ≤ many ∧ many ≤ ex n (fn f) n.rs.length s0 ∧ many ≤ -ex n (fn f) n.rs.length mk ∧ (∀ st ∈ P, many ≤ gap n (fn f) st) ∧ m = r v) _ ⟨[(pt, []), (d, last.map lstD)], .cons₂ _ (.cons _ (.refl _)), [], mk, _, _, _, rfl, rfl, rfl, PathOk.nil hmost, ?_, ?_, ?_, (fun st h => by cases h), rfl⟩ ?_
  · split <;> omega
  · split <;> omega
  · split <;> omega
  rintro m F' δ' M' ⟨P, v, many, r8, r11, rfl, rfl, rfl, hP, m1, m2, m3, m4, hm⟩
  walk_at "go"
  refine ⟨fun c1 => ?_, fun c1 => ?_⟩
  · have hvs : v ≠ s0 := fun e => by subst e; simp at c1
    obtain ⟨st, hst, hP', hlt, hi, hres⟩ := hP.snoc hk sl tr hvs
    have hPl := hP.len
    have hvN := (hres.lt ok).2
    have y1 := at_lst (l := last) (v := v) (by omega)
    rw [hst] at y1
    have y1' : atI (last.map lstD) (v : Int) = some (stD st) := y1
    have y2 := at_int (h := f) (i := st.i) (by omega)
    have y3 : atI ((List.replicate n.rs.length (1 : Int)).map Dt.int) (st.i : Int) = some (.int 1) := by
      have := at_int (h := List.replicate n.rs.length (1 : Int)) (i := st.i) (by rw [List.length_replicate]; exact hi)
      rw [this, List.getD_eq_getElem?_getD, List.getElem?_replicate, if_pos hi]; rfl
    have hsg : st.s = 1 ∨ st.s = -1 := by rcases hres.2 with ⟨_, _, e, _⟩ | ⟨_, _, e, _⟩ <;> omega
    walk_at "gj"
    refine ⟨_, _, rfl, lk0, ?_⟩
    walk_at "gj"
    refine app_own (k := 0) rfl (by rw [List.length_map]; omega) ?_
    walk_at "gj"
    refine rr_mul (.inl (by rcases hsg with e | e <;> rw [e] <;> decide)) ?_
    walk_at "gj"
    refine rc_min2 ?_
    walk_at "gj"
    have hg1 : 1 ≤ 1 - st.s * f.getD st.i 0 := by
      have hb := hfb st.i hi
      have hb' : -1 ≤ f.getD st.i 0 ∧ f.getD st.i 0 ≤ 1 := hb
      rcases hres.2 with ⟨_, _, e, z⟩ | ⟨_, _, e, z⟩
      · have z' : f.getD st.i 0 < 1 := z
        rw [e]; omega
      · have z' : -1 < f.getD st.i 0 := z
        rw [e]; omega
    generalize hMM : (if 1 - st.s * f.getD st.i 0 < many then 1 - st.s * f.getD st.i 0 else many) = MM
    have hM1 : 1 ≤ MM := by rw [← hMM]; split <;> omega
    have hM2 : MM ≤ many := by rw [← hMM]; split <;> omega
    have hM3 : MM ≤ 1 - st.s * f.getD st.i 0 := by rw [← hMM]; split <;> omega
    refine ⟨r st.u, by omega, _, .refl _, P ++ [st], st.u, MM, _, _, rfl, rfl, ?_, hP', hM1, by omega, by omega, fun t ht => ?_, rfl⟩
    · rw [List.map_append]; rfl
    · rcases List.mem_append.mp ht with ht | ht
      · have := m4 t ht; omega
      · cases List.mem_singleton.mp ht
        exact hM3
  · have hvs : v = s0 := by have := of_decide_eq_true (by simpa using c1); omega
    subst hvs
    walk_at "gj"
    refine ws_forW (wi_list ?_)
    walk_at "gj"
    refine ⟨pt, _, rfl, lk0, ?_⟩
    rw [List.length_map]
    refine ⟨fun j F' δ' M' => ∃ (fl : List Int), ∃ r11, F' = FS lh lf (shifted n h gg most) fl ∧ δ' = [some (.ad (.ref a)), some (.im (.int (v : Int))), some (.ad (.ref (g 1))), some (.ad (.ref b)), some (.ad (.ref d)), some (.ad (.ref en)), some (.im (.int most)), some (.im (.int (v : Int))), r8, some (.ad (.ref pt)), some (.im (.int many)), r11] ∧ M' = [(pt, P.map stD), (d, last.map lstD)] ∧ fl.length = n.rs.length ∧ Led n (fn f) mk many P j (fn fl), ⟨_, .refl _, f, _, rfl, rfl, rfl, hf, Led.start⟩, fun i F' δ' M' M3 _ hs ⟨_, _, _, _, e, _⟩ => lkM (hs.subset (by rw [e]; simp)), ?_, ?_⟩
    · rintro j x F' δ' M' hj ⟨dd, hd, rfl⟩ ⟨fl, r11, rfl, rfl, rfl, hfl, hL⟩
      have hPj : P[j]? = some P[j] := List.getElem?_eq_getElem hj
      rw [List.getElem?_map, hPj] at hd
      cases hd
      generalize P[j] = st at hPj
      have hres := hP.res st (List.mem_of_getElem? hPj)
      have hi := hres.1
      obtain ⟨hfi, hL'⟩ := hL.step ok hP hPj
      have y2 := at_int (h := fl) (i := st.i) (by omega)
      have hsg : st.s = 1 ∨ st.s = -1 := by rcases hres.2 with ⟨_, _, e, _⟩ | ⟨_, _, e, _⟩ <;> omega
      walk_at "gj"
      refine rr_mul (.inl (by rcases hsg with e | e <;> rw [e] <;> decide)) ?_
      walk_at "gj"
      refine set_F me (j := st.i) (by omega) rfl ?_
      walk_at "gj"
      exact ⟨_, .refl _, _, _, rfl, rfl, rfl, by rw [List.length_set]; exact hfl, by rw [fn_set (by omega)]; exact hL'⟩
    · rintro F' δ' M' M3 hs ⟨fl, r11, rfl, rfl, rfl, hfl, hL⟩
      exact ⟨_, _, rfl, hpost _ _ (push_ok ok hk sl hfb hP hfl hL m1 m2 m3 hs0 m4)⟩
end
end TL

set_option Elab.async false
set_option linter.all false
set_option autoImplicit false
set_option maxRecDepth 100000
set_option maxHeartbeats 4000000
namespace TL
open PySem PySem.Spec PyProof.Rows L2
local macro_rules | `(tactic| walk_at "lk") => `(tactic| first | assumption | exact lk0 | exact lk1 | exact lk2 | exact lk3 | exact lk4 | exact lr0 | exact lr1 | exact lkH | exact lkF)
/-! one step of the walk: by the reading's head; all else is left -/
local macro_rules | `(tactic| walk_at "s0") => `(tactic| first
  | with_reducible refine ws_seq ?_
  | with_reducible refine ws_pop0 ?_
  | with_reducible refine ws_append ?_
  | with_reducible refine ws_insert ?_
  | with_reducible refine ws_set ?_
  | with_reducible refine ws_drop ?_
  | with_reducible refine ws_ret ?_
  | with_reducible refine ws_asg ?_
  | with_reducible refine ws_next ?_
  | with_reducible refine wg_name ?_
  | with_reducible refine wgs_nameM ?_
  | with_reducible refine wgs_nilM ?_
  | ((with_reducible refine' wg_tup ?h ?k); (case h => exact rfl))
  | with_reducible refine wg_sub ?_
  | with_reducible refine we_andV ?_
  | with_reducible refine we_notV ?_
  | with_reducible refine rc_isi isi_int ?_
  | with_reducible refine rc_isi isi_intb ?_
  | with_reducible refine rc_isi isi_tup ?_
  | with_reducible refine we_orV ?_
  | with_reducible refine we_chain ?_
  | with_reducible refine we_call ?_
  | with_reducible refine rr_eqI ?_
  | ((with_reducible refine' we_var ?h ?k); (case h => exact rfl))
  | with_reducible refine we_int ?_
  | ((with_reducible refine' we_fNv ?m ?h ?k); (case m => assumption); (case h => exact rfl))
  | ((with_reducible refine' we_fWv ?m ?h ?k); (case m => assumption); (case h => exact rfl))
  | ((with_reducible refine' we_fMv ?m ?h ?k); (case m => assumption); (case h => exact rfl))
  | ((with_reducible refine' we_fHv ?m ?h ?k); (case m => assumption); (case h => exact rfl))
  | ((with_reducible refine' we_fFv ?m ?h ?k); (case m => assumption); (case h => exact rfl))
  | with_reducible refine we_str ?_
  | with_reducible refine we_non ?_
  | with_reducible refine we_bl ?_
  | with_reducible refine we_ty ?_
  | with_reducible refine we_op ?_
  | with_reducible refine we_un ?_
  | with_reducible refine we_neg ?_
  | with_reducible refine we_cb ?_
  | with_reducible refine wa_cons ?_
  | with_reducible refine wa_nil ?_
  | with_reducible refine wt_test ?_
  | with_reducible refine wt_B ?_
  | with_reducible refine wt_yes ?_
  | with_reducible refine wt_not ?_
  | with_reducible refine wt_and ?_
  | with_reducible refine wt_or ?_
  | with_reducible refine rr_add ?_
  | with_reducible refine rr_sub ?_
  | with_reducible refine rr_lt ?_
  | with_reducible refine rr_le ?_
  | with_reducible refine rr_gt ?_
  | with_reducible refine rr_ge ?_
  | with_reducible refine rr_isN ?_
  | with_reducible refine rr_eqI ?_
  | with_reducible refine rr_neI ?_
  | with_reducible refine rr_neB ?_
  | with_reducible refine rr_int ?_
  | with_reducible refine rr_notN ?_
  | with_reducible refine rc_abs ?_
  | with_reducible refine rc_inti ?_
  | with_reducible refine rc_intb ?_
  | with_reducible refine rc_lent ?_
  | ((with_reducible refine' rr_ixt ?h ?k); (case h => first | assumption | exact rfl))
  | ((with_reducible refine' rr_ixl ?l ?h ?k); (case l => walk_at "lk"); (case h => first | assumption | exact rfl))
  | ((with_reducible refine' rc_lenl ?l ?k); (case l => walk_at "lk"))
  | with_reducible refine rc_lstt ?_
  | ((with_reducible refine' rc_lstl ?l ?k); (case l => walk_at "lk"))
  | ((with_reducible refine' rc_tupl ?l ?k); (case l => walk_at "lk"))
  | with_reducible refine we_sl ?_
  | with_reducible refine wo_none ?_
  | with_reducible refine wo_some ?_
  | with_reducible refine we_tup ?_
  | with_reducible refine we_lst ?_
  | refine ⟨[], rfl, Nat.le_of_ble_eq_true rfl, ?_⟩
  | refine ⟨[_], rfl, Nat.le_of_ble_eq_true rfl, ?_⟩
  | refine ⟨[_, _], rfl, Nat.le_of_ble_eq_true rfl, ?_⟩
  | refine ⟨[_, _, _], rfl, Nat.le_of_ble_eq_true rfl, ?_⟩
  | refine ⟨[_, _, _, _], rfl, Nat.le_of_ble_eq_true rfl, ?_⟩
  | refine ⟨[_, _, _, _, _], rfl, Nat.le_of_ble_eq_true rfl, ?_⟩
  | refine ⟨_, rfl, ?_⟩)
local macro_rules | `(tactic| walk_at "init") => `(tactic| simp only [δS, cxK, cxK2, entR, entM, List.map_cons, List.map_nil, List.length_cons, List.length_nil, List.replicate, List.cons_append, List.nil_append, Nat.reduceAdd, Nat.reduceSub])
local macro_rules | `(tactic| walk_at "seti0") => `(tactic| (refine' set_ownI (k := 0) ?hk ?hj ?hi ?hn; (case hk => exact rfl); (case hi => exact rfl)))
local macro_rules | `(tactic| walk_at "set0") => `(tactic| (refine' set_own (k := 0) ?hk ?hj ?hi ?hn; (case hk => exact rfl); (case hi => exact rfl)))
local macro_rules | `(tactic| walk_at "seti1") => `(tactic| (refine' set_ownI (k := 1) ?hk ?hj ?hi ?hn; (case hk => exact rfl); (case hi => exact rfl)))
local macro_rules | `(tactic| walk_at "set1") => `(tactic| (refine' set_own (k := 1) ?hk ?hj ?hi ?hn; (case hk => exact rfl); (case hi => exact rfl)))
local macro_rules | `(tactic| walk_at "seti2") => `(tactic| (refine' set_ownI (k := 2) ?hk ?hj ?hi ?hn; (case hk => exact rfl); (case hi => exact rfl)))
local macro_rules | `(tactic| walk_at "set2") => `(tactic| (refine' set_own (k := 2) ?hk ?hj ?hi ?hn; (case hk => exact rfl); (case hi => exact rfl)))
local macro_rules | `(tactic| walk_at "s1") => `(tactic| first | with_reducible refine ws_if ?_ | walk_at "s0")
local macro_rules | `(tactic| walk_at "gj") => `(tactic| repeat walk_at "s0")
local macro_rules | `(tactic| walk_at "go") => `(tactic| repeat walk_at "s1")
section
variable {P : Program} {w : World} {K : PySem.W.Frag} {mg : Str → Option Value} {base : Heap} {C : Addr}
def pre_S_run : PreW := fun n h f as post => as = [] ∧ n.ok ∧ h.length = n.names.length ∧ f.length = n.rs.length ∧ (∀ i, i < n.rs.length → -1 ≤ fn f i ∧ fn f i ≤ 1) ∧ Slack n h (fn f) ∧ ∀ h' f' : List Int, h'.length = n.names.length → f'.length = n.rs.length → (∀ i, i < n.rs.length → -1 ≤ fn f' i ∧ fn f' i ≤ 1) → Slack n h' (fn f') → evenF n (fn f') → post h' f'
theorem has_S_run (D : DfM K C "run" "Search.run" s_S_run P_S_run) (T : Tx mg) (ks : KS K C) (G_S_excess : HasM P w K mg base 1 C "excess" P_S_excess (spR K C pre_S_excess)) (G_S_push : HasM P w K mg base 5 C "push" P_S_push (spW K C pre_S_push)) : HasM P w K mg base 6 C "run" P_S_run (spW K C pre_S_run) := by
  obtain ⟨f, fd, F, hm, hb⟩ := D
  refine hasM_of (k := 5) F hm sc_S_run hb (lenW (j := 0) (by intro n h f as post hp; unfold pre_S_run at hp; repeat (first | (obtain ⟨e, _⟩ := hp; rw [e]; rfl) | (obtain ⟨_, hp⟩ := hp)))) fun cdv A outer s H E hr => ?_
  refine ⟨_, (pss_cons (ps_set (i := 1) sc_S_run.nd rfl (Or.inl rfl) (HasM.pe0 G_S_excess ks.c (hr.mono (by omega)) (pv 0)))
      (pss_one (ps_while PassesOwn.never (pt_cmpR op_gtI (pe_callB (kMax (K := K) rfl rfl) (by rfl) T.max_ bb_max (pa_cons (pv 1) pa_nil)) pe_int (nomark _)) (pss_cons (ps_expr (HasM.pe G_S_push ks.c (hr.mono (by omega)) (pv 0) (pa_cons (pe_bm PySem.F.plainAttrs_list PySem.F.slot_list_index PySem.F.type_list_index mt_index (pv 1) (pa_cons (pe_callB (kMax (K := K) rfl rfl) (by rfl) T.max_ bb_max (pa_cons (pv 1) pa_nil)) pa_nil)) (pa_cons (pv 1) pa_nil))))
      (pss_one (ps_set (i := 1) sc_S_run.nd rfl (Or.inl rfl) (HasM.pe0 G_S_excess ks.c (hr.mono (by omega)) (pv 0)))))))), fun vs Q hs => spW_start ks hs ?_⟩
  rintro a n lh lf h f as post g me ⟨rfl, ok, hh, hf, hfb, sl, hpost⟩
  have hm2 := ok.m2
  have hN1 := ok.n1
  have hN2 := ok.n2
  walk_at "init"
  simp only [entM] at me
  walk_at "go"
  refine we_methRv me (by decide) rfl ?_
  walk_at "go"
  refine ⟨[], h, f, rfl, .nil, rfl, ok, hf, fun e => ?_⟩
  walk_at "go"
  refine ws_whileW (fun m F' δ' M' => ∃ (h' f' : List Int) (e : Addr), F' = FS lh lf h' f' ∧ δ' = [some (.ad (.ref a)), some (.ad (.ref e))] ∧ M' = [(e, (exL n (fn f') n.rs.length).map Dt.int)] ∧ h'.length = n.names.length ∧ f'.length = n.rs.length ∧ (∀ i, i < n.rs.length → -1 ≤ fn f' i ∧ fn f' i ≤ 1) ∧ Slack n h' (fn f') ∧ m = posEx n (fn f')) _ ⟨_, .refl _, h, f, e, rfl, rfl, rfl, hh, hf, hfb, sl, rfl⟩ ?_
  rintro m F' δ' M' ⟨h', f', e, rfl, rfl, rfl, hh', hf', hfb', sl', hm⟩
  have hEl : 0 < (exL n (fn f') n.rs.length).length := by rw [exL_len]; omega
  have hEx : ∀ v, v < n.names.length → ex n (fn f') n.rs.length v ∈ exL n (fn f') n.rs.length := fun v hv => by
    unfold exL
    exact List.mem_map.mpr ⟨v, List.mem_range.mpr hv, rfl⟩
  walk_at "go"
  refine rc_max lk0 hEl fun z hz hle => ?_
  walk_at "go"
  refine ⟨fun c1 => ?_, fun c1 => ?_⟩
  rotate_left
  · walk_at "go"
    have hz0 : ¬ 0 < z := of_decide_eq_false c1
    exact ⟨h', f', rfl, hpost h' f' hh' hf' hfb' sl' (even_end ok fun v hv => by have := hle _ (hEx v hv); omega)⟩
  have hz0 : 0 < z := of_decide_eq_true c1
  walk_at "go"
  refine we_methWv me (by decide) rfl ?_
  walk_at "gj"
  refine we_index (exL n (fn f') n.rs.length) ?_
  walk_at "gj"
  refine ⟨lk0, ?_⟩
  walk_at "gj"
  refine rc_max lk0 hEl fun z2 hz2 hle2 => ?_
  refine ⟨z2, rfl, lk0, hz2, fun j hj => ?_⟩
  walk_at "gj"
  have hjN : j < n.names.length := by
    have := (List.getElem?_eq_some_iff.mp hj).1
    rwa [exL_len] at this
  have hzj : ex n (fn f') n.rs.length j = z2 := by
    rw [← exL_get hjN, List.getD_eq_getElem?_getD, hj]; rfl
  have hzz : z ≤ z2 := hle2 z hz
  refine ⟨[.im _, .ls _], h', f', rfl, .cons (.im _) (.cons (.ls List.mem_cons_self) .nil), j, rfl, ok, hh', hf', hfb', sl', hjN, by omega, fun h2 f2 hp => ?_⟩
  walk_at "go"
  refine we_methRv me (by decide) rfl ?_
  walk_at "go"
  refine ⟨[], h2, f2, rfl, .nil, rfl, ok, hp.fl, fun e2 => ?_⟩
  have hdec := hp.dec
  exact ⟨_, by rw [hm]; exact hdec, _, .cons₂ _ (List.nil_sublist _), h2, f2, e2, rfl, rfl, rfl, hp.hl, hp.fl, hp.fb, hp.sl, rfl⟩
end
end TL

set_option Elab.async false
set_option linter.all false
set_option autoImplicit false
set_option maxRecDepth 100000
set_option maxHeartbeats 4000000
namespace TL
open PySem PySem.Spec PyProof.Rows L2
local macro_rules | `(tactic| walk_at "lk") => `(tactic| first | assumption | exact lk0 | exact lk1 | exact lk2 | exact lk3 | exact lk4 | exact lr0 | exact lr1 | exact lkH | exact lkF)
/-! one step of the walk: by the reading's head; all else is left -/
local macro_rules | `(tactic| walk_at "s0") => `(tactic| first
  | with_reducible refine ws_seq ?_
  | with_reducible refine ws_pop0 ?_
  | with_reducible refine ws_append ?_
  | with_reducible refine ws_insert ?_
  | with_reducible refine ws_set ?_
  | with_reducible refine ws_drop ?_
  | with_reducible refine ws_ret ?_
  | with_reducible refine ws_asg ?_
  | with_reducible refine ws_next ?_
  | with_reducible refine wg_name ?_
  | with_reducible refine wgs_nameM ?_
  | with_reducible refine wgs_nilM ?_
  | ((with_reducible refine' wg_tup ?h ?k); (case h => exact rfl))
  | with_reducible refine wg_sub ?_
  | with_reducible refine we_andV ?_
  | with_reducible refine we_notV ?_
  | with_reducible refine rc_isi isi_int ?_
  | with_reducible refine rc_isi isi_intb ?_
  | with_reducible refine rc_isi isi_tup ?_
  | with_reducible refine we_orV ?_
  | with_reducible refine we_chain ?_
  | with_reducible refine we_call ?_
  | with_reducible refine rr_eqI ?_
  | ((with_reducible refine' we_var ?h ?k); (case h => exact rfl))
  | with_reducible refine we_int ?_
  | ((with_reducible refine' we_fNv ?m ?h ?k); (case m => assumption); (case h => exact rfl))
  | ((with_reducible refine' we_fWv ?m ?h ?k); (case m => assumption); (case h => exact rfl))
  | ((with_reducible refine' we_fMv ?m ?h ?k); (case m => assumption); (case h => exact rfl))
  | ((with_reducible refine' we_fHv ?m ?h ?k); (case m => assumption); (case h => exact rfl))
  | ((with_reducible refine' we_fFv ?m ?h ?k); (case m => assumption); (case h => exact rfl))
  | with_reducible refine we_str ?_
  | with_reducible refine we_non ?_
  | with_reducible refine we_bl ?_
  | with_reducible refine we_ty ?_
  | with_reducible refine we_op ?_
  | with_reducible refine we_un ?_
  | with_reducible refine we_neg ?_
  | with_reducible refine we_cb ?_
  | with_reducible refine wa_cons ?_
  | with_reducible refine wa_nil ?_
  | with_reducible refine wt_test ?_
  | with_reducible refine wt_B ?_
  | with_reducible refine wt_yes ?_
  | with_reducible refine wt_not ?_
  | with_reducible refine wt_and ?_
  | with_reducible refine wt_or ?_
  | with_reducible refine rr_add ?_
  | with_reducible refine rr_sub ?_
  | with_reducible refine rr_lt ?_
  | with_reducible refine rr_le ?_
  | with_reducible refine rr_gt ?_
  | with_reducible refine rr_ge ?_
  | with_reducible refine rr_isN ?_
  | with_reducible refine rr_eqI ?_
  | with_reducible refine rr_neI ?_
  | with_reducible refine rr_neB ?_
  | with_reducible refine rr_int ?_
  | with_reducible refine rr_notN ?_
  | with_reducible refine rc_abs ?_
  | with_reducible refine rc_inti ?_
  | with_reducible refine rc_intb ?_
  | with_reducible refine rc_lent ?_
  | ((with_reducible refine' rr_ixt ?h ?k); (case h => first | assumption | exact rfl))
  | ((with_reducible refine' rr_ixl ?l ?h ?k); (case l => walk_at "lk"); (case h => first | assumption | exact rfl))
  | ((with_reducible refine' rc_lenl ?l ?k); (case l => walk_at "lk"))
  | with_reducible refine rc_lstt ?_
  | ((with_reducible refine' rc_lstl ?l ?k); (case l => walk_at "lk"))
  | ((with_reducible refine' rc_tupl ?l ?k); (case l => walk_at "lk"))
  | with_reducible refine we_sl ?_
  | with_reducible refine wo_none ?_
  | with_reducible refine wo_some ?_
  | with_reducible refine we_tup ?_
  | with_reducible refine we_lst ?_
  | refine ⟨[], rfl, Nat.le_of_ble_eq_true rfl, ?_⟩
  | refine ⟨[_], rfl, Nat.le_of_ble_eq_true rfl, ?_⟩
  | refine ⟨[_, _], rfl, Nat.le_of_ble_eq_true rfl, ?_⟩
  | refine ⟨[_, _, _], rfl, Nat.le_of_ble_eq_true rfl, ?_⟩
  | refine ⟨[_, _, _, _], rfl, Nat.le_of_ble_eq_true rfl, ?_⟩
  | refine ⟨[_, _, _, _, _], rfl, Nat.le_of_ble_eq_true rfl, ?_⟩
  | refine ⟨_, rfl, ?_⟩)
local macro_rules | `(tactic| walk_at "init") => `(tactic| simp only [δS, cxK, cxK2, entR, entM, List.map_cons, List.map_nil, List.length_cons, List.length_nil, List.replicate, List.cons_append, List.nil_append, Nat.reduceAdd, Nat.reduceSub])
local macro_rules | `(tactic| walk_at "seti0") => `(tactic| (refine' set_ownI (k := 0) ?hk ?hj ?hi ?hn; (case hk => exact rfl); (case hi => exact rfl)))
local macro_rules | `(tactic| walk_at "set0") => `(tactic| (refine' set_own (k := 0) ?hk ?hj ?hi ?hn; (case hk => exact rfl); (case hi => exact rfl)))
local macro_rules | `(tactic| walk_at "seti1") => `(tactic| (refine' set_ownI (k := 1) ?hk ?hj ?hi ?hn; (case hk => exact rfl); (case hi => exact rfl)))
local macro_rules | `(tactic| walk_at "set1") => `(tactic| (refine' set_own (k := 1) ?hk ?hj ?hi ?hn; (case hk => exact rfl); (case hi => exact rfl)))
local macro_rules | `(tactic| walk_at "seti2") => `(tactic| (refine' set_ownI (k := 2) ?hk ?hj ?hi ?hn; (case hk => exact rfl); (case hi => exact rfl)))
local macro_rules | `(tactic| walk_at "set2") => `(tactic| (refine' set_own (k := 2) ?hk ?hj ?hi ?hn; (case hk => exact rfl); (case hi => exact rfl)))
local macro_rules | `(tactic| walk_at "s1") => `(tactic| first | with_reducible refine ws_if ?_ | walk_at "s0")
local macro_rules | `(tactic| walk_at "gj") => `(tactic| repeat walk_at "s0")
local macro_rules | `(tactic| walk_at "go") => `(tactic| repeat walk_at "s1")
structure HasI (P : Program) (w : World) (K : PySem.W.Frag) (mg : Str → Option Value) (base : Heap) (k : Nat) (C : Addr) (ps : List Str) (sp : Sp) : Prop where
  ex : ∃ f fd, FnOk P w K mg base CX0 k f fd ps sp ∧ Mk K C f ∧ Binds K fd ps []
section
variable {P : Program} {w : World} {K : PySem.W.Frag} {mg : Str → Option Value} {base : Heap} {C : Addr}
def sgn (x : Int) : Int := (if decide (0 < x) then 1 else 0) - (if decide (x < 0) then 1 else 0)
theorem sgn_ok (x : Int) : (-1 ≤ sgn x ∧ sgn x ≤ 1) ∧ (sgn x < 1 → x ≤ 0) ∧ (-1 < sgn x → 0 ≤ x) := by
  unfold sgn
  by_cases h : 0 < x
  · rw [decide_eq_true h, decide_eq_false (by omega)]
    simp
    omega
  · rw [decide_eq_false h]
    by_cases h2 : x < 0
    · rw [decide_eq_true h2]; simp; omega
    · rw [decide_eq_false h2]; simp; omega
theorem zero_getD {N v : Nat} : (List.replicate N (0 : Int)).getD v 0 = 0 := by
  rw [List.getD_eq_getElem?_getD, List.getElem?_replicate]
  split <;> rfl
def Nini (x C dx : Addr) (n : Net) (vn vw : V) : PN := fun F' _ M' => ∃ lh lf, F' = FI x C dx [("net", vn), ("weights", vw), ("many", .int n.names.length), ("heights", .ref lh), ("flow", .ref lf)] ∧ [(lf, (n.row fun i => sgn (n.rd i).v).map Dt.int), (lh, (List.replicate n.names.length (0 : Int)).map Dt.int)].Sublist M'
theorem spI_start {H : Hp} {x dx : Addr} {n : Net} {vn vw : V} {Q : VK} {t : TS} (hx : H x = some (.ins C dx [])) (hn : Rp K H vn (netD n)) (hw : Rp K H vw (onesD n)) (ok : n.ok)
    (q : ∀ H' lh lf h f, (∀ b o, H b = some o → b ≠ x → H' b = some o) → SSt K H' C x n lh lf h f → h.length = n.names.length → f.length = n.rs.length → (∀ i, i < n.rs.length → -1 ≤ fn f i ∧ fn f i ≤ 1) → Slack n h (fn f) → H lh = none → H lf = none → Q .non H')
    (k : Ws (cI K H x) t (FI x C dx []) [some (.ad (.ref x)), some (.ad vn), some (.ad vw), none, none] [] (Nini x C dx n vn vw) (fun _ _ _ => False)) : t { nx := fun _ H' => Q .non H', rt := Q } (L2.start N_S_init [.ref x, vn, vw]) H := by
  have e0 : HE (cI K H x) (FI x C dx []) [] H := ⟨fun a o e _ => e, fun b hb => by
    have hb' : b = x := hb
    rw [hb']; exact ⟨by show Mut (H x); rw [hx]; exact trivial, by rw [hx]; exact trivial⟩, fun H' k => by
    show H' x = _
    rw [k x (by show H x ≠ none; rw [hx]; simp)]; exact hx, fun p hp => (nomatch hp), List.nodup_nil, fun p hp => (nomatch hp)⟩
  have hv : Paired (VOk K H) [RV.ad (.ref x), .ad vn, .ad vw] [V.ref x, vn, vw] := .cons rfl (.cons rfl (.cons rfl .nil))
  refine k _ H _ e0 (slots_start (N := N_S_init) hv) (fun F' δ' M' σ' H' hN e _ _ => ?_) (fun r F' M' v H' hr _ _ => hr.elim)
  obtain ⟨lh, lf, rfl, hs⟩ := hN
  have e' := e.weak hs
  obtain ⟨n1, us1, h1, r1⟩ := e'.mm (lf, _) List.mem_cons_self
  obtain ⟨n2, us2, h2, r2⟩ := e'.mm (lh, _) (List.mem_cons_of_mem _ List.mem_cons_self)
  cases rpl_ints r1
  cases rpl_ints r2
  have hx' := e.fr H' fun _ _ => rfl
  have nd := e'.nd
  refine q H' lh lf _ _ (fun b o z nb => e.st b o z nb) ⟨⟨dx, _, vn, vw, hx', rfl, Rp.tp e.tp0 _ _ hn, rfl, Rp.tp e.tp0 _ _ hw, rfl, rfl, rfl, fun m hm => ?_⟩, h2, h1, fun z => by simp [z] at nd⟩ (by simp) row_len (fun i hi => ?_) ⟨fun i hi hlt => ?_, fun i hi hlt => ?_⟩ n2 n1
  · simp only [meths, List.mem_cons, List.not_mem_nil, or_false] at hm
    rcases hm with rfl | rfl | rfl | rfl | rfl <;> rfl
  · unfold fn; rw [row_get hi]; exact (sgn_ok _).1
  · unfold fn at hlt; rw [row_get hi] at hlt
    unfold Net.miss missR
    rw [zero_getD, zero_getD]
    have := (sgn_ok _).2.1 hlt; omega
  · unfold fn at hlt; rw [row_get hi] at hlt
    unfold Net.miss missR
    rw [zero_getD, zero_getD]
    have := (sgn_ok _).2.2 hlt; omega
theorem has_S_init (D : ∃ f fd, FunD K "__init__" "Search.__init__" (defArgs s_S_init) (defBody s_S_init) (defScope s_S_init) [] [] f fd ∧ Mk K C f ∧ L2.Binds K fd P_S_init []) (T : Tx mg) (ks : KS K C) (G_sign : Has P w K mg base 1 "sign" P_sign (spP K pre_sign)) : HasI P w K mg base 3 C P_S_init (spI K C) := by
  obtain ⟨f, fd, F, hm, hb⟩ := D
  refine ⟨f, fd, F.ok (k := 2) sc_S_init (fun vs H Q E ⟨_, _, _, _, _, e, _⟩ => by rw [e]; rfl) (fun cdv A outer s H vs Q E hr hsp => ?_), hm, hb⟩
  obtain ⟨x, dx, n, vn, vw, rfl, hx, hn, hw, ok, q⟩ := hsp
  have hm2 := ok.m2
  have hN2 := ok.n2
  refine ⟨_, (PSs.nox ((pss_cons (ps_fld (pv 0) (pv 1) rfl)
      (pss_cons (ps_fld (pv 0) (pv 2) rfl)
      (pss_cons (ps_fld (pv 0) (pe_callB (kLen (K := K) rfl) (by rfl) T.len_ bb_len (pa_cons (pe_ix (kIx (K := K) rfl) (pv 1) pe_int (fun _ _ => rfl)) pa_nil)) rfl)
      (pss_cons (ps_fld (pv 0) (pe_op (kMul (K := K) rfl) (pe_lst (pa_cons pe_int pa_nil)) (pe_fld (pv 0) rfl)) rfl)
      (pss_one (ps_fld (pv 0) (pe_lc (own := [("weight", 3), ("reading", 4)]) rfl sc_S_init.nd (kiZip (K := K) rfl (by rfl) T.zip_ (pa_cons (pv 2) (pa_cons (pe_ix (kIx (K := K) rfl) (pv 1) pe_int (fun _ _ => rfl)) pa_nil))) (blkOk_by (own := [("weight", 3), ("reading", 4)]) (N := N_S_init) (sc := defScope s_S_init) (by decide +kernel)) (fun _ _ _ _ _ => (kgTup (K := K) (n := 2) rfl rfl (pgs_cons (pg_name (i := 3) sc_S_init.nd rfl (Or.inl rfl) (Or.inr rfl)) (pgs_cons (pg_name (i := 4) sc_S_init.nd rfl (Or.inl rfl) (Or.inr rfl)) pgs_nil)))) (fun _ _ _ _ _ => pts_nil) (fun _ _ _ _ _ => (pe_op (kMul (K := K) rfl) (pv 3) (G_sign.pe (hr.mono (by omega)) (by rfl) (pa_cons (pe_ix (kIx (K := K) rfl) (pv 4) pe_int (fun _ _ => rfl)) pa_nil))))) rfl)))))))), spI_start hx hn hw ok q ?_⟩
  walk_at "init"
  have p2 : putF "weights" vw (putF "net" vn []) = [(("net" : Str), vn), (("weights" : Str), vw)] := by simp only [putF]; rw [if_neg (by decide)]
  have p3 : ∀ v : V, putF "many" v [(("net" : Str), vn), (("weights" : Str), vw)] = [(("net" : Str), vn), (("weights" : Str), vw), (("many" : Str), v)] := fun v => by simp only [putF]; rw [if_neg (by decide), if_neg (by decide)]
  have p4 : ∀ v u : V, putF "heights" u [(("net" : Str), vn), (("weights" : Str), vw), (("many" : Str), v)] = [(("net" : Str), vn), (("weights" : Str), vw), (("many" : Str), v), (("heights" : Str), u)] := fun v u => by simp only [putF]; rw [if_neg (by decide), if_neg (by decide), if_neg (by decide)]
  have p5 : ∀ v u z : V, putF "flow" z [(("net" : Str), vn), (("weights" : Str), vw), (("many" : Str), v), (("heights" : Str), u)] = [(("net" : Str), vn), (("weights" : Str), vw), (("many" : Str), v), (("heights" : Str), u), (("flow" : Str), z)] := fun v u z => by simp only [putF]; rw [if_neg (by decide), if_neg (by decide), if_neg (by decide), if_neg (by decide)]
  refine ws_seq (ws_put ks.c ks.net rfl (we_var rfl ⟨vn, [], .inl rfl, rfl, by show 0 < 1000; omega, ?_⟩))
  refine ws_seq (ws_put ks.c ks.weights rfl (we_var rfl ⟨vw, _, .inl rfl, rfl, by show 1 < 1000; omega, ?_⟩))
  rw [p2]
  refine ws_seq (ws_put (dx := dx) ks.c ks.many rfl ?_)
  walk_at "gj"
  refine rr_sh hn ?_
  walk_at "gj"
  rw [List.length_map]
  refine ⟨_, _, .inr ⟨_, rfl, rfl⟩, rfl, by show 2 < 1000; omega, ?_⟩
  rw [p3]
  refine ws_seq (ws_put (dx := dx) ks.c ks.heights rfl ?_)
  walk_at "gj"
  intro a1
  refine we_fI ks.c ks.many rfl rfl ?_
  refine rr_rep1 List.mem_cons_self rfl (by omega) fun lh => ?_
  refine ⟨_, _, .inl rfl, rfl, by show 3 < 1000; omega, ?_⟩
  rw [p4]
  refine ws_put (dx := dx) ks.c ks.flow rfl ?_
  refine we_lcpF (fun _ => true) (fun i => .int (sgn (n.rd i).v)) (wi_zipt ?_)
  refine we_sh rfl hw ?_
  walk_at "gj"
  refine rr_sh hn ?_
  walk_at "gj"
  have hmin : min ((List.replicate n.rs.length (1 : Int)).map Dt.int).length (n.rs.map rdD).length = n.rs.length := by simp
  refine ⟨_, _, rfl, rfl, ?_⟩
  rw [hmin]
  refine ⟨by omega, trivial, fun i r hi ⟨d, d2, hd, hd2, hr⟩ => ?_, fun lf hl => ?_⟩
  · obtain ⟨_, rfl⟩ := rds_get hd2
    rw [List.getElem?_map, List.getElem?_replicate, if_pos hi] at hd
    cases hd
    subst hr
    refine ⟨_, gn_tup rfl (gns_cons (gns_cons gns_nil)), wt_yes ⟨rfl, rfl, .refl _, fun _ => ?_⟩⟩
    walk_at "gj"
    refine ⟨_, .cons (.im _) .nil, (n.rd i).v, rfl, ?_⟩
    refine rr_mul (.inl ⟨by decide, by decide⟩) ?_
    rw [Int.one_mul]
    exact ⟨rfl, rfl, .refl _⟩
  · refine ⟨_, _, .inl rfl, rfl, by show 4 < 1000; omega, ?_⟩
    rw [p5, ixs_all]
    refine ⟨lh, lf, rfl, ?_⟩
    rw [row_map, List.map_replicate]
    exact .cons₂ _ (.cons₂ _ (List.nil_sublist _))
end
end TL

set_option Elab.async false
set_option linter.all false
set_option autoImplicit false
set_option maxRecDepth 100000
set_option maxHeartbeats 4000000
namespace TL
open PySem PySem.Spec PyProof.Rows L2
local macro_rules | `(tactic| walk_at "lk") => `(tactic| first | assumption | exact lk0 | exact lk1 | exact lk2 | exact lk3 | exact lk4 | exact lr0 | exact lr1 | exact lkH | exact lkF)
/-! one step of the walk: by the reading's head; all else is left -/
local macro_rules | `(tactic| walk_at "s0") => `(tactic| first
  | with_reducible refine ws_seq ?_
  | with_reducible refine ws_pop0 ?_
  | with_reducible refine ws_append ?_
  | with_reducible refine ws_insert ?_
  | with_reducible refine ws_set ?_
  | with_reducible refine ws_drop ?_
  | with_reducible refine ws_ret ?_
  | with_reducible refine ws_asg ?_
  | with_reducible refine ws_next ?_
  | with_reducible refine wg_name ?_
  | with_reducible refine wgs_nameM ?_
  | with_reducible refine wgs_nilM ?_
  | ((with_reducible refine' wg_tup ?h ?k); (case h => exact rfl))
  | with_reducible refine wg_sub ?_
  | with_reducible refine we_andV ?_
  | with_reducible refine we_notV ?_
  | with_reducible refine rc_isi isi_int ?_
  | with_reducible refine rc_isi isi_intb ?_
  | with_reducible refine rc_isi isi_tup ?_
  | with_reducible refine we_orV ?_
  | with_reducible refine we_chain ?_
  | with_reducible refine we_call ?_
  | with_reducible refine rr_eqI ?_
  | ((with_reducible refine' we_var ?h ?k); (case h => exact rfl))
  | with_reducible refine we_int ?_
  | ((with_reducible refine' we_fNv ?m ?h ?k); (case m => assumption); (case h => exact rfl))
  | ((with_reducible refine' we_fWv ?m ?h ?k); (case m => assumption); (case h => exact rfl))
  | ((with_reducible refine' we_fMv ?m ?h ?k); (case m => assumption); (case h => exact rfl))
  | ((with_reducible refine' we_fHv ?m ?h ?k); (case m => assumption); (case h => exact rfl))
  | ((with_reducible refine' we_fFv ?m ?h ?k); (case m => assumption); (case h => exact rfl))
  | with_reducible refine we_str ?_
  | with_reducible refine we_non ?_
  | with_reducible refine we_bl ?_
  | with_reducible refine we_ty ?_
  | with_reducible refine we_op ?_
  | with_reducible refine we_un ?_
  | with_reducible refine we_neg ?_
  | with_reducible refine we_cb ?_
  | with_reducible refine wa_cons ?_
  | with_reducible refine wa_nil ?_
  | with_reducible refine wt_test ?_
  | with_reducible refine wt_B ?_
  | with_reducible refine wt_yes ?_
  | with_reducible refine wt_not ?_
  | with_reducible refine wt_and ?_
  | with_reducible refine wt_or ?_
  | with_reducible refine rr_add ?_
  | with_reducible refine rr_sub ?_
  | with_reducible refine rr_lt ?_
  | with_reducible refine rr_le ?_
  | with_reducible refine rr_gt ?_
  | with_reducible refine rr_ge ?_
  | with_reducible refine rr_isN ?_
  | with_reducible refine rr_eqI ?_
  | with_reducible refine rr_neI ?_
  | with_reducible refine rr_neB ?_
  | with_reducible refine rr_int ?_
  | with_reducible refine rr_notN ?_
  | with_reducible refine rc_abs ?_
  | with_reducible refine rc_inti ?_
  | with_reducible refine rc_intb ?_
  | with_reducible refine rc_lent ?_
  | ((with_reducible refine' rr_ixt ?h ?k); (case h => first | assumption | exact rfl))
  | ((with_reducible refine' rr_ixl ?l ?h ?k); (case l => walk_at "lk"); (case h => first | assumption | exact rfl))
  | ((with_reducible refine' rc_lenl ?l ?k); (case l => walk_at "lk"))
  | with_reducible refine rc_lstt ?_
  | ((with_reducible refine' rc_lstl ?l ?k); (case l => walk_at "lk"))
  | ((with_reducible refine' rc_tupl ?l ?k); (case l => walk_at "lk"))
  | with_reducible refine we_sl ?_
  | with_reducible refine wo_none ?_
  | with_reducible refine wo_some ?_
  | with_reducible refine we_tup ?_
  | with_reducible refine we_lst ?_
  | refine ⟨[], rfl, Nat.le_of_ble_eq_true rfl, ?_⟩
  | refine ⟨[_], rfl, Nat.le_of_ble_eq_true rfl, ?_⟩
  | refine ⟨[_, _], rfl, Nat.le_of_ble_eq_true rfl, ?_⟩
  | refine ⟨[_, _, _], rfl, Nat.le_of_ble_eq_true rfl, ?_⟩
  | refine ⟨[_, _, _, _], rfl, Nat.le_of_ble_eq_true rfl, ?_⟩
  | refine ⟨[_, _, _, _, _], rfl, Nat.le_of_ble_eq_true rfl, ?_⟩
  | refine ⟨_, rfl, ?_⟩)
local macro_rules | `(tactic| walk_at "init") => `(tactic| simp only [δS, cxK, cxK2, entR, entM, List.map_cons, List.map_nil, List.length_cons, List.length_nil, List.replicate, List.cons_append, List.nil_append, Nat.reduceAdd, Nat.reduceSub])
local macro_rules | `(tactic| walk_at "seti0") => `(tactic| (refine' set_ownI (k := 0) ?hk ?hj ?hi ?hn; (case hk => exact rfl); (case hi => exact rfl)))
local macro_rules | `(tactic| walk_at "set0") => `(tactic| (refine' set_own (k := 0) ?hk ?hj ?hi ?hn; (case hk => exact rfl); (case hi => exact rfl)))
local macro_rules | `(tactic| walk_at "seti1") => `(tactic| (refine' set_ownI (k := 1) ?hk ?hj ?hi ?hn; (case hk => exact rfl); (case hi => exact rfl)))
local macro_rules | `(tactic| walk_at "set1") => `(tactic| (refine' set_own (k := 1) ?hk ?hj ?hi ?hn; (case hk => exact rfl); (case hi => exact rfl)))
local macro_rules | `(tactic| walk_at "seti2") => `(tactic| (refine' set_ownI (k := 2) ?hk ?hj ?hi ?hn; (case hk => exact rfl); (case hi => exact rfl)))
local macro_rules | `(tactic| walk_at "set2") => `(tactic| (refine' set_own (k := 2) ?hk ?hj ?hi ?hn; (case hk => exact rfl); (case hi => exact rfl)))
local macro_rules | `(tactic| walk_at "s1") => `(tactic| first | with_reducible refine ws_if ?_ | walk_at "s0")
local macro_rules | `(tactic| walk_at "gj") => `(tactic| repeat walk_at "s0")
local macro_rules | `(tactic| walk_at "go") => `(tactic| repeat walk_at "s1")
section
variable {X : Cx} {k : Nat} {C : Addr} {x : Str} {ps : List Str} {sp : Sp} {p pos : Pos} {e : Expr} {es : List Expr} {t : TA}
theorem HasI.pe (G : HasI X.prog X.w X.K X.mg X.base k C ps sp) (hr : Room (k + 1) X.A) (hg : Gl X x) (hm : X.mg x = some (.ref C)) (ha : PA X (e :: es) t)
    (hdb : (x == ("__debug__" : Str)) = false := by decide) (he : starEach (e :: es) X.env = (false, eval e X.env) :: starEach es X.env := by rfl) (hpl : (backTo pos (starEach es X.env)).any (·.1) = false := by rfl) : PE X (.Call (.Name x p) (e :: es) [] pos) (tMake C sp [] E0 t) := by
  obtain ⟨f, fd, FO, M, hb⟩ := G.ex
  exact pe_make M FO hr hg hm hb .nil pass0 ha hdb he hpl
end
section
variable {P : Program} {w : World} {K : PySem.W.Frag} {mg : Str → Option Value} {base : Heap} {C : Addr}
structure Adj (n : Net) (h f : List Int) : Prop where
  hl : h.length = n.names.length
  fl : f.length = n.rs.length
  fb : ∀ i, i < n.rs.length → -1 ≤ fn f i ∧ fn f i ≤ 1
  sl : Slack n h (fn f)
  ev : evenF n (fn f)
theorem ws_search {H : Hp} {n : Net} {rest : TS} {N : PN} {post : BV → Prop} (ok : n.ok)
    (hrest : ∀ H'' x lh lf h f, SSt K H'' C x n lh lf h f → Adj n h f → Ws (cS K H'' lh lf []) rest (FS lh lf h f) [some (.im (netD n)), some (.im (onesD n)), some (.ad (.ref x)), none, none] [] (fun _ _ _ => False) (fun r F' M' => F' = FS lh lf h f ∧ ∃ y, r = .im y ∧ post (.im y))) :
    Ws (cnP K H []) (tSeq (tAsg (tMake C (spI K C) [] E0 (tCons (tVar 0) (tCons (tVar 1) tNil))) (gName 2)) (tSeq (tDrop (tMeth C "run" (spW K C pre_S_run) [] E0 (tVar 2) tNil)) rest)) Tr [some (.im (netD n)), some (.im (onesD n)), none, none, none] [] N (Rt post) := fun σ H1 D e s nx rt => by
  obtain ⟨v0, a0, b0⟩ := s.2 0 _ rfl
  obtain ⟨v1, a1, b1⟩ := s.2 1 _ rfl
  refine ⟨v0, a0, v1, a1, fun x dx hx hdx hne => ?_⟩
  have sm1 : Same H1 (upd (upd H1 dx (.own x)) x (.ins C dx [])) := fun b o z => by
    rw [upd_ne (fun q => by rw [q, hx] at z; cases z), upd_ne (fun q => by rw [q, hdx] at z; cases z)]; exact z
  have tpS : ∀ {A B : Hp}, Same A B → Tp K A B := fun sm b ys q => by
    rcases q with (q | ⟨u, q⟩) | q
    · exact .inl (.inl (sm _ _ q))
    · exact .inl (.inr ⟨u, sm _ _ q⟩)
    · exact .inr q
  have t1 := tpS sm1
  refine ⟨x, dx, n, v0, v1, rfl, upd_same, Rp.tp t1 _ _ b0, Rp.tp t1 _ _ b1, ok, fun H' lh lf h f keep st hl fl fb sl n1 n2 => ⟨rfl, ?_⟩⟩
  have sm2 : Same H1 H' := fun b o z => keep b o (sm1 b o z) (fun q => by rw [q, hx] at z; cases z)
  obtain ⟨dx', fs, vn, vw, g0, _, _, _, _, _, _, _, g⟩ := st.fd.ex
  have hlen : 2 < σ.length := by rw [s.1]; exact Nat.le_of_ble_eq_true rfl
  refine ⟨.ref x, by rw [List.getElem?_set_self hlen], x, dx', fs, rfl, g0, g _ (by decide), ?_⟩
  refine ⟨x, [], n, lh, lf, h, f, [], Adj n, rfl, st, .nil, ⟨rfl, ok, hl, fl, fb, sl, fun h' f' q1 q2 q3 q4 q5 => ⟨q1, q2, q3, q4, q5⟩⟩, fun h' f' H'' ha keep2 hh hf => ?_⟩
  have sm3 : Same H1 H'' := fun b o z => keep2 b o (sm2 b o z) (fun q => by
    have := sm1 b o z
    rw [q, n1] at this; cases this) (fun q => by
    have := sm1 b o z
    rw [q, n2] at this; cases this)
  have neq : ∀ b o, H' b = some o → (∀ xs, o ≠ .lst xs) → b ≠ lh ∧ b ≠ lf := fun b o z no => ⟨fun q => by rw [q, st.hh] at z; cases z; exact no _ rfl, fun q => by rw [q, st.hf] at z; cases z; exact no _ rfl⟩
  have kp : ∀ b o, H' b = some o → (∀ xs, o ≠ .lst xs) → H'' b = some o := fun b o z no => keep2 b o z (neq b o z no).1 (neq b o z no).2
  have t23 : Tp K H' H'' := fun b ys q => by
    rcases q with (q | ⟨u, q⟩) | q
    · exact .inl (.inl (kp _ _ q fun xs z => by cases z))
    · exact .inl (.inr ⟨u, kp _ _ q fun xs z => by cases z⟩)
    · exact .inr q
  have st2 : SSt K H'' C x n lh lf h' f' := by
    obtain ⟨dx', fs, vn, vw, g0, g1, r1, g2, r2, g3⟩ := st.fd.ex
    exact ⟨⟨dx', fs, vn, vw, kp _ _ g0 (fun xs z => by cases z), g1, Rp.tp t23 _ _ r1, g2, Rp.tp t23 _ _ r2, g3⟩, hh, hf, st.ne⟩
  have t13 := tpS sm3
  have e0 := he_start (R := []) st2 (fun p hp => nomatch hp)
  have sl2 : Slots K H'' [some (.im (netD n)), some (.im (onesD n)), some (.ad (.ref x)), none, none] (σ.set 2 (some (.ref x))) := (s.tp t13).set 2 (r := .ad (.ref x)) rfl
  refine hrest H'' x lh lf h' f' st2 ha _ H'' D e0 sl2 (fun F' δ' M' σ' H3 z _ _ _ => z.elim) (fun r F' M' v H3 hr e3 hv => ?_)
  obtain ⟨rfl, y, rfl, hp⟩ := hr
  have sm4 : Same H1 H3 := Same.trans sm3 (same_end e0 (e3.weak (List.nil_sublist _)))
  refine rt _ Tr [] v H3 (.inl ⟨y, rfl, hp⟩) ⟨fun b o z nb => sm4 b o (e.st b o z nb), fun b hb => hb.elim, fun _ _ => trivial, fun p hp => (nomatch hp), List.nodup_nil, fun p hp => (nomatch hp)⟩ hv
def lowered (n : Net) (h : List Int) : List Int := (List.range n.names.length).map fun v => h.getD v 0 - h.getD 0 0
theorem lowered_get {n : Net} {h : List Int} {v : Nat} (hv : v < n.names.length) : (lowered n h).getD v 0 = h.getD v 0 - h.getD 0 0 := by
  unfold lowered
  rw [List.getD_eq_getElem?_getD, List.getElem?_map, List.getElem?_range hv]; rfl
theorem Adj.best {n : Net} (ok : n.ok) {h f : List Int} (a : Adj n h f) : Best n (lowered n h) f := by
  have hm : ∀ i, i < n.rs.length → n.miss (lowered n h) i = n.miss h i := fun i hi => by
    unfold Net.miss missR
    rw [lowered_get (ok.ai hi), lowered_get (ok.bi hi)]
    omega
  refine ⟨by unfold lowered; simp, a.fl, fun x hx => ?_, fun i hi hl => by rw [hm i hi]; exact a.sl.up i hi hl, fun i hi hl => by rw [hm i hi]; exact a.sl.dn i hi hl, a.ev, by rw [lowered_get ok.n1]; omega⟩
  obtain ⟨i, hi⟩ := List.getElem?_of_mem hx
  have hil := (List.getElem?_eq_some_iff.mp hi).1
  have := a.fb i (by rw [← a.fl]; exact hil)
  unfold fn at this
  rw [List.getD_eq_getElem?_getD, hi] at this
  exact this
def pre_adjusted (as : List AV) (post : BV → Prop) : Prop := ∃ (n : Net), as = [.im (netD n), .im (onesD n)] ∧ n.ok ∧ ∀ h f, Best n h f → post (.im (.tup [.tup (h.map Dt.int), .tup (f.map Dt.int)]))
theorem has_adjusted (D : Df K mg "adjusted" s_adjusted P_adjusted) (T : Tx mg) (ks : KS K C) (mgS : mg "Search" = some (.ref C)) (G_S_init : HasI P w K mg base 3 C P_S_init (spI K C)) (G_S_run : HasM P w K mg base 6 C "run" P_S_run (spW K C pre_S_run)) : Has P w K mg base 12 "adjusted" P_adjusted (spP K pre_adjusted) := by
  obtain ⟨f, fd, F, hm, hb⟩ := D
  refine has_of (k := 11) F hm sc_adjusted hb (by intro as post h; unfold pre_adjusted at h; repeat (first | (obtain ⟨e, _⟩ := h; rw [e]; rfl) | (obtain ⟨_, h⟩ := h))) fun cdv A outer s H E hr => ?_
  refine ⟨_, (pss_cons (ps_set (i := 2) sc_adjusted.nd rfl (Or.inr rfl) (HasI.pe G_S_init (hr.mono (by omega)) (by rfl) mgS (pa_cons (pv 0) (pa_cons (pv 1) pa_nil))))
      (pss_cons (ps_expr (HasM.pe0 G_S_run ks.c (hr.mono (by omega)) (pv 2)))
      (pss_cons (ps_set (i := 3) sc_adjusted.nd rfl (Or.inl rfl) (pe_callTy (kTup (K := K) rfl) (by rfl) T.tuple_ bb_tuple (pa_cons (pe_lc (own := [("height", 4)]) rfl sc_adjusted.nd (kiList (K := K) rfl (kFld (K := K) rfl (pv 2) rfl)) (blkOk_by (own := [("height", 4)]) (N := N_adjusted) (sc := defScope s_adjusted) (by decide +kernel)) (fun _ _ _ _ _ => (pg_name (i := 4) sc_adjusted.nd rfl (Or.inl rfl) (Or.inr rfl))) (fun _ _ _ _ _ => pts_nil) (fun _ _ _ _ _ => (pe_op op_subI (pv 4) (pe_ix (kIx (K := K) rfl) (kFld (K := K) rfl (pv 2) rfl) pe_int (fun _ _ => rfl))))) pa_nil)))
      (pss_one (ps_ret (pe_tup (pa_cons (pv 3) (pa_cons (pe_callTy (kTup (K := K) rfl) (by rfl) T.tuple_ bb_tuple (pa_cons (kFld (K := K) rfl (pv 2) rfl) pa_nil)) pa_nil)))))))), ?_⟩
  rintro as post g ⟨n, rfl, ok, hpost⟩
  have hN2 := ok.n2
  have hN1 := ok.n1
  walk_at "init"
  refine ws_search ok fun H2 x lh lf h f st ha => ?_
  have me : Me (cS K H2 lh lf []) C x n lh lf := me_start ks st
  have hhl := ha.hl
  walk_at "gj"
  refine we_lcpF (fun _ => true) (fun v => .int (h.getD v 0 - h.getD 0 0)) (wi_list ?_)
  walk_at "gj"
  refine ⟨lh, _, rfl, lkH, by rw [List.length_map]; omega, lkH, fun v r hv ⟨d, hd, hr⟩ => ?_, fun a hl => ?_⟩
  · have hv' : v < h.length := by rw [List.length_map] at hv; exact hv
    rw [List.getElem?_map, List.getElem?_eq_getElem hv'] at hd
    cases hd
    subst hr
    have e : h.getD v 0 = h[v] := by rw [List.getD_eq_getElem?_getD, List.getElem?_eq_getElem hv']; rfl
    have i0 := at_int (h := h) (i := 0) (by omega)
    have i0' : atI (h.map Dt.int) 0 = some (.int (h.getD 0 0)) := i0
    refine ⟨_, gn_name, wt_yes ⟨rfl, rfl, .refl _, fun _ => ?_⟩⟩
    rw [e]
    walk_at "gj"
    exact ⟨rfl, rfl, .refl _⟩
  walk_at "gj"
  rw [ixs_all, List.length_map, hhl]
  have eL : (List.range n.names.length).map (fun v => Dt.int (h.getD v 0 - h.getD 0 0)) = (lowered n h).map Dt.int := by unfold lowered; rw [List.map_map]; rfl
  rw [eL]
  refine ⟨rfl, _, rfl, hpost _ _ (ha.best ok)⟩
theorem has_best_paper (D : Df K mg "best_paper" s_best_paper P_best_paper) (T : Tx mg) (G_adjusted : Has P w K mg base 12 "adjusted" P_adjusted (spP K pre_adjusted)) : Has P w K mg base 13 "best_paper" P_best_paper (spP K pre_best_paper) := by
  obtain ⟨f, fd, F, hm, hb⟩ := D
  refine has_of (k := 12) F hm sc_best_paper hb (by intro as post h; unfold pre_best_paper at h; repeat (first | (obtain ⟨e, _⟩ := h; rw [e]; rfl) | (obtain ⟨_, h⟩ := h))) fun cdv A outer s H E hr => ?_
  refine ⟨_, (pss_one (ps_ret (pe_op (kAdd (K := K) rfl) (pe_tup (pa_cons pe_str pa_nil)) (G_adjusted.pe (hr.mono (by omega)) (by rfl) (pa_cons (pv 0) (pa_cons (pe_op (kMul (K := K) rfl) (pe_tup (pa_cons pe_int pa_nil)) (pe_callB (kLen (K := K) rfl) (by rfl) T.len_ bb_len (pa_cons (pe_ix (kIx (K := K) rfl) (pv 0) pe_int (fun _ _ => rfl)) pa_nil))) pa_nil)))))), ?_⟩
  rintro as post g ⟨n, rfl, ok, hpost⟩
  have hm2 := ok.m2
  walk_at "init"
  walk_at "gj"
  rw [List.length_map]
  refine rr_rep1t (n := n.rs.length) rfl (by omega) ?_
  have e1 : List.replicate n.rs.length (Dt.int 1) = (List.replicate n.rs.length (1 : Int)).map Dt.int := by rw [List.map_replicate]
  rw [e1]
  walk_at "gj"
  refine ⟨_, .cons (.im _) (.cons (.im _) .nil), n, rfl, ok, fun h f hb => ?_⟩
  refine rr_addt (by simp) ?_
  exact .inl ⟨_, rfl, hpost h f hb⟩
end
end TL

set_option Elab.async false
set_option linter.all false
set_option autoImplicit false
set_option maxRecDepth 100000
set_option maxHeartbeats 4000000
namespace TL
open PySem PySem.Spec PyProof.Rows L2
local macro_rules | `(tactic| walk_at "lk") => `(tactic| first | assumption | exact lk0 | exact lk1 | exact lk2 | exact lk3 | exact lk4 | exact lr0 | exact lr1 | exact lkH | exact lkF)
/-! one step of the walk: by the reading's head; all else is left -/
local macro_rules | `(tactic| walk_at "s0") => `(tactic| first
  | with_reducible refine ws_seq ?_
  | with_reducible refine ws_pop0 ?_
  | with_reducible refine ws_append ?_
  | with_reducible refine ws_insert ?_
  | with_reducible refine ws_set ?_
  | with_reducible refine ws_drop ?_
  | with_reducible refine ws_ret ?_
  | with_reducible refine ws_asg ?_
  | with_reducible refine ws_next ?_
  | with_reducible refine wg_name ?_
  | with_reducible refine wgs_nameM ?_
  | with_reducible refine wgs_nilM ?_
  | ((with_reducible refine' wg_tup ?h ?k); (case h => exact rfl))
  | with_reducible refine wg_sub ?_
  | with_reducible refine we_andV ?_
  | with_reducible refine we_notV ?_
  | with_reducible refine rc_isi isi_int ?_
  | with_reducible refine rc_isi isi_intb ?_
  | with_reducible refine rc_isi isi_tup ?_
  | with_reducible refine we_orV ?_
  | with_reducible refine we_chain ?_
  | with_reducible refine we_call ?_
  | with_reducible refine rr_eqI ?_
  | ((with_reducible refine' we_var ?h ?k); (case h => exact rfl))
  | with_reducible refine we_int ?_
  | ((with_reducible refine' we_fNv ?m ?h ?k); (case m => assumption); (case h => exact rfl))
  | ((with_reducible refine' we_fWv ?m ?h ?k); (case m => assumption); (case h => exact rfl))
  | ((with_reducible refine' we_fMv ?m ?h ?k); (case m => assumption); (case h => exact rfl))
  | ((with_reducible refine' we_fHv ?m ?h ?k); (case m => assumption); (case h => exact rfl))
  | ((with_reducible refine' we_fFv ?m ?h ?k); (case m => assumption); (case h => exact rfl))
  | with_reducible refine we_str ?_
  | with_reducible refine we_non ?_
  | with_reducible refine we_bl ?_
  | with_reducible refine we_ty ?_
  | with_reducible refine we_op ?_
  | with_reducible refine we_un ?_
  | with_reducible refine we_neg ?_
  | with_reducible refine we_cb ?_
  | with_reducible refine wa_cons ?_
  | with_reducible refine wa_nil ?_
  | with_reducible refine wt_test ?_
  | with_reducible refine wt_B ?_
  | with_reducible refine wt_yes ?_
  | with_reducible refine wt_not ?_
  | with_reducible refine wt_and ?_
  | with_reducible refine wt_or ?_
  | with_reducible refine rr_add ?_
  | with_reducible refine rr_sub ?_
  | with_reducible refine rr_lt ?_
  | with_reducible refine rr_le ?_
  | with_reducible refine rr_gt ?_
  | with_reducible refine rr_ge ?_
  | with_reducible refine rr_isN ?_
  | with_reducible refine rr_eqI ?_
  | with_reducible refine rr_neI ?_
  | with_reducible refine rr_neB ?_
  | with_reducible refine rr_int ?_
  | with_reducible refine rr_notN ?_
  | with_reducible refine rc_abs ?_
  | with_reducible refine rc_inti ?_
  | with_reducible refine rc_intb ?_
  | with_reducible refine rc_lent ?_
  | ((with_reducible refine' rr_ixt ?h ?k); (case h => first | assumption | exact rfl))
  | ((with_reducible refine' rr_ixl ?l ?h ?k); (case l => walk_at "lk"); (case h => first | assumption | exact rfl))
  | ((with_reducible refine' rc_lenl ?l ?k); (case l => walk_at "lk"))
  | with_reducible refine rc_lstt ?_
  | ((with_reducible refine' rc_lstl ?l ?k); (case l => walk_at "lk"))
  | ((with_reducible refine' rc_tupl ?l ?k); (case l => walk_at "lk"))
  | with_reducible refine we_sl ?_
  | with_reducible refine wo_none ?_
  | with_reducible refine wo_some ?_
  | with_reducible refine we_tup ?_
  | with_reducible refine we_lst ?_
  | refine ⟨[], rfl, Nat.le_of_ble_eq_true rfl, ?_⟩
  | refine ⟨[_], rfl, Nat.le_of_ble_eq_true rfl, ?_⟩
  | refine ⟨[_, _], rfl, Nat.le_of_ble_eq_true rfl, ?_⟩
  | refine ⟨[_, _, _], rfl, Nat.le_of_ble_eq_true rfl, ?_⟩
  | refine ⟨[_, _, _, _], rfl, Nat.le_of_ble_eq_true rfl, ?_⟩
  | refine ⟨[_, _, _, _, _], rfl, Nat.le_of_ble_eq_true rfl, ?_⟩
  | refine ⟨_, rfl, ?_⟩)
local macro_rules | `(tactic| walk_at "init") => `(tactic| simp only [δS, cxK, cxK2, entR, entM, List.map_cons, List.map_nil, List.length_cons, List.length_nil, List.replicate, List.cons_append, List.nil_append, Nat.reduceAdd, Nat.reduceSub])
local macro_rules | `(tactic| walk_at "seti0") => `(tactic| (refine' set_ownI (k := 0) ?hk ?hj ?hi ?hn; (case hk => exact rfl); (case hi => exact rfl)))
local macro_rules | `(tactic| walk_at "set0") => `(tactic| (refine' set_own (k := 0) ?hk ?hj ?hi ?hn; (case hk => exact rfl); (case hi => exact rfl)))
local macro_rules | `(tactic| walk_at "seti1") => `(tactic| (refine' set_ownI (k := 1) ?hk ?hj ?hi ?hn; (case hk => exact rfl); (case hi => exact rfl)))
local macro_rules | `(tactic| walk_at "set1") => `(tactic| (refine' set_own (k := 1) ?hk ?hj ?hi ?hn; (case hk => exact rfl); (case hi => exact rfl)))
local macro_rules | `(tactic| walk_at "seti2") => `(tactic| (refine' set_ownI (k := 2) ?hk ?hj ?hi ?hn; (case hk => exact rfl); (case hi => exact rfl)))
local macro_rules | `(tactic| walk_at "set2") => `(tactic| (refine' set_own (k := 2) ?hk ?hj ?hi ?hn; (case hk => exact rfl); (case hi => exact rfl)))
local macro_rules | `(tactic| walk_at "s1") => `(tactic| first | with_reducible refine ws_if ?_ | walk_at "s0")
local macro_rules | `(tactic| walk_at "gj") => `(tactic| repeat walk_at "s0")
local macro_rules | `(tactic| walk_at "go") => `(tactic| repeat walk_at "s1")
section
variable {P : Program} {w : World} {K : PySem.W.Frag} {mg : Str → Option Value} {base : Heap}
def pre_law_cell (as : List AV) (post : BV → Prop) : Prop := ∃ (s : List Int) (k : Nat), as = [.ls (s.map Dt.int), .im (.int (k : Int))] ∧ ∀ x, post (.im (.int x))
theorem has_law_cell (D : Df K mg "_law_cell" s_law_cell P_law_cell) (T : Tx mg) : Has P w K mg base 1 "_law_cell" P_law_cell (spP K pre_law_cell) := by
  obtain ⟨f, fd, F, hm, hb⟩ := D
  refine has_of (k := 0) F hm sc_law_cell hb (by intro as post h; unfold pre_law_cell at h; repeat (first | (obtain ⟨e, _⟩ := h; rw [e]; rfl) | (obtain ⟨_, h⟩ := h))) fun cdv A outer s H E hr => ?_
  refine ⟨_, (pss_cons (ps_if (pt_cmpR op_ltI (pv 1) (pe_callB (kLen (K := K) rfl) (by rfl) T.len_ bb_len (pa_cons (pv 0) pa_nil)) (nomark _)) (pss_one (ps_ret (pe_ix (kIx (K := K) rfl) (pv 0) (pv 1) (fun _ _ => rfl)))) pss_nil)
      (pss_one (ps_ret pe_int))), ?_⟩
  rintro as post g ⟨s, k, rfl, hpost⟩
  walk_at "init"
  walk_at "go"
  rw [List.length_map]
  refine ⟨fun h => ?_, fun h => ?_⟩
  · have i1 := at_int (h := s) (i := k) (by have := of_decide_eq_true h; omega)
    walk_at "go"
    exact .inl ⟨_, rfl, hpost _⟩
  · walk_at "go"
    exact .inl ⟨_, rfl, hpost _⟩
def pre_law_digits (as : List AV) (post : BV → Prop) : Prop := ∃ (s : List Int), as = [.ls (s.map Dt.int), .im (.int 0), .im (.int 63)] ∧ ∀ ds : List Int, post (.ls (ds.map Dt.int))
theorem has_law_digits (D : Df K mg "_law_digits" s_law_digits P_law_digits) (T : Tx mg) (G_law_cell : Has P w K mg base 1 "_law_cell" P_law_cell (spP K pre_law_cell)) : Has P w K mg base 2 "_law_digits" P_law_digits (spP K pre_law_digits) := by
  obtain ⟨f, fd, F, hm, hb⟩ := D
  refine has_of (k := 1) F hm sc_law_digits hb (by intro as post h; unfold pre_law_digits at h; repeat (first | (obtain ⟨e, _⟩ := h; rw [e]; rfl) | (obtain ⟨_, h⟩ := h))) fun cdv A outer s H E hr => ?_
  refine ⟨_, (pss_cons (ps_set (i := 3) sc_law_digits.nd rfl (Or.inl rfl) (pe_lst pa_nil))
      (pss_cons (ps_for PassesOwn.never rfl (pi_range2 (by rfl) T.range_ (pa_cons (pv 1) (pa_cons (pv 2) pa_nil))) (pg_name (i := 4) sc_law_digits.nd rfl (Or.inl rfl) (Or.inl rfl)) (pss_cons (ps_set (i := 5) sc_law_digits.nd rfl (Or.inl rfl) (G_law_cell.pe (hr.mono (by omega)) (by rfl) (pa_cons (pv 0) (pa_cons (pv 4) pa_nil))))
      (pss_cons (ps_if (pt_cmpR op_ltI (pv 5) pe_int (nomark _)) (pss_one (ps_set (i := 5) sc_law_digits.nd rfl (Or.inl rfl) (pe_op op_subI pe_int (pe_op (kMul (K := K) rfl) pe_int (pv 5))))) pss_nil)
      (pss_one (ps_if (pt_cmpR op_geI (pv 5) (pe_op op_powI pe_int pe_int) (nomark _)) (pss_one (ps_for PassesOwn.never rfl (pi_range1 (by rfl) T.range_ (pa_cons pe_int pa_nil)) (pg_name (i := 6) sc_law_digits.nd rfl (Or.inl rfl) (Or.inl rfl)) (pss_one (ps_if (pt_cmpR op_gtI (pv 5) pe_int (nomark _)) (pss_cons (ps_expr (pe_bm PySem.F.plainAttrs_list PySem.F.slot_list_append PySem.F.type_list_append mt_append (pv 3) (pa_cons (pe_op op_modI (pe_callTy call_intQ (by rfl) T.int_ bb_int (pa_cons (pv 5) pa_nil)) pe_int) pa_nil)))
      (pss_one (ps_set (i := 5) sc_law_digits.nd rfl (Or.inl rfl) (pe_op op_divI (pv 5) pe_int)))) pss_nil)))) (pss_cons (ps_set (i := 7) sc_law_digits.nd rfl (Or.inl rfl) (pe_op op_modI (pe_callTy call_intQ (by rfl) T.int_ bb_int (pa_cons (pe_op (kAdd (K := K) rfl) (pe_op (kAdd (K := K) rfl) (pe_op (kMul (K := K) rfl) (pv 5) pe_int) (pe_op (kMul (K := K) rfl) (pv 4) pe_int)) pe_int) pa_nil)) pe_int))
      (pss_one (ps_for PassesOwn.never rfl (pi_range1 (by rfl) T.range_ (pa_cons pe_int pa_nil)) (pg_name (i := 6) sc_law_digits.nd rfl (Or.inl rfl) (Or.inl rfl)) (pss_cons (ps_set (i := 7) sc_law_digits.nd rfl (Or.inl rfl) (pe_op op_modI (pe_callTy call_intQ (by rfl) T.int_ bb_int (pa_cons (pe_op (kAdd (K := K) rfl) (pe_op (kAdd (K := K) rfl) (pe_op (kMul (K := K) rfl) (pv 7) pe_int) (pe_op (kMul (K := K) rfl) pe_int (pv 6))) pe_int) pa_nil)) pe_int))
      (pss_one (ps_expr (pe_bm PySem.F.plainAttrs_list PySem.F.slot_list_append PySem.F.type_list_append mt_append (pv 3) (pa_cons (pe_op op_modI (pe_callTy call_intQ (by rfl) T.int_ bb_int (pa_cons (pe_op op_divI (pv 7) pe_int) pa_nil)) pe_int) pa_nil)))))))))))))
      (pss_one (ps_ret (pv 3))))), ?_⟩
  rintro as post g ⟨s, rfl, hpost⟩
  walk_at "init"
  walk_at "go"
  intro a
  walk_at "go"
  refine ws_for (wi_rng2 ?_)
  walk_at "go"
  refine ⟨0, 63, rfl, rfl, by omega, by omega, by omega, ?_⟩
  refine ⟨fun i F' δ' M' => ∃ (ds : List Int), ∃ r4 r5 r6 r7, δ' = [some (.ad (.ref (g 0))), some (.im (.int 0)), some (.im (.int 63)), some (.ad (.ref a)), r4, r5, r6, r7] ∧ M' = [(a, ds.map Dt.int)] ∧ ds.length ≤ 60 * i, ⟨[], _, _, _, _, rfl, rfl, by simp⟩, fun _ _ _ _ _ _ => trivial, ?_, ?_⟩
  · rintro i x F' δ' M' hi rfl ⟨ds, r4, r5, r6, r7, rfl, rfl, hl⟩
    walk_at "gj"
    refine ⟨_, .cons (.ls lr0) (.cons (.im _) .nil), s, i, by rw [Int.zero_add], fun x => ?_⟩
    walk_at "gj"
    refine Ws.mono (N := fun F' δ' M' => ∃ y : Int, δ' = [some (.ad (.ref (g 0))), some (.im (.int 0)), some (.im (.int 63)), some (.ad (.ref a)), some (.im (.int (0 + (i : Int)))), some (.im (.int y)), r6, r7] ∧ M' = [(a, ds.map Dt.int)]) ?_ ?_
    · walk_at "go"
      refine ⟨fun _ => ?_, fun _ => ?_⟩
      · walk_at "go"
        refine rr_mul (.inl ⟨by decide, by decide⟩) ?_
        walk_at "go"
        exact rfl
      · walk_at "go"
        exact rfl
    · rintro F' δ' M' ⟨y, rfl, rfl⟩
      walk_at "go"
      refine rr_pow ⟨by decide, by decide, by decide⟩ ?_
      walk_at "go"
      refine ⟨fun _ => ?_, fun _ => ?_⟩
      · refine ws_for (wi_rng1 (we_int ?_))
        refine ⟨60, rfl, by omega, ?_⟩
        refine ⟨fun j F' δ' M' => ∃ (ds : List Int) (y : Int), ∃ r6, δ' = [some (.ad (.ref (g 0))), some (.im (.int 0)), some (.im (.int 63)), some (.ad (.ref a)), some (.im (.int (0 + (i : Int)))), some (.im (.int y)), r6, r7] ∧ M' = [(a, ds.map Dt.int)] ∧ ds.length ≤ 60 * i + j, ⟨ds, y, _, rfl, rfl, hl⟩, fun _ _ _ _ _ _ => trivial, ?_, ?_⟩
        · rintro j x F' δ' M' hj rfl ⟨ds, y, r6, rfl, rfl, hl⟩
          walk_at "go"
          refine ⟨fun _ => ?_, fun _ => (by walk_at "go"; exact ⟨_, _, _, rfl, rfl, by omega⟩)⟩
          walk_at "go"
          refine ⟨_, _, rfl, lk0, ?_⟩
          walk_at "go"
          refine rr_mod (by decide) ?_
          refine app_ownI (k := 0) rfl (by omega) ?_
          walk_at "go"
          refine rr_div ⟨by decide, by decide⟩ ?_
          exact ⟨_, _, _, rfl, rfl, by rw [List.length_append]; simp; omega⟩
        · rintro F' δ' M' ⟨ds, y, r6, rfl, rfl, hl⟩
          exact ⟨_, _, _, _, _, rfl, rfl, by omega⟩
      · walk_at "go"
        refine rr_mul (.inr ⟨by decide, by decide⟩) ?_
        walk_at "go"
        refine rr_mul (.inr ⟨by decide, by decide⟩) ?_
        walk_at "go"
        refine rr_mod (by decide) ?_
        walk_at "go"
        refine ws_for (wi_rng1 (we_int ?_))
        refine ⟨12, rfl, by omega, ?_⟩
        refine ⟨fun j F' δ' M' => ∃ (ds : List Int) (z : Int), ∃ r6, δ' = [some (.ad (.ref (g 0))), some (.im (.int 0)), some (.im (.int 63)), some (.ad (.ref a)), some (.im (.int (0 + (i : Int)))), some (.im (.int y)), r6, some (.im (.int z))] ∧ M' = [(a, ds.map Dt.int)] ∧ ds.length ≤ 60 * i + j, ⟨ds, _, _, rfl, rfl, hl⟩, fun _ _ _ _ _ _ => trivial, ?_, ?_⟩
        · rintro j x F' δ' M' hj rfl ⟨ds, z, r6, rfl, rfl, hl⟩
          walk_at "go"
          refine rr_mul (.inr ⟨by decide, by decide⟩) ?_
          walk_at "go"
          refine rr_mul (.inl ⟨by decide, by decide⟩) ?_
          walk_at "go"
          refine rr_mod (by decide) ?_
          walk_at "go"
          refine ⟨_, _, rfl, lk0, ?_⟩
          walk_at "go"
          refine rr_div ⟨by decide, by decide⟩ ?_
          walk_at "go"
          refine rr_mod (by decide) ?_
          refine app_ownI (k := 0) rfl (by omega) ?_
          exact ⟨_, _, _, rfl, rfl, by rw [List.length_append]; simp; omega⟩
        · rintro F' δ' M' ⟨ds, z, r6, rfl, rfl, hl⟩
          exact ⟨_, _, _, _, _, rfl, rfl, by omega⟩
  · rintro F' δ' M' ⟨ds, r4, r5, r6, r7, rfl, rfl, hl⟩
    walk_at "go"
    exact .inr ⟨_, _, rfl, List.mem_cons_self, hpost ds⟩
def pre_law_names (as : List AV) (post : BV → Prop) : Prop := ∃ (n : Nat), as = [.im (.int (n : Int))] ∧ n ≤ 16 ∧ post (.im (.tup ((namesN n).map Dt.str)))
theorem has_law_names (D : Df K mg "_law_names" s_law_names P_law_names) (T : Tx mg) : Has P w K mg base 1 "_law_names" P_law_names (spP K pre_law_names) := by
  obtain ⟨f, fd, F, hm, hb⟩ := D
  refine has_of (k := 0) F hm sc_law_names hb (by intro as post h; unfold pre_law_names at h; repeat (first | (obtain ⟨e, _⟩ := h; rw [e]; rfl) | (obtain ⟨_, h⟩ := h))) fun cdv A outer s H E hr => ?_
  refine ⟨_, (pss_one (ps_ret (pe_callTy (kTup (K := K) rfl) (by rfl) T.tuple_ bb_tuple (pa_cons (pe_lc (own := [("_law_k", 1)]) rfl sc_law_names.nd (pi_range1 (by rfl) T.range_ (pa_cons (pv 0) pa_nil)) (blkOk_by (own := [("_law_k", 1)]) (N := N_law_names) (sc := defScope s_law_names) (by decide +kernel)) (fun _ _ _ _ _ => (pg_name (i := 1) sc_law_names.nd rfl (Or.inl rfl) (Or.inr rfl))) (fun _ _ _ _ _ => pts_nil) (fun _ _ _ _ _ => (pe_op (kAdd (K := K) rfl) pe_str (pe_ix (kIx (K := K) rfl) pe_str (pv 1) (fun _ _ => rfl))))) pa_nil)))), ?_⟩
  rintro as post g ⟨n, rfl, hn, hpost⟩
  walk_at "init"
  walk_at "gj"
  refine we_lcp (fun _ => true) (fun k => .str (nameS k)) (wi_rng1 ?_)
  walk_at "gj"
  refine ⟨by omega, by omega, fun _ => trivial, fun j r F' hj hr => ?_, fun b F' hl => ?_⟩
  · subst hr
    refine ⟨_, gn_name, wt_yes ⟨rfl, .refl _, fun _ => ?_⟩⟩
    walk_at "gj"
    refine rr_ixs (by decide) (alpha_at j (by omega)) ?_
    refine rr_adds (by show 1 + 1 ≤ 100000; decide) ?_
    exact ⟨rfl, .refl _⟩
  · walk_at "gj"
    rw [ixs_all]
    refine .inl ⟨_, rfl, ?_⟩
    unfold namesN at hpost
    rw [List.map_map] at hpost
    exact hpost
def pre_law_kept_net (as : List AV) (post : BV → Prop) : Prop := ∃ (ps : List (Nat × Nat)) (h : List Int), as = [.ls (ps.map prD), .im (.tup (h.map Dt.int))] ∧ h.length ≤ 16 ∧ PsOk h.length ps ∧ post (.im (netD (keptNet ps h)))
theorem has_law_kept_net (D : Df K mg "_law_kept_net" s_law_kept_net P_law_kept_net) (T : Tx mg) (G_law_names : Has P w K mg base 1 "_law_names" P_law_names (spP K pre_law_names)) : Has P w K mg base 2 "_law_kept_net" P_law_kept_net (spP K pre_law_kept_net) := by
  obtain ⟨f, fd, F, hm, hb⟩ := D
  refine has_of (k := 1) F hm sc_law_kept_net hb (by intro as post h; unfold pre_law_kept_net at h; repeat (first | (obtain ⟨e, _⟩ := h; rw [e]; rfl) | (obtain ⟨_, h⟩ := h))) fun cdv A outer s H E hr => ?_
  refine ⟨_, (pss_cons (ps_set (i := 2) sc_law_kept_net.nd rfl (Or.inl rfl) (pe_callTy (kTup (K := K) rfl) (by rfl) T.tuple_ bb_tuple (pa_cons (pe_lc (own := [("_law_a", 3), ("_law_b", 4)]) rfl sc_law_kept_net.nd (kiList (K := K) rfl (pv 0)) (blkOk_by (own := [("_law_a", 3), ("_law_b", 4)]) (N := N_law_kept_net) (sc := defScope s_law_kept_net) (by decide +kernel)) (fun _ _ _ _ _ => (kgTup (K := K) (n := 2) rfl rfl (pgs_cons (pg_name (i := 3) sc_law_kept_net.nd rfl (Or.inl rfl) (Or.inr rfl)) (pgs_cons (pg_name (i := 4) sc_law_kept_net.nd rfl (Or.inl rfl) (Or.inr rfl)) pgs_nil)))) (fun _ _ _ _ _ => pts_nil) (fun _ _ _ _ _ => (pe_tup (pa_cons (pv 3) (pa_cons (pv 4) (pa_cons (pe_op op_subI (pe_ix (kIx (K := K) rfl) (pv 1) (pv 4) (fun _ _ => rfl)) (pe_ix (kIx (K := K) rfl) (pv 1) (pv 3) (fun _ _ => rfl))) pa_nil)))))) pa_nil)))
      (pss_one (ps_ret (pe_tup (pa_cons pe_str (pa_cons (G_law_names.pe (hr.mono (by omega)) (by rfl) (pa_cons (pe_callB (kLen (K := K) rfl) (by rfl) T.len_ bb_len (pa_cons (pv 1) pa_nil)) pa_nil)) (pa_cons (pv 2) pa_nil))))))), ?_⟩
  rintro as post g ⟨ps, h, rfl, hl, hp, hpost⟩
  have hpl := hp.len
  walk_at "init"
  walk_at "gj"
  refine we_lcp (fun _ => true) (fun i => rdD ((keptNet ps h).rd i)) (wi_list ?_)
  walk_at "gj"
  refine ⟨_, _, rfl, lr0, ?_⟩
  rw [List.length_map]
  refine ⟨by omega, fun _ => lr0, fun j r F' hj ⟨d, hd, hr⟩ => ?_, fun b F' hl2 => ?_⟩
  · rw [List.getElem?_map, List.getElem?_eq_getElem hj] at hd
    cases hd
    subst hr
    have hm := List.getElem_mem hj
    have i1 := at_int (h := h) (hp.a _ hm)
    have i2 := at_int (h := h) (hp.b _ hm)
    refine ⟨_, gn_tup rfl (gns_cons (gns_cons gns_nil)), wt_yes ⟨rfl, .refl _, fun _ => ?_⟩⟩
    walk_at "gj"
    refine ⟨?_, .refl _⟩
    have e : (keptNet ps h).rd j = ⟨(ps[j]).1, (ps[j]).2, h.getD (ps[j]).2 0 - h.getD (ps[j]).1 0⟩ := by
      unfold Net.rd keptNet
      rw [List.getD_eq_getElem?_getD, List.getElem?_map, List.getElem?_eq_getElem hj]; rfl
    rw [e]
  · walk_at "gj"
    rw [List.length_map]
    refine ⟨_, .cons (.im _) .nil, h.length, rfl, hl, ?_⟩
    walk_at "gj"
    refine .inl ⟨_, rfl, ?_⟩
    have e : (ixs ps.length fun _ => true).map (fun i => rdD ((keptNet ps h).rd i)) = (keptNet ps h).rs.map rdD := by
      rw [ixs_all]
      have h1 := range_getD (keptNet ps h).rs ⟨0, 0, 0⟩ rdD
      rw [show (keptNet ps h).rs.length = ps.length by show (ps.map _).length = _; rw [List.length_map]] at h1
      exact h1
    rw [e]
    exact hpost
def pre_law_changed (as : List AV) (post : BV → Prop) : Prop := ∃ (n : Net) (rows : List (Nat × Int)), as = [.im (netD n), .ls (rows.map fun p => .tup [.int (p.1 : Int), .int p.2])] ∧ n.ok ∧ (∀ p ∈ rows, p.1 < n.rs.length) ∧ ∀ n', Chg n n' (rows.map (·.1)) → post (.im (netD n'))
theorem has_law_changed (D : Df K mg "_law_changed" s_law_changed P_law_changed) (T : Tx mg) : Has P w K mg base 1 "_law_changed" P_law_changed (spP K pre_law_changed) := by
  obtain ⟨f, fd, F, hm, hb⟩ := D
  refine has_of (k := 0) F hm sc_law_changed hb (by intro as post h; unfold pre_law_changed at h; repeat (first | (obtain ⟨e, _⟩ := h; rw [e]; rfl) | (obtain ⟨_, h⟩ := h))) fun cdv A outer s H E hr => ?_
  refine ⟨_, (pss_cons (ps_set (i := 2) sc_law_changed.nd rfl (Or.inl rfl) (pe_callTy (kLst (K := K) rfl) (by rfl) T.list_ bb_list (pa_cons (pe_ix (kIx (K := K) rfl) (pv 0) pe_int (fun _ _ => rfl)) pa_nil)))
      (pss_cons (ps_for PassesOwn.never rfl (kiList (K := K) rfl (pv 1)) (kgTup (K := K) (n := 2) rfl rfl (pgs_cons (pg_name (i := 3) sc_law_changed.nd rfl (Or.inl rfl) (Or.inl rfl)) (pgs_cons (pg_name (i := 4) sc_law_changed.nd rfl (Or.inl rfl) (Or.inl rfl)) pgs_nil))) (pss_cons (ps_asg (pe_ix (kIx (K := K) rfl) (pv 2) (pv 3) (fun _ _ => rfl)) (kgTup (K := K) (n := 3) rfl rfl (pgs_cons (pg_name (i := 5) sc_law_changed.nd rfl (Or.inl rfl) (Or.inl rfl)) (pgs_cons (pg_name (i := 6) sc_law_changed.nd rfl (Or.inl rfl) (Or.inl rfl)) (pgs_cons (pg_name (i := 7) sc_law_changed.nd rfl (Or.inl rfl) (Or.inl rfl)) pgs_nil)))))
      (pss_one (ps_asg (pe_tup (pa_cons (pv 5) (pa_cons (pv 6) (pa_cons (pe_op (kAdd (K := K) rfl) (pv 7) (pv 4)) pa_nil)))) (pg_sub (pv 2) (pv 3) set_list)))))
      (pss_one (ps_ret (pe_tup (pa_cons pe_str (pa_cons (pe_ix (kIx (K := K) rfl) (pv 0) pe_int (fun _ _ => rfl)) (pa_cons (pe_callTy (kTup (K := K) rfl) (by rfl) T.tuple_ bb_tuple (pa_cons (pv 2) pa_nil)) pa_nil)))))))), ?_⟩
  rintro as post g ⟨n, rows, rfl, ok, hlt, hpost⟩
  walk_at "init"
  walk_at "gj"
  intro a
  walk_at "gj"
  refine ws_for (wi_list ?_)
  walk_at "gj"
  refine ⟨_, _, rfl, lr0, ?_⟩
  rw [List.length_map]
  refine ⟨fun i F' δ' M' => ∃ (l : List Rd), ∃ r3 r4 r5 r6 r7, δ' = [some (.im (netD n)), some (.ad (.ref (g 1))), some (.ad (.ref a)), r3, r4, r5, r6, r7] ∧ M' = [(a, l.map rdD)] ∧ ChgL n.rs l ((rows.take i).map (·.1)), ⟨n.rs, _, _, _, _, _, rfl, rfl, .refl⟩, fun _ _ _ _ _ _ => lr0, ?_, ?_⟩
  · rintro i x F' δ' M' hi ⟨d, hd, rfl⟩ ⟨l, r3, r4, r5, r6, r7, rfl, rfl, hc⟩
    rw [List.getElem?_map, List.getElem?_eq_getElem hi] at hd
    cases hd
    have hp := hlt _ (List.getElem_mem hi)
    have hpl : (rows[i]).1 < l.length := by rw [hc.ln]; exact hp
    have i1 : atI (l.map rdD) ((rows[i]).1 : Int) = some (rdD (l.getD (rows[i]).1 ⟨0, 0, 0⟩)) := by
      refine L2.atI_nat ?_
      rw [List.getElem?_map, List.getElem?_eq_getElem hpl, List.getD_eq_getElem?_getD, List.getElem?_eq_getElem hpl]; rfl
    walk_at "gj"
    refine set_own (k := 0) rfl (by rw [List.length_map]; exact hpl) rfl ?_
    refine ⟨chgStep l rows[i], _, _, _, _, _, rfl, ?_, ?_⟩
    · unfold chgStep
      rw [List.map_set]
      rfl
    · rw [List.take_add_one, List.getElem?_eq_getElem hi, List.map_append]
      exact hc.step hp
  · rintro F' δ' M' ⟨l, r3, r4, r5, r6, r7, rfl, rfl, hc⟩
    rw [List.take_length] at hc
    walk_at "gj"
    exact .inl ⟨_, rfl, hpost ⟨n.names, l⟩ ⟨rfl, hc.ln, hc.ea, hc.eb, hc.ev⟩⟩
def pre_law_sides (as : List AV) (post : BV → Prop) : Prop := ∃ (m : Nat), as = [.im (.int ((m + 1 : Nat) : Int))] ∧ m ≤ 5 ∧ post (.ls ((sdL m).map fun l => .tup (natD l)))
theorem has_law_sides (D : Df K mg "_law_sides" s_law_sides P_law_sides) (T : Tx mg) : Has P w K mg base 1 "_law_sides" P_law_sides (spP K pre_law_sides) := by
  obtain ⟨f, fd, F, hm, hb⟩ := D
  refine has_of (k := 0) F hm sc_law_sides hb (by intro as post h; unfold pre_law_sides at h; repeat (first | (obtain ⟨e, _⟩ := h; rw [e]; rfl) | (obtain ⟨_, h⟩ := h))) fun cdv A outer s H E hr => ?_
  refine ⟨_, (pss_cons (ps_set (i := 1) sc_law_sides.nd rfl (Or.inl rfl) (pe_lst (pa_cons (pe_tup pa_nil) pa_nil)))
      (pss_cons (ps_for PassesOwn.never rfl (pi_range2 (by rfl) T.range_ (pa_cons pe_int (pa_cons (pv 0) pa_nil))) (pg_name (i := 2) sc_law_sides.nd rfl (Or.inr rfl) (Or.inl rfl)) (pss_one (ps_set (i := 1) sc_law_sides.nd rfl (Or.inl rfl) (pe_op (kAdd (K := K) rfl) (pv 1) (pe_lc (own := [("_law_side", 3)]) rfl sc_law_sides.nd (kiList (K := K) rfl (pv 1)) (blkOk_by (own := [("_law_side", 3)]) (N := N_law_sides) (sc := defScope s_law_sides) (by decide +kernel)) (fun _ _ _ _ _ => (pg_name (i := 3) sc_law_sides.nd rfl (Or.inl rfl) (Or.inr rfl))) (fun _ _ _ _ _ => pts_nil) (fun _ _ _ _ _ => (pe_op (kAdd (K := K) rfl) (pv 3) (pe_tup (pa_cons (pv 2) pa_nil)))))))))
      (pss_one (ps_ret (pe_lc (own := [("_law_side", 3)]) rfl sc_law_sides.nd (kiList (K := K) rfl (pv 1)) (blkOk_by (own := [("_law_side", 3)]) (N := N_law_sides) (sc := defScope s_law_sides) (by decide +kernel)) (fun _ _ _ _ _ => (pg_name (i := 3) sc_law_sides.nd rfl (Or.inl rfl) (Or.inr rfl))) (fun _ _ _ _ _ => (pts_one (pt_cmpR (kNe (K := K) rfl hr.units) (pv 3) (pe_tup pa_nil) (nomark _)))) (fun _ _ _ _ _ => (pv 3))))))), ?_⟩
  rintro as post g ⟨m, rfl, hm5, hpost⟩
  walk_at "init"
  walk_at "gj"
  intro a
  walk_at "gj"
  refine ws_forW (wi_rng2 ?_)
  walk_at "gj"
  refine ⟨1, m, rfl, by congr 2; omega, by omega, by omega, by omega, ?_⟩
  refine ⟨fun i F' δ' M' => ∃ q r2 r3, δ' = [some (.im (.int ((m + 1 : Nat) : Int))), some (.ad (.ref q)), r2, r3] ∧ M' = [(q, (sdN i).map fun l => .tup (natD l))], ⟨_, .refl _, a, _, _, rfl, rfl⟩, fun _ _ _ _ _ _ _ _ => trivial, ?_, ?_⟩
  · rintro i x F' δ' M' hi rfl ⟨q, r2, r3, rfl, rfl⟩
    have hln : (sdN i).length ≤ 32 := by
      rw [sdN_len]
      exact Nat.le_trans (Nat.pow_le_pow_right (by decide) (show i ≤ 5 by omega)) (by decide)
    walk_at "gj"
    refine we_lcp (fun _ => true) (fun j => .tup (natD ((sdN i).getD j [] ++ [i + 1]))) (wi_list ?_)
    walk_at "gj"
    refine ⟨_, _, rfl, lk0, ?_⟩
    rw [List.length_map]
    refine ⟨by omega, fun _ => lk0, fun j r F' hj ⟨d, hd, hr⟩ => ?_, fun b F' hl => ?_⟩
    · rw [List.getElem?_map, List.getElem?_eq_getElem hj] at hd
      cases hd
      subst hr
      have hle : ((sdN i)[j]).length ≤ i + 1 := by
        obtain ⟨p, _, e⟩ := mem_sd.mp (List.getElem_mem hj)
        rw [e]; exact ixs_len _ _
      refine ⟨_, gn_name, wt_yes ⟨rfl, .refl _, fun _ => ?_⟩⟩
      walk_at "gj"
      refine rr_addt (by rw [natD_len]; simp; omega) ?_
      refine ⟨?_, .refl _⟩
      rw [List.getD_eq_getElem?_getD, List.getElem?_eq_getElem hj]
      show RV.im (.tup (natD _ ++ [.int (1 + (i : Int))])) = _
      unfold natD
      rw [List.map_append, show (1 + (i : Int)) = ((i + 1 : Nat) : Int) by omega]
      rfl
    · have e : (ixs (sdN i).length fun _ => true).map (fun j => Dt.tup (natD ((sdN i).getD j [] ++ [i + 1]))) = ((sdN i).map (· ++ [i + 1])).map fun l => Dt.tup (natD l) := by
        rw [ixs_all, List.map_map]
        exact range_getD (sdN i) [] fun l => Dt.tup (natD (l ++ [i + 1]))
      rw [e]
      refine rr_addl (List.mem_cons_of_mem _ List.mem_cons_self) List.mem_cons_self (by simp; omega) fun c => ?_
      refine ⟨[(c, _)], .cons₂ _ (List.nil_sublist _), c, _, _, rfl, ?_⟩
      rw [sdN, List.map_append]
  · rintro F' δ' M' M3 hs ⟨q, r2, r3, rfl, rfl⟩
    have hln : (sdN m).length ≤ 32 := by
      rw [sdN_len]
      exact Nat.le_trans (Nat.pow_le_pow_right (by decide) hm5) (by decide)
    refine ws_weak hs ?_
    walk_at "gj"
    refine we_lcp (fun j => decide ((sdN m).getD j [] ≠ [])) (fun j => .tup (natD ((sdN m).getD j []))) (wi_list ?_)
    walk_at "gj"
    refine ⟨_, _, rfl, lk0, ?_⟩
    rw [List.length_map]
    refine ⟨by omega, fun _ => lk0, fun j r F' hj ⟨d, hd, hr⟩ => ?_, fun b F' hl => ?_⟩
    · rw [List.getElem?_map, List.getElem?_eq_getElem hj] at hd
      cases hd
      subst hr
      rw [List.getD_eq_getElem?_getD, List.getElem?_eq_getElem hj]
      refine ⟨_, gn_name, ?_⟩
      walk_at "gj"
      refine rr_neO ok_natT (ok_tup (fun x h => by cases h) fun x h => by cases h) (fun e => ?_) (fun e => ?_)
      · have e' : (sdN m)[j] = [] := by
          have : natD ((sdN m)[j]) = [] := by injection e
          exact natD_inj this
        refine ⟨_, rfl, ?_, .refl _, fun h => ?_⟩
        · simp [e']
        · walk_at "gj"
          exact ⟨rfl, .refl _⟩
      · have e' : (sdN m)[j] ≠ [] := fun q => e (by rw [q]; rfl)
        refine ⟨_, rfl, ?_, .refl _, fun h => ?_⟩
        · simp [e']
        · walk_at "gj"
          exact ⟨rfl, .refl _⟩
    · have e : (ixs (sdN m).length fun j => decide ((sdN m).getD j [] ≠ [])).map (fun j => Dt.tup (natD ((sdN m).getD j []))) = (sdL m).map fun l => Dt.tup (natD l) := by
        unfold sdL ixs
        rw [show (fun j => Dt.tup (natD ((sdN m).getD j []))) = (fun l => Dt.tup (natD l)) ∘ (fun j => (sdN m).getD j []) from rfl, ← List.map_map]
        congr 1
        rw [show (fun j => decide ((sdN m).getD j [] ≠ [])) = (fun l : List Nat => decide (l ≠ [])) ∘ (fun j => (sdN m).getD j []) from rfl, ← List.filter_map]
        congr 1
        refine List.ext_getElem? fun j => ?_
        rw [List.getElem?_map]
        by_cases hj : j < (sdN m).length
        · rw [List.getElem?_range hj, List.getElem?_eq_getElem hj]
          show some ((sdN m).getD j []) = _
          rw [List.getD_eq_getElem?_getD, List.getElem?_eq_getElem hj]; rfl
        · rw [List.getElem?_eq_none (by simp; omega), List.getElem?_eq_none (by omega)]; rfl
      rw [e]
      walk_at "gj"
      exact .inr ⟨_, _, rfl, List.mem_cons_self, hpost⟩
end
end TL

set_option Elab.async false
set_option linter.all false
set_option autoImplicit false
set_option maxRecDepth 100000
set_option maxHeartbeats 4000000
namespace TL
open PySem PySem.Spec PyProof.Rows L2
local macro_rules | `(tactic| walk_at "lk") => `(tactic| first | assumption | exact lk0 | exact lk1 | exact lk2 | exact lk3 | exact lk4 | exact lr0 | exact lr1 | exact lkH | exact lkF)
/-! one step of the walk: by the reading's head; all else is left -/
local macro_rules | `(tactic| walk_at "s0") => `(tactic| first
  | with_reducible refine ws_seq ?_
  | with_reducible refine ws_pop0 ?_
  | with_reducible refine ws_append ?_
  | with_reducible refine ws_insert ?_
  | with_reducible refine ws_set ?_
  | with_reducible refine ws_drop ?_
  | with_reducible refine ws_ret ?_
  | with_reducible refine ws_asg ?_
  | with_reducible refine ws_next ?_
  | with_reducible refine wg_name ?_
  | with_reducible refine wgs_nameM ?_
  | with_reducible refine wgs_nilM ?_
  | ((with_reducible refine' wg_tup ?h ?k); (case h => exact rfl))
  | with_reducible refine wg_sub ?_
  | with_reducible refine we_andV ?_
  | with_reducible refine we_notV ?_
  | with_reducible refine rc_isi isi_int ?_
  | with_reducible refine rc_isi isi_intb ?_
  | with_reducible refine rc_isi isi_tup ?_
  | with_reducible refine we_orV ?_
  | with_reducible refine we_chain ?_
  | with_reducible refine we_call ?_
  | with_reducible refine rr_eqI ?_
  | ((with_reducible refine' we_var ?h ?k); (case h => exact rfl))
  | with_reducible refine we_int ?_
  | ((with_reducible refine' we_fNv ?m ?h ?k); (case m => assumption); (case h => exact rfl))
  | ((with_reducible refine' we_fWv ?m ?h ?k); (case m => assumption); (case h => exact rfl))
  | ((with_reducible refine' we_fMv ?m ?h ?k); (case m => assumption); (case h => exact rfl))
  | ((with_reducible refine' we_fHv ?m ?h ?k); (case m => assumption); (case h => exact rfl))
  | ((with_reducible refine' we_fFv ?m ?h ?k); (case m => assumption); (case h => exact rfl))
  | with_reducible refine we_str ?_
  | with_reducible refine we_non ?_
  | with_reducible refine we_bl ?_
  | with_reducible refine we_ty ?_
  | with_reducible refine we_op ?_
  | with_reducible refine we_un ?_
  | with_reducible refine we_neg ?_
  | with_reducible refine we_cb ?_
  | with_reducible refine wa_cons ?_
  | with_reducible refine wa_nil ?_
  | with_reducible refine wt_test ?_
  | with_reducible refine wt_B ?_
  | with_reducible refine wt_yes ?_
  | with_reducible refine wt_not ?_
  | with_reducible refine wt_and ?_
  | with_reducible refine wt_or ?_
  | with_reducible refine rr_add ?_
  | with_reducible refine rr_sub ?_
  | with_reducible refine rr_lt ?_
  | with_reducible refine rr_le ?_
  | with_reducible refine rr_gt ?_
  | with_reducible refine rr_ge ?_
  | with_reducible refine rr_isN ?_
  | with_reducible refine rr_eqI ?_
  | with_reducible refine rr_neI ?_
  | with_reducible refine rr_neB ?_
  | with_reducible refine rr_int ?_
  | with_reducible refine rr_notN ?_
  | with_reducible refine rc_abs ?_
  | with_reducible refine rc_inti ?_
  | with_reducible refine rc_intb ?_
  | with_reducible refine rc_lent ?_
  | ((with_reducible refine' rr_ixt ?h ?k); (case h => first | assumption | exact rfl))
  | ((with_reducible refine' rr_ixl ?l ?h ?k); (case l => walk_at "lk"); (case h => first | assumption | exact rfl))
  | ((with_reducible refine' rc_lenl ?l ?k); (case l => walk_at "lk"))
  | with_reducible refine rc_lstt ?_
  | ((with_reducible refine' rc_lstl ?l ?k); (case l => walk_at "lk"))
  | ((with_reducible refine' rc_tupl ?l ?k); (case l => walk_at "lk"))
  | with_reducible refine we_sl ?_
  | with_reducible refine wo_none ?_
  | with_reducible refine wo_some ?_
  | with_reducible refine we_tup ?_
  | with_reducible refine we_lst ?_
  | refine ⟨[], rfl, Nat.le_of_ble_eq_true rfl, ?_⟩
  | refine ⟨[_], rfl, Nat.le_of_ble_eq_true rfl, ?_⟩
  | refine ⟨[_, _], rfl, Nat.le_of_ble_eq_true rfl, ?_⟩
  | refine ⟨[_, _, _], rfl, Nat.le_of_ble_eq_true rfl, ?_⟩
  | refine ⟨[_, _, _, _], rfl, Nat.le_of_ble_eq_true rfl, ?_⟩
  | refine ⟨[_, _, _, _, _], rfl, Nat.le_of_ble_eq_true rfl, ?_⟩
  | refine ⟨_, rfl, ?_⟩)
local macro_rules | `(tactic| walk_at "init") => `(tactic| simp only [δS, cxK, cxK2, entR, entM, List.map_cons, List.map_nil, List.length_cons, List.length_nil, List.replicate, List.cons_append, List.nil_append, Nat.reduceAdd, Nat.reduceSub])
local macro_rules | `(tactic| walk_at "seti0") => `(tactic| (refine' set_ownI (k := 0) ?hk ?hj ?hi ?hn; (case hk => exact rfl); (case hi => exact rfl)))
local macro_rules | `(tactic| walk_at "set0") => `(tactic| (refine' set_own (k := 0) ?hk ?hj ?hi ?hn; (case hk => exact rfl); (case hi => exact rfl)))
local macro_rules | `(tactic| walk_at "seti1") => `(tactic| (refine' set_ownI (k := 1) ?hk ?hj ?hi ?hn; (case hk => exact rfl); (case hi => exact rfl)))
local macro_rules | `(tactic| walk_at "set1") => `(tactic| (refine' set_own (k := 1) ?hk ?hj ?hi ?hn; (case hk => exact rfl); (case hi => exact rfl)))
local macro_rules | `(tactic| walk_at "seti2") => `(tactic| (refine' set_ownI (k := 2) ?hk ?hj ?hi ?hn; (case hk => exact rfl); (case hi => exact rfl)))
local macro_rules | `(tactic| walk_at "set2") => `(tactic| (refine' set_own (k := 2) ?hk ?hj ?hi ?hn; (case hk => exact rfl); (case hi => exact rfl)))
local macro_rules | `(tactic| walk_at "s1") => `(tactic| first | with_reducible refine ws_if ?_ | walk_at "s0")
local macro_rules | `(tactic| walk_at "gj") => `(tactic| repeat walk_at "s0")
local macro_rules | `(tactic| walk_at "go") => `(tactic| repeat walk_at "s1")
section
variable {P : Program} {w : World} {K : PySem.W.Frag} {mg : Str → Option Value} {base : Heap}
def pre_law_cut (as : List AV) (post : BV → Prop) : Prop := ∃ (n : Net) (S : Nat → Bool), as = [.im (netD n), .im (.tup ((sideZ n.names.length S).map Dt.int))] ∧ n.ok ∧ post (.ls (natD (cutL n S)))
theorem has_law_cut (D : Df K mg "_law_cut" s_law_cut P_law_cut) (T : Tx mg) : Has P w K mg base 1 "_law_cut" P_law_cut (spP K pre_law_cut) := by
  obtain ⟨f, fd, F, hm, hb⟩ := D
  refine has_of (k := 0) F hm sc_law_cut hb (by intro as post h; unfold pre_law_cut at h; repeat (first | (obtain ⟨e, _⟩ := h; rw [e]; rfl) | (obtain ⟨_, h⟩ := h))) fun cdv A outer s H E hr => ?_
  refine ⟨_, (pss_one (ps_ret (pe_lc (own := [("_law_k", 2)]) rfl sc_law_cut.nd (pi_range1 (by rfl) T.range_ (pa_cons (pe_callB (kLen (K := K) rfl) (by rfl) T.len_ bb_len (pa_cons (pe_ix (kIx (K := K) rfl) (pv 0) pe_int (fun _ _ => rfl)) pa_nil)) pa_nil)) (blkOk_by (own := [("_law_k", 2)]) (N := N_law_cut) (sc := defScope s_law_cut) (by decide +kernel)) (fun _ _ _ _ _ => (pg_name (i := 2) sc_law_cut.nd rfl (Or.inl rfl) (Or.inr rfl))) (fun _ _ _ _ _ => (pts_one (pt_cmpR (kNe (K := K) rfl hr.units) (pe_cmpR (kIn (K := K) rfl hr.u65) (pe_ix (kIx (K := K) rfl) (pe_ix (kIx (K := K) rfl) (pe_ix (kIx (K := K) rfl) (pv 0) pe_int (fun _ _ => rfl)) (pv 2) (fun _ _ => rfl)) pe_int (fun _ _ => rfl)) (pv 1) (by rfl)) (pe_cmpR (kIn (K := K) rfl hr.u65) (pe_ix (kIx (K := K) rfl) (pe_ix (kIx (K := K) rfl) (pe_ix (kIx (K := K) rfl) (pv 0) pe_int (fun _ _ => rfl)) (pv 2) (fun _ _ => rfl)) pe_int (fun _ _ => rfl)) (pv 1) (by rfl)) (nomark _)))) (fun _ _ _ _ _ => (pv 2))))), ?_⟩
  rintro as post g ⟨n, S, rfl, ok, hpost⟩
  have hm2 := ok.m2
  walk_at "init"
  walk_at "gj"
  refine we_lcp (fun i => S (n.rd i).a != S (n.rd i).b) (fun i => .int (i : Int)) (wi_rng1 ?_)
  walk_at "gj"
  rw [List.length_map]
  refine ⟨by omega, by omega, fun _ => trivial, fun j r F' hj hr => ?_, fun b F' hl => ?_⟩
  · subst hr
    have i1 := at_rd hj
    refine ⟨_, gn_name, ?_⟩
    walk_at "gj"
    rw [in_side (ok.ai hj), in_side (ok.bi hj)]
    refine ⟨rfl, .refl _, fun _ => ?_⟩
    walk_at "gj"
    exact ⟨rfl, .refl _⟩
  · exact .inr ⟨_, _, rfl, List.mem_cons_self, hpost⟩
theorem sd_self {m : Nat} {l : List Nat} (h : l ∈ sdL m) : ixs (m + 1) (fun v => decide (v ∈ l)) = l := by
  obtain ⟨p, h0, _, rfl⟩ := mem_sdL.mp h
  exact ixs_congr fun v hv => by
    have : v ∈ ixs (m + 1) p ↔ p v = true := ⟨fun q => (mem_ixs.mp q).2, fun q => mem_ixs.mpr ⟨hv, q⟩⟩
    rw [dec_iff this]
    cases p v <;> rfl
def pre_law_strength (as : List AV) (post : BV → Prop) : Prop := ∃ (n : Net), as = [.im (netD n)] ∧ n.ok ∧ 2 ≤ n.names.length ∧ n.names.length ≤ 6 ∧ ∀ (c : Nat) S, MinCut n S c → post (.im (.int (c : Int)))
theorem has_law_strength (D : Df K mg "_law_strength" s_law_strength P_law_strength) (T : Tx mg) (G_law_sides : Has P w K mg base 1 "_law_sides" P_law_sides (spP K pre_law_sides)) (G_law_cut : Has P w K mg base 1 "_law_cut" P_law_cut (spP K pre_law_cut)) : Has P w K mg base 2 "_law_strength" P_law_strength (spP K pre_law_strength) := by
  obtain ⟨f, fd, F, hm, hb⟩ := D
  refine has_of (k := 1) F hm sc_law_strength hb (by intro as post h; unfold pre_law_strength at h; repeat (first | (obtain ⟨e, _⟩ := h; rw [e]; rfl) | (obtain ⟨_, h⟩ := h))) fun cdv A outer s H E hr => ?_
  refine ⟨_, (pss_cons (ps_if (pt_cmpR (kEq (K := K) rfl hr.units) (pe_callB (kLen (K := K) rfl) (by rfl) T.len_ bb_len (pa_cons (pe_ix (kIx (K := K) rfl) (pv 0) pe_int (fun _ _ => rfl)) pa_nil)) pe_int (nomark _)) (pss_one (ps_ret (pe_un un_neg pe_int))) pss_nil)
      (pss_one (ps_ret (pe_callB (kMin (K := K) rfl rfl) (by rfl) T.min_ bb_min (pa_cons (pe_lc (own := [("_law_side", 1)]) rfl sc_law_strength.nd (kiList (K := K) rfl (G_law_sides.pe (hr.mono (by omega)) (by rfl) (pa_cons (pe_callB (kLen (K := K) rfl) (by rfl) T.len_ bb_len (pa_cons (pe_ix (kIx (K := K) rfl) (pv 0) pe_int (fun _ _ => rfl)) pa_nil)) pa_nil))) (blkOk_by (own := [("_law_side", 1)]) (N := N_law_strength) (sc := defScope s_law_strength) (by decide +kernel)) (fun _ _ _ _ _ => (pg_name (i := 1) sc_law_strength.nd rfl (Or.inl rfl) (Or.inr rfl))) (fun _ _ _ _ _ => pts_nil) (fun _ _ _ _ _ => (pe_callB (kLen (K := K) rfl) (by rfl) T.len_ bb_len (pa_cons (G_law_cut.pe (hr.mono (by omega)) (by rfl) (pa_cons (pv 0) (pa_cons (pv 1) pa_nil))) pa_nil)))) pa_nil))))), ?_⟩
  rintro as post g ⟨n, rfl, ok, h2, h6, hpost⟩
  have hm2 := ok.m2
  walk_at "init"
  walk_at "go"
  rw [List.length_map]
  refine ⟨fun h => absurd (of_decide_eq_true h) (by omega), fun _ => ?_⟩
  obtain ⟨m, hm⟩ : ∃ m, n.names.length = m + 1 := ⟨n.names.length - 1, by omega⟩
  walk_at "gj"
  refine we_lcp (fun _ => true) (fun j => .int ((cutL n (fun v => decide (v ∈ (sdL m).getD j []))).length : Int)) (wi_list ?_)
  walk_at "gj"
  refine ⟨_, .cons (.im _) .nil, m, by rw [List.length_map, hm], by omega, fun a => ?_⟩
  refine ⟨_, _, rfl, lk0, ?_⟩
  rw [List.length_map]
  have hln : (sdL m).length ≤ 32 := by
    refine Nat.le_trans (List.length_filter_le _ _) ?_
    rw [sdN_len]
    exact Nat.le_trans (Nat.pow_le_pow_right (by decide) (show m ≤ 5 by omega)) (by decide)
  refine ⟨by omega, fun _ => lk0, fun j r F' hj ⟨d, hd, hr⟩ => ?_, fun b F' hl => ?_⟩
  · rw [List.getElem?_map, List.getElem?_eq_getElem hj] at hd
    cases hd
    subst hr
    have e : (sdL m).getD j [] = (sdL m)[j] := by rw [List.getD_eq_getElem?_getD, List.getElem?_eq_getElem hj]; rfl
    rw [e]
    have hs := sd_self (List.getElem_mem hj)
    refine ⟨_, gn_name, wt_yes ⟨rfl, .refl _, fun _ => ?_⟩⟩
    walk_at "gj"
    refine ⟨_, .cons (.im _) (.cons (.im _) .nil), n, fun v => decide (v ∈ (sdL m)[j]), ?_, ok, fun q => ?_⟩
    · rw [← sideZ_nat, hm, hs]
    walk_at "gj"
    rw [natD_len]
    exact ⟨rfl, List.sublist_cons_self _ _⟩
  · walk_at "gj"
    let ns : List Int := (sdL m).map fun l => ((cutL n fun v => decide (v ∈ l)).length : Int)
    have e : (ixs (sdL m).length fun _ => true).map (fun j => Dt.int ((cutL n (fun v => decide (v ∈ (sdL m).getD j []))).length : Int)) = ns.map Dt.int := by
      rw [ixs_all]
      show _ = ((sdL m).map _).map Dt.int
      rw [List.map_map]
      exact range_getD (sdL m) [] fun l => Dt.int ((cutL n fun v => decide (v ∈ l)).length : Int)
    rw [e]
    have hne : 0 < ns.length := by
      show 0 < ((sdL m).map _).length
      rw [List.length_map]
      exact List.length_pos_of_mem (mem_sdL.mpr ⟨fun v => decide (v = 1), rfl, ⟨1, by omega, rfl⟩, rfl⟩)
    refine rc_min lk0 hne fun x hx hle => ?_
    obtain ⟨l, hl', rfl⟩ := List.mem_map.mp hx
    refine .inl ⟨_, rfl, hpost _ (fun v => decide (v ∈ l)) ?_⟩
    obtain ⟨p, h0, ⟨v, hv, hpv⟩, rfl⟩ := mem_sdL.mp hl'
    have hmem : ∀ w, w ∈ ixs (m + 1) p ↔ w < m + 1 ∧ p w = true := fun w => mem_ixs
    refine ⟨by simp [hmem, h0], ⟨v, by omega, by simp [hmem, hpv, hv]⟩, rfl, fun S' h0' ⟨v', hv', hp'⟩ => ?_⟩
    have hm2' : ixs (m + 1) S' ∈ sdL m := mem_sdL.mpr ⟨S', h0', ⟨v', by omega, hp'⟩, rfl⟩
    have h3 := hle _ (List.mem_map.mpr ⟨_, hm2', rfl⟩)
    have h4 : cutL n (fun v => decide (v ∈ ixs (m + 1) S')) = cutL n S' := ixs_congr fun i hi => by
      have q : ∀ w, w < n.names.length → decide (w ∈ ixs (m + 1) S') = S' w := fun w hw => by
        have : w ∈ ixs (m + 1) S' ↔ S' w = true := ⟨fun q => (mem_ixs.mp q).2, fun q => mem_ixs.mpr ⟨by omega, q⟩⟩
        rw [dec_iff this]
        cases S' w <;> rfl
      show (decide ((n.rd i).a ∈ ixs (m + 1) S') != decide ((n.rd i).b ∈ ixs (m + 1) S')) = _
      rw [q _ (ok.ai hi), q _ (ok.bi hi)]
    rw [h4] at h3
    have h5 : cutN n S' = (cutL n S').length := rfl
    omega
def pre_law_misses (as : List AV) (post : BV → Prop) : Prop := ∃ (n : Net) (h : List Int), as = [.im (netD n), .im (.tup (h.map Dt.int))] ∧ n.ok ∧ h.length = n.names.length ∧ post (.ls ((n.row (n.miss h)).map Dt.int))
theorem has_law_misses (D : Df K mg "_law_misses" s_law_misses P_law_misses) (T : Tx mg) : Has P w K mg base 1 "_law_misses" P_law_misses (spP K pre_law_misses) := by
  obtain ⟨f, fd, F, hm, hb⟩ := D
  refine has_of (k := 0) F hm sc_law_misses hb (by intro as post h; unfold pre_law_misses at h; repeat (first | (obtain ⟨e, _⟩ := h; rw [e]; rfl) | (obtain ⟨_, h⟩ := h))) fun cdv A outer s H E hr => ?_
  refine ⟨_, (pss_one (ps_ret (pe_lc (own := [("_law_a", 2), ("_law_b", 3), ("_law_value", 4)]) rfl sc_law_misses.nd (kiTup (K := K) rfl (pe_ix (kIx (K := K) rfl) (pv 0) pe_int (fun _ _ => rfl))) (blkOk_by (own := [("_law_a", 2), ("_law_b", 3), ("_law_value", 4)]) (N := N_law_misses) (sc := defScope s_law_misses) (by decide +kernel)) (fun _ _ _ _ _ => (kgTup (K := K) (n := 3) rfl rfl (pgs_cons (pg_name (i := 2) sc_law_misses.nd rfl (Or.inl rfl) (Or.inr rfl)) (pgs_cons (pg_name (i := 3) sc_law_misses.nd rfl (Or.inl rfl) (Or.inr rfl)) (pgs_cons (pg_name (i := 4) sc_law_misses.nd rfl (Or.inl rfl) (Or.inr rfl)) pgs_nil))))) (fun _ _ _ _ _ => pts_nil) (fun _ _ _ _ _ => (pe_op (kAdd (K := K) rfl) (pe_op op_subI (pv 4) (pe_ix (kIx (K := K) rfl) (pv 1) (pv 3) (fun _ _ => rfl))) (pe_ix (kIx (K := K) rfl) (pv 1) (pv 2) (fun _ _ => rfl))))))), ?_⟩
  rintro as post g ⟨n, h, rfl, ok, hl, hpost⟩
  have hm2 := ok.m2
  walk_at "init"
  walk_at "gj"
  refine we_lcp (fun _ => true) (fun i => .int (n.miss h i)) (wi_tup ?_)
  walk_at "gj"
  rw [List.length_map]
  refine ⟨by omega, fun _ => trivial, fun i r F' hi ⟨d, hd, hr⟩ => ?_, fun a F' hl2 => ?_⟩
  · obtain ⟨hi', rfl⟩ := rds_get hd
    subst hr
    have i1 := at_int (h := h) (i := (n.rd i).a) (by rw [hl]; exact ok.ai hi')
    have i2 := at_int (h := h) (i := (n.rd i).b) (by rw [hl]; exact ok.bi hi')
    refine ⟨_, gn_tup rfl (gns_cons (gns_cons (gns_cons gns_nil))), wt_yes ⟨rfl, .refl _, fun _ => ?_⟩⟩
    walk_at "gj"
    exact ⟨rfl, .refl _⟩
  · rw [row_map] at hpost
    refine .inr ⟨_, _, rfl, List.mem_cons_self, ?_⟩
    rw [ixs_all]
    exact hpost
def pre_law_lies (as : List AV) (post : BV → Prop) : Prop := ∃ (n : Net) (h : List Int), as = [.im (netD n), .im (.tup (h.map Dt.int))] ∧ n.ok ∧ h.length = n.names.length ∧ post (.im (.tup (natD (ixs n.rs.length (n.lie h)))))
theorem has_law_lies (D : Df K mg "_law_lies" s_law_lies P_law_lies) (T : Tx mg) (G_law_misses : Has P w K mg base 1 "_law_misses" P_law_misses (spP K pre_law_misses)) : Has P w K mg base 2 "_law_lies" P_law_lies (spP K pre_law_lies) := by
  obtain ⟨f, fd, F, hm, hb⟩ := D
  refine has_of (k := 1) F hm sc_law_lies hb (by intro as post h; unfold pre_law_lies at h; repeat (first | (obtain ⟨e, _⟩ := h; rw [e]; rfl) | (obtain ⟨_, h⟩ := h))) fun cdv A outer s H E hr => ?_
  refine ⟨_, (pss_cons (ps_set (i := 2) sc_law_lies.nd rfl (Or.inr rfl) (G_law_misses.pe (hr.mono (by omega)) (by rfl) (pa_cons (pv 0) (pa_cons (pv 1) pa_nil))))
      (pss_one (ps_ret (pe_callTy (kTup (K := K) rfl) (by rfl) T.tuple_ bb_tuple (pa_cons (pe_lc (own := [("_law_k", 3)]) rfl sc_law_lies.nd (pi_range1 (by rfl) T.range_ (pa_cons (pe_callB (kLen (K := K) rfl) (by rfl) T.len_ bb_len (pa_cons (pv 2) pa_nil)) pa_nil)) (blkOk_by (own := [("_law_k", 3)]) (N := N_law_lies) (sc := defScope s_law_lies) (by decide +kernel)) (fun _ _ _ _ _ => (pg_name (i := 3) sc_law_lies.nd rfl (Or.inl rfl) (Or.inr rfl))) (fun _ _ _ _ _ => (pts_one (pt_cmpR (kNe (K := K) rfl hr.units) (pe_ix (kIx (K := K) rfl) (pv 2) (pv 3) (fun _ _ => rfl)) pe_int (nomark _)))) (fun _ _ _ _ _ => (pv 3))) pa_nil))))), ?_⟩
  rintro as post g ⟨n, h, rfl, ok, hl, hpost⟩
  have hm2 := ok.m2
  walk_at "init"
  walk_at "gj"
  refine ⟨_, .cons (.im _) (.cons (.im _) .nil), n, h, rfl, ok, hl, fun a => ?_⟩
  walk_at "gj"
  refine we_lcp (n.lie h) (fun i => .int (i : Int)) (wi_rng1 ?_)
  walk_at "gj"
  rw [List.length_map, row_len]
  refine ⟨by omega, by omega, fun _ => trivial, fun i r F' hi hr => ?_, fun b F' hl2 => ?_⟩
  · subst hr
    have i1 := at_int (h := n.row (n.miss h)) (i := i) (by rw [row_len]; exact hi)
    rw [row_get hi] at i1
    refine ⟨_, gn_name, ?_⟩
    walk_at "gj"
    refine ⟨rfl, .refl _, fun _ => ?_⟩
    walk_at "gj"
    exact ⟨rfl, .refl _⟩
  · walk_at "gj"
    exact .inl ⟨_, rfl, hpost⟩
def pre_law_cost (as : List AV) (post : BV → Prop) : Prop := ∃ (n : Net) (h : List Int), as = [.im (netD n), .im (.tup (h.map Dt.int))] ∧ n.ok ∧ h.length = n.names.length ∧ post (.im (.int (n.cost h)))
theorem has_law_cost (D : Df K mg "_law_cost" s_law_cost P_law_cost) (T : Tx mg) (G_law_misses : Has P w K mg base 1 "_law_misses" P_law_misses (spP K pre_law_misses)) : Has P w K mg base 2 "_law_cost" P_law_cost (spP K pre_law_cost) := by
  obtain ⟨f, fd, F, hm, hb⟩ := D
  refine has_of (k := 1) F hm sc_law_cost hb (by intro as post h; unfold pre_law_cost at h; repeat (first | (obtain ⟨e, _⟩ := h; rw [e]; rfl) | (obtain ⟨_, h⟩ := h))) fun cdv A outer s H E hr => ?_
  refine ⟨_, (pss_one (ps_ret (pe_callB (kSum (K := K) rfl rfl) (by rfl) T.sum_ bb_sum (pa_cons (pe_lc (own := [("_law_miss", 2)]) rfl sc_law_cost.nd (kiList (K := K) rfl (G_law_misses.pe (hr.mono (by omega)) (by rfl) (pa_cons (pv 0) (pa_cons (pv 1) pa_nil)))) (blkOk_by (own := [("_law_miss", 2)]) (N := N_law_cost) (sc := defScope s_law_cost) (by decide +kernel)) (fun _ _ _ _ _ => (pg_name (i := 2) sc_law_cost.nd rfl (Or.inl rfl) (Or.inr rfl))) (fun _ _ _ _ _ => pts_nil) (fun _ _ _ _ _ => (pe_callB call_absQ (by rfl) T.abs_ bb_abs (pa_cons (pv 2) pa_nil)))) pa_nil)))), ?_⟩
  rintro as post g ⟨n, h, rfl, ok, hl, hpost⟩
  have hm2 := ok.m2
  walk_at "init"
  walk_at "gj"
  refine we_lcp (fun _ => true) (fun i => .int (absI (n.miss h i))) (wi_list ?_)
  walk_at "gj"
  refine ⟨_, .cons (.im _) (.cons (.im _) .nil), n, h, rfl, ok, hl, fun a => ?_⟩
  refine ⟨_, _, rfl, lk0, ?_⟩
  rw [List.length_map, row_len]
  refine ⟨by omega, fun _ => lk0, fun i r F' hi ⟨d, hd, hr⟩ => ?_, fun b F' hl => ?_⟩
  · rw [row_map, List.getElem?_map, List.getElem?_range hi] at hd
    cases hd
    subst hr
    refine ⟨_, gn_name, wt_yes ⟨rfl, .refl _, fun _ => ?_⟩⟩
    walk_at "gj"
    exact ⟨rfl, .refl _⟩
  · walk_at "gj"
    refine rc_sum (ns := n.row fun i => absI (n.miss h i)) ?_ ?_
    · rw [ixs_all, row_map (f := fun i => absI (n.miss h i))]
      exact lk0
    · exact .inl ⟨_, rfl, hpost⟩
end
end TL

set_option Elab.async false
set_option linter.all false
set_option autoImplicit false
set_option maxRecDepth 100000
set_option maxHeartbeats 4000000
namespace TL
open PySem PySem.Spec PyProof.Rows L2
local macro_rules | `(tactic| walk_at "lk") => `(tactic| first | assumption | exact lk0 | exact lk1 | exact lk2 | exact lk3 | exact lk4 | exact lr0 | exact lr1 | exact lkH | exact lkF)
/-! one step of the walk: by the reading's head; all else is left -/
local macro_rules | `(tactic| walk_at "s0") => `(tactic| first
  | with_reducible refine ws_seq ?_
  | with_reducible refine ws_pop0 ?_
  | with_reducible refine ws_append ?_
  | with_reducible refine ws_insert ?_
  | with_reducible refine ws_set ?_
  | with_reducible refine ws_drop ?_
  | with_reducible refine ws_ret ?_
  | with_reducible refine ws_asg ?_
  | with_reducible refine ws_next ?_
  | with_reducible refine wg_name ?_
  | with_reducible refine wgs_nameM ?_
  | with_reducible refine wgs_nilM ?_
  | ((with_reducible refine' wg_tup ?h ?k); (case h => exact rfl))
  | with_reducible refine wg_sub ?_
  | with_reducible refine we_andV ?_
  | with_reducible refine we_notV ?_
  | with_reducible refine rc_isi isi_int ?_
  | with_reducible refine rc_isi isi_intb ?_
  | with_reducible refine rc_isi isi_tup ?_
  | with_reducible refine we_orV ?_
  | with_reducible refine we_chain ?_
  | with_reducible refine we_call ?_
  | with_reducible refine rr_eqI ?_
  | ((with_reducible refine' we_var ?h ?k); (case h => exact rfl))
  | with_reducible refine we_int ?_
  | ((with_reducible refine' we_fNv ?m ?h ?k); (case m => assumption); (case h => exact rfl))
  | ((with_reducible refine' we_fWv ?m ?h ?k); (case m => assumption); (case h => exact rfl))
  | ((with_reducible refine' we_fMv ?m ?h ?k); (case m => assumption); (case h => exact rfl))
  | ((with_reducible refine' we_fHv ?m ?h ?k); (case m => assumption); (case h => exact rfl))
  | ((with_reducible refine' we_fFv ?m ?h ?k); (case m => assumption); (case h => exact rfl))
  | with_reducible refine we_str ?_
  | with_reducible refine we_non ?_
  | with_reducible refine we_bl ?_
  | with_reducible refine we_ty ?_
  | with_reducible refine we_op ?_
  | with_reducible refine we_un ?_
  | with_reducible refine we_neg ?_
  | with_reducible refine we_cb ?_
  | with_reducible refine wa_cons ?_
  | with_reducible refine wa_nil ?_
  | with_reducible refine wt_test ?_
  | with_reducible refine wt_B ?_
  | with_reducible refine wt_yes ?_
  | with_reducible refine wt_not ?_
  | with_reducible refine wt_and ?_
  | with_reducible refine wt_or ?_
  | with_reducible refine rr_add ?_
  | with_reducible refine rr_sub ?_
  | with_reducible refine rr_lt ?_
  | with_reducible refine rr_le ?_
  | with_reducible refine rr_gt ?_
  | with_reducible refine rr_ge ?_
  | with_reducible refine rr_isN ?_
  | with_reducible refine rr_eqI ?_
  | with_reducible refine rr_neI ?_
  | with_reducible refine rr_neB ?_
  | with_reducible refine rr_int ?_
  | with_reducible refine rr_notN ?_
  | with_reducible refine rc_abs ?_
  | with_reducible refine rc_inti ?_
  | with_reducible refine rc_intb ?_
  | with_reducible refine rc_lent ?_
  | ((with_reducible refine' rr_ixt ?h ?k); (case h => first | assumption | exact rfl))
  | ((with_reducible refine' rr_ixl ?l ?h ?k); (case l => walk_at "lk"); (case h => first | assumption | exact rfl))
  | ((with_reducible refine' rc_lenl ?l ?k); (case l => walk_at "lk"))
  | with_reducible refine rc_lstt ?_
  | ((with_reducible refine' rc_lstl ?l ?k); (case l => walk_at "lk"))
  | ((with_reducible refine' rc_tupl ?l ?k); (case l => walk_at "lk"))
  | with_reducible refine we_sl ?_
  | with_reducible refine wo_none ?_
  | with_reducible refine wo_some ?_
  | with_reducible refine we_tup ?_
  | with_reducible refine we_lst ?_
  | refine ⟨[], rfl, Nat.le_of_ble_eq_true rfl, ?_⟩
  | refine ⟨[_], rfl, Nat.le_of_ble_eq_true rfl, ?_⟩
  | refine ⟨[_, _], rfl, Nat.le_of_ble_eq_true rfl, ?_⟩
  | refine ⟨[_, _, _], rfl, Nat.le_of_ble_eq_true rfl, ?_⟩
  | refine ⟨[_, _, _, _], rfl, Nat.le_of_ble_eq_true rfl, ?_⟩
  | refine ⟨[_, _, _, _, _], rfl, Nat.le_of_ble_eq_true rfl, ?_⟩
  | refine ⟨_, rfl, ?_⟩)
local macro_rules | `(tactic| walk_at "init") => `(tactic| simp only [δS, cxK, cxK2, entR, entM, List.map_cons, List.map_nil, List.length_cons, List.length_nil, List.replicate, List.cons_append, List.nil_append, Nat.reduceAdd, Nat.reduceSub])
local macro_rules | `(tactic| walk_at "seti0") => `(tactic| (refine' set_ownI (k := 0) ?hk ?hj ?hi ?hn; (case hk => exact rfl); (case hi => exact rfl)))
local macro_rules | `(tactic| walk_at "set0") => `(tactic| (refine' set_own (k := 0) ?hk ?hj ?hi ?hn; (case hk => exact rfl); (case hi => exact rfl)))
local macro_rules | `(tactic| walk_at "seti1") => `(tactic| (refine' set_ownI (k := 1) ?hk ?hj ?hi ?hn; (case hk => exact rfl); (case hi => exact rfl)))
local macro_rules | `(tactic| walk_at "set1") => `(tactic| (refine' set_own (k := 1) ?hk ?hj ?hi ?hn; (case hk => exact rfl); (case hi => exact rfl)))
local macro_rules | `(tactic| walk_at "seti2") => `(tactic| (refine' set_ownI (k := 2) ?hk ?hj ?hi ?hn; (case hk => exact rfl); (case hi => exact rfl)))
local macro_rules | `(tactic| walk_at "set2") => `(tactic| (refine' set_own (k := 2) ?hk ?hj ?hi ?hn; (case hk => exact rfl); (case hi => exact rfl)))
local macro_rules | `(tactic| walk_at "s1") => `(tactic| first | with_reducible refine ws_if ?_ | walk_at "s0")
local macro_rules | `(tactic| walk_at "gj") => `(tactic| repeat walk_at "s0")
local macro_rules | `(tactic| walk_at "go") => `(tactic| repeat walk_at "s1")
section
variable {P : Program} {w : World} {K : PySem.W.Frag} {mg : Str → Option Value} {base : Heap}
def pre_law_twins_fit (as : List AV) (post : BV → Prop) : Prop := ∃ (n : Net) (k : Nat) (S : Nat → Bool), as = [.im (netD n), .im (.int (k : Int)), .im (twA n S k)] ∧ n.ok ∧ 2 ≤ n.names.length ∧ n.names.length ≤ 6 ∧ Dt.oks (n.names.map Dt.str) ∧ S 0 = false ∧ (∃ v, v < n.names.length ∧ S v = true) ∧ cutN n S < 2 * k + 1 ∧ post (.im (.bl true))
theorem has_law_twins_fit (D : Df K mg "_law_twins_fit" s_law_twins_fit P_law_twins_fit) (T : Tx mg) (G_law_cut : Has P w K mg base 1 "_law_cut" P_law_cut (spP K pre_law_cut)) (G_law_sides : Has P w K mg base 1 "_law_sides" P_law_sides (spP K pre_law_sides)) (G_law_lies : Has P w K mg base 2 "_law_lies" P_law_lies (spP K pre_law_lies)) (G_law_cost : Has P w K mg base 2 "_law_cost" P_law_cost (spP K pre_law_cost)) : Has P w K mg base 3 "_law_twins_fit" P_law_twins_fit (spP K pre_law_twins_fit) := by
  obtain ⟨f, fd, F, hm, hb⟩ := D
  refine has_of (k := 2) F hm sc_law_twins_fit hb (by intro as post h; unfold pre_law_twins_fit at h; repeat (first | (obtain ⟨e, _⟩ := h; rw [e]; rfl) | (obtain ⟨_, h⟩ := h))) fun cdv A outer s H E hr => ?_
  refine ⟨_, (pss_cons (ps_if (PW.pt (pw_or (pt_not (pt_val (pe_callB (kIsi (K := K) rfl) (by rfl) T.isinstance_ bb_isinstance (pa_cons (pv 2) (pa_cons (pe_bltn (v := .ty "tuple") (by rfl) T.tuple_ bb_tuple rfl) pa_nil))))) (pw_or1 (pt_cmpR (kNe (K := K) rfl hr.units) (pe_callB (kLen (K := K) rfl) (by rfl) T.len_ bb_len (pa_cons (pv 2) pa_nil)) pe_int (nomark _))))) (pss_one (ps_ret pe_bl)) pss_nil)
      (pss_cons (ps_asg (pv 2) (kgTup (K := K) (n := 4) rfl rfl (pgs_cons (pg_name (i := 3) sc_law_twins_fit.nd rfl (Or.inr rfl) (Or.inl rfl)) (pgs_cons (pg_name (i := 4) sc_law_twins_fit.nd rfl (Or.inl rfl) (Or.inl rfl)) (pgs_cons (pg_name (i := 5) sc_law_twins_fit.nd rfl (Or.inl rfl) (Or.inl rfl)) (pgs_cons (pg_name (i := 6) sc_law_twins_fit.nd rfl (Or.inl rfl) (Or.inl rfl)) pgs_nil))))))
      (pss_cons (ps_set (i := 7) sc_law_twins_fit.nd rfl (Or.inl rfl) (pe_callB (kLen (K := K) rfl) (by rfl) T.len_ bb_len (pa_cons (pe_ix (kIx (K := K) rfl) (pv 0) pe_int (fun _ _ => rfl)) pa_nil)))
      (pss_cons (ps_if (PW.pt (pw_or (pt_cmpR (kNotIn (K := K) rfl hr.u65) (pv 3) (G_law_sides.pe (hr.mono (by omega)) (by rfl) (pa_cons (pv 7) pa_nil)) (by rfl)) (pw_or1 (pt_cmpR op_gtI (pe_callB (kLen (K := K) rfl) (by rfl) T.len_ bb_len (pa_cons (G_law_cut.pe (hr.mono (by omega)) (by rfl) (pa_cons (pv 0) (pa_cons (pv 3) pa_nil))) pa_nil)) (pe_op (kMul (K := K) rfl) pe_int (pv 1)) (nomark _))))) (pss_one (ps_ret pe_bl)) pss_nil)
      (pss_cons (ps_if (PW.pt (pw_or (pt_cmpR (kNe (K := K) rfl hr.units) (pe_slice (kSlT (K := K) rfl) (pv 4) po_none (po_some pe_int)) (pe_slice (kSlT (K := K) rfl) (pv 0) po_none (po_some pe_int)) (nomark _)) (pw_or1 (pt_cmpR (kNe (K := K) rfl hr.units) (pe_lc (own := [("_law_reading", 11)]) rfl sc_law_twins_fit.nd (kiTup (K := K) rfl (pe_ix (kIx (K := K) rfl) (pv 4) pe_int (fun _ _ => rfl))) (blkOk_by (own := [("_law_reading", 11)]) (N := N_law_twins_fit) (sc := defScope s_law_twins_fit) (by decide +kernel)) (fun _ _ _ _ _ => (pg_name (i := 11) sc_law_twins_fit.nd rfl (Or.inl rfl) (Or.inr rfl))) (fun _ _ _ _ _ => pts_nil) (fun _ _ _ _ _ => (pe_slice (kSlT (K := K) rfl) (pv 11) po_none (po_some pe_int)))) (pe_lc (own := [("_law_reading", 11)]) rfl sc_law_twins_fit.nd (kiTup (K := K) rfl (pe_ix (kIx (K := K) rfl) (pv 0) pe_int (fun _ _ => rfl))) (blkOk_by (own := [("_law_reading", 11)]) (N := N_law_twins_fit) (sc := defScope s_law_twins_fit) (by decide +kernel)) (fun _ _ _ _ _ => (pg_name (i := 11) sc_law_twins_fit.nd rfl (Or.inl rfl) (Or.inr rfl))) (fun _ _ _ _ _ => pts_nil) (fun _ _ _ _ _ => (pe_slice (kSlT (K := K) rfl) (pv 11) po_none (po_some pe_int)))) (nomark _))))) (pss_one (ps_ret pe_bl)) pss_nil)
      (pss_cons (ps_if (PW.pt (pw_or (pt_cmpR (kNe (K := K) rfl hr.units) (pv 5) (pe_op (kMul (K := K) rfl) (pe_tup (pa_cons pe_int pa_nil)) (pv 7)) (nomark _)) (pw_or1 (pt_cmpR (kNe (K := K) rfl hr.units) (pv 6) (pe_callTy (kTup (K := K) rfl) (by rfl) T.tuple_ bb_tuple (pa_cons (pe_lc (own := [("_law_mark", 12)]) rfl sc_law_twins_fit.nd (pi_range1 (by rfl) T.range_ (pa_cons (pv 7) pa_nil)) (blkOk_by (own := [("_law_mark", 12)]) (N := N_law_twins_fit) (sc := defScope s_law_twins_fit) (by decide +kernel)) (fun _ _ _ _ _ => (pg_name (i := 12) sc_law_twins_fit.nd rfl (Or.inl rfl) (Or.inr rfl))) (fun _ _ _ _ _ => pts_nil) (fun _ _ _ _ _ => (pe_callTy call_intQ (by rfl) T.int_ bb_int (pa_cons (pe_cmpR (kIn (K := K) rfl hr.u65) (pv 12) (pv 3) (by rfl)) pa_nil)))) pa_nil)) (nomark _))))) (pss_one (ps_ret pe_bl)) pss_nil)
      (pss_cons (ps_if (PW.pt (pw_or (pt_cmpR op_gtI (pe_callB (kLen (K := K) rfl) (by rfl) T.len_ bb_len (pa_cons (G_law_lies.pe (hr.mono (by omega)) (by rfl) (pa_cons (pv 4) (pa_cons (pv 5) pa_nil))) pa_nil)) (pv 1) (nomark _)) (pw_or1 (pt_cmpR op_gtI (pe_callB (kLen (K := K) rfl) (by rfl) T.len_ bb_len (pa_cons (G_law_lies.pe (hr.mono (by omega)) (by rfl) (pa_cons (pv 4) (pa_cons (pv 6) pa_nil))) pa_nil)) (pv 1) (nomark _))))) (pss_one (ps_ret pe_bl)) pss_nil)
      (pss_cons (ps_set (i := 8) sc_law_twins_fit.nd rfl (Or.inl rfl) (pe_slice (kSlL (K := K) rfl) (G_law_cut.pe (hr.mono (by omega)) (by rfl) (pa_cons (pv 0) (pa_cons (pv 3) pa_nil))) po_none (po_some (pv 1))))
      (pss_cons (ps_for PassesOwn.never rfl (pi_range1 (by rfl) T.range_ (pa_cons (pe_callB (kLen (K := K) rfl) (by rfl) T.len_ bb_len (pa_cons (pe_ix (kIx (K := K) rfl) (pv 4) pe_int (fun _ _ => rfl)) pa_nil)) pa_nil)) (pg_name (i := 9) sc_law_twins_fit.nd rfl (Or.inl rfl) (Or.inl rfl)) (pss_cons (ps_set (i := 10) sc_law_twins_fit.nd rfl (Or.inl rfl) (pe_op (kMul (K := K) rfl) (pe_ix (kIx (K := K) rfl) (pe_lst (pa_cons (pe_un un_neg pe_int) (pa_cons pe_int pa_nil))) (pe_callTy call_intQ (by rfl) T.int_ bb_int (pa_cons (pe_cmpR (kIn (K := K) rfl hr.u65) (pe_ix (kIx (K := K) rfl) (pe_ix (kIx (K := K) rfl) (pe_ix (kIx (K := K) rfl) (pv 0) pe_int (fun _ _ => rfl)) (pv 9) (fun _ _ => rfl)) pe_int (fun _ _ => rfl)) (pv 3) (by rfl)) pa_nil)) (fun _ _ => rfl)) (pe_callTy call_intQ (by rfl) T.int_ bb_int (pa_cons (pe_cmpR (kIn (K := K) rfl hr.u65) (pv 9) (pv 8) (by rfl)) pa_nil))))
      (pss_one (ps_if (pt_cmpR (kNe (K := K) rfl hr.units) (pe_ix (kIx (K := K) rfl) (pe_ix (kIx (K := K) rfl) (pe_ix (kIx (K := K) rfl) (pv 4) pe_int (fun _ _ => rfl)) (pv 9) (fun _ _ => rfl)) pe_int (fun _ _ => rfl)) (pv 10) (nomark _)) (pss_one (ps_ret pe_bl)) pss_nil))))
      (pss_one (ps_ret (pe_cmpR op_leI (G_law_cost.pe (hr.mono (by omega)) (by rfl) (pa_cons (pv 4) (pa_cons (pv 6) pa_nil))) (G_law_cost.pe (hr.mono (by omega)) (by rfl) (pa_cons (pv 4) (pa_cons (pv 5) pa_nil))) (nomark _))))))))))))), ?_⟩
  rintro as post g ⟨n, k, S, rfl, ok, h2, h6, oks, hS0, hSv, hc, hpost⟩
  have hm2 := ok.m2
  have fit := tw_fit ok hc
  have hcl : cutN n S = (cutL n S).length := rfl
  obtain ⟨m, hm⟩ : ∃ m, n.names.length = m + 1 := ⟨n.names.length - 1, by omega⟩
  have okN : (Dt.tup [.str "net", .tup (n.names.map Dt.str)]).ok := ok_tup (fun x hx => by
    rcases List.mem_cons.mp hx with rfl | hx
    · exact ok_str (by decide +kernel)
    · cases List.mem_singleton.mp hx
      refine ok_tup oks fun x hx => ?_
      obtain ⟨s, _, rfl⟩ := List.mem_map.mp hx
      rw [dep_str]; omega) fun x hx => by
    rcases List.mem_cons.mp hx with rfl | hx
    · rw [dep_str]; omega
    · cases List.mem_singleton.mp hx
      exact Nat.le_trans (dep_tup (k := 0) fun x hx => by
        obtain ⟨s, _, rfl⟩ := List.mem_map.mp hx
        rw [dep_str]; omega) (by omega)
  have okP : Dt.oks ((ixs n.rs.length fun _ => true).map fun i => Dt.tup [.int ((n.rd i).a : Int), .int ((n.rd i).b : Int)]) := fun x hx => by
    obtain ⟨i, _, rfl⟩ := List.mem_map.mp hx
    exact ok_intT (l := [((n.rd i).a : Int), ((n.rd i).b : Int)])
  have okS : Dt.oks ((sdL m).map fun l => Dt.tup (natD l)) := fun x hx => by
    obtain ⟨l, _, rfl⟩ := List.mem_map.mp hx
    exact ok_natT
  walk_at "init"
  walk_at "go"
  refine ⟨(fun h => by cases h), fun _ => ?_⟩
  walk_at "go"
  refine ⟨(fun h => by simp at h), fun _ => ?_⟩
  walk_at "go"
  rw [List.length_map]
  refine ⟨_, .cons (.im _) .nil, m, by rw [hm], by omega, fun a => ?_⟩
  refine rr_notinO lk0 ok_intT okS (fun _ => ?_) (fun h => absurd ?_ h)
  rotate_left
  · rw [← sideZ_nat]
    exact List.mem_map.mpr ⟨_, mem_sdL.mpr ⟨S, hS0, by rw [← hm]; exact hSv, by rw [hm]⟩, rfl⟩
  refine ⟨_, rfl, (fun h => by cases h), fun _ => ?_⟩
  walk_at "go"
  refine ⟨_, .cons (.im _) (.cons (.im _) .nil), n, S, rfl, ok, fun b => ?_⟩
  walk_at "go"
  refine rr_mul (.inl ⟨by decide, by decide⟩) ?_
  walk_at "go"
  rw [natD_len]
  refine ⟨fun h => absurd (of_decide_eq_true h) (by omega), fun _ => ?_⟩
  walk_at "go"
  refine rs_tup (p := 0) (q := 2) (HT.sIx_none _ _) (HT.sIx_nat _ _ _) ?_
  walk_at "go"
  refine rs_tup (p := 0) (q := 2) (HT.sIx_none _ _) (HT.sIx_nat _ _ _) ?_
  refine rr_neO okN okN (fun _ => ?_) (fun h => absurd rfl h)
  refine ⟨_, rfl, (fun h => by cases h), fun _ => ?_⟩
  walk_at "go"
  refine we_lcp (fun _ => true) (fun i => .tup [.int ((n.rd i).a : Int), .int ((n.rd i).b : Int)]) (wi_tup ?_)
  walk_at "gj"
  rw [List.length_map, tw_len]
  refine ⟨by omega, fun _ => trivial, fun i r F' hi ⟨d, hd, hr⟩ => ?_, fun l1 F' hl => ?_⟩
  · obtain ⟨_, rfl⟩ := rds_get hd
    subst hr
    rw [tw_rd hi]
    refine ⟨_, gn_name, wt_yes ⟨rfl, .refl _, fun _ => ?_⟩⟩
    walk_at "gj"
    refine rs_tup (p := 0) (q := 2) (HT.sIx_none _ _) (HT.sIx_nat _ _ _) ?_
    exact ⟨rfl, .refl _⟩
  refine we_lcp (fun _ => true) (fun i => .tup [.int ((n.rd i).a : Int), .int ((n.rd i).b : Int)]) (wi_tup ?_)
  walk_at "gj"
  rw [List.length_map]
  refine ⟨by omega, fun _ => trivial, fun i r F' hi ⟨d, hd, hr⟩ => ?_, fun l2 F' hl => ?_⟩
  · obtain ⟨_, rfl⟩ := rds_get hd
    subst hr
    refine ⟨_, gn_name, wt_yes ⟨rfl, .refl _, fun _ => ?_⟩⟩
    walk_at "gj"
    refine rs_tup (p := 0) (q := 2) (HT.sIx_none _ _) (HT.sIx_nat _ _ _) ?_
    exact ⟨rfl, .refl _⟩
  refine rr_neL lk1 lk0 okP okP (fun _ => ?_) (fun h => absurd rfl h)
  refine ⟨_, rfl, (fun h => by cases h), fun _ => ?_⟩
  walk_at "go"
  refine rr_rep1t (n := n.names.length) rfl (by omega) ?_
  rw [zeroH_map]
  refine rr_neO ok_intT ok_intT (fun _ => ?_) (fun h => absurd rfl h)
  refine ⟨_, rfl, (fun h => by cases h), fun _ => ?_⟩
  walk_at "go"
  refine we_lcp (fun _ => true) (fun v => .int (bI (S v))) (wi_rng1 ?_)
  walk_at "gj"
  refine ⟨by omega, by omega, fun _ => trivial, fun v r F' hv hr => ?_, fun l3 F' hl => ?_⟩
  · subst hr
    refine ⟨_, gn_name, wt_yes ⟨rfl, .refl _, fun _ => ?_⟩⟩
    walk_at "gj"
    rw [in_side hv]
    exact ⟨rfl, .refl _⟩
  rw [ixs_all, sideH_map]
  walk_at "gj"
  refine rr_neO ok_intT ok_intT (fun _ => ?_) (fun h => absurd rfl h)
  refine ⟨_, rfl, (fun h => by cases h), fun _ => ?_⟩
  walk_at "go"
  refine ⟨_, .cons (.im _) (.cons (.im _) .nil), twNet n S k, zeroH n, rfl, tw_ok ok, by unfold zeroH; rw [List.length_replicate]; rfl, ?_⟩
  walk_at "go"
  rw [natD_len]
  refine ⟨fun h => absurd (of_decide_eq_true h) (by have := fit.l0; omega), fun _ => ?_⟩
  walk_at "go"
  refine ⟨_, .cons (.im _) (.cons (.im _) .nil), twNet n S k, sideH n S, rfl, tw_ok ok, by unfold sideH; rw [List.length_map, List.length_range]; rfl, ?_⟩
  walk_at "go"
  rw [natD_len]
  refine ⟨fun h => absurd (of_decide_eq_true h) (by have := fit.l1; omega), fun _ => ?_⟩
  walk_at "go"
  refine ⟨_, .cons (.im _) (.cons (.im _) .nil), n, S, rfl, ok, fun b2 => ?_⟩
  walk_at "gj"
  refine rs_lst lk0 (p := 0) (HT.sIx_none _ _) (HT.sIx_nat _ _ _) fun r => ?_
  have eR : ((natD (cutL n S)).drop 0).take (min k (natD (cutL n S)).length - 0) = (((cutL n S).take k).map fun v : Nat => (v : Int)).map Dt.int := by
    rw [List.drop_zero, Nat.sub_zero, ← List.take_eq_take_min, natD_ints, List.map_take, List.map_take]
  rw [eR]
  generalize hR : ((cutL n S).take k).map (fun v : Nat => (v : Int)) = R
  have hin : ∀ i : Nat, decide ((i : Int) ∈ R) = decide (i ∈ (cutL n S).take k) := fun i => dec_iff ⟨fun h => by
    rw [← hR] at h
    obtain ⟨v, hv, e⟩ := List.mem_map.mp h
    have : v = i := by omega
    exact this ▸ hv, fun h => by rw [← hR]; exact List.mem_map.mpr ⟨i, h, rfl⟩⟩
  walk_at "gj"
  refine ws_forW (wi_rng1 ?_)
  walk_at "gj"
  rw [List.length_map, tw_len]
  refine ⟨by omega, fun i F' δ' M' => ∃ r9 r10, δ' = [some (.im (netD n)), some (.im (.int (k : Int))), some (.im (twA n S k)), some (.im (.tup ((sideZ n.names.length S).map Dt.int))), some (.im (netD (twNet n S k))), some (.im (.tup ((zeroH n).map Dt.int))), some (.im (.tup ((sideH n S).map Dt.int))), some (.im (.int (n.names.length : Int))), some (.ad (.ref r)), r9, r10, none, none] ∧ M' = [(r, R.map Dt.int)],
    ⟨_, .cons₂ _ (List.nil_sublist _), _, _, rfl, rfl⟩, fun _ _ _ _ _ _ _ _ => trivial, ?_, ?_⟩
  · rintro i x F' δ' M' hi rfl ⟨r9, r10, rfl, rfl⟩
    have i1 := at_rd hi
    have i2 : atI ((twNet n S k).rs.map rdD) (i : Int) = some (rdD ⟨(n.rd i).a, (n.rd i).b, twV n S k i⟩) := by rw [← tw_rd hi]; exact at_rd (by rw [tw_len]; exact hi)
    walk_at "gj"
    intro l4
    walk_at "gj"
    rw [in_side (ok.bi hi)]
    have i3 : atI [Dt.int (-1), .int 1] (if S (n.rd i).b = true then 1 else 0) = some (.int (if S (n.rd i).b = true then 1 else -1)) := by cases S (n.rd i).b <;> rfl
    refine rr_ixl lk0 i3 ?_
    walk_at "gj"
    refine rr_inl (ns := R) lk1 ?_
    walk_at "gj"
    rw [hin]
    refine rr_mul (.inr (by split <;> exact ⟨by decide, by decide⟩)) ?_
    rw [← tw_due ok hi]
    walk_at "go"
    refine ⟨fun h => by simp at h, fun _ => ?_⟩
    walk_at "gj"
    exact ⟨_, .cons _ (.refl _), _, _, rfl, rfl⟩
  · rintro F' δ' M' M3 hs ⟨r9, r10, rfl, rfl⟩
    refine ws_weak hs ?_
    walk_at "gj"
    refine ⟨_, .cons (.im _) (.cons (.im _) .nil), twNet n S k, sideH n S, rfl, tw_ok ok, by unfold sideH; rw [List.length_map, List.length_range]; rfl, ?_⟩
    walk_at "gj"
    refine ⟨_, .cons (.im _) (.cons (.im _) .nil), twNet n S k, zeroH n, rfl, tw_ok ok, by unfold zeroH; rw [List.length_replicate]; rfl, ?_⟩
    walk_at "gj"
    rw [decide_eq_true fit.c]
    exact .inl ⟨_, rfl, hpost⟩
end
end TL

set_option Elab.async false
set_option linter.all false
set_option autoImplicit false
set_option maxRecDepth 100000
set_option maxHeartbeats 4000000
namespace TL
open PySem PySem.Spec PyProof.Rows L2
local macro_rules | `(tactic| walk_at "lk") => `(tactic| first | assumption | exact lk0 | exact lk1 | exact lk2 | exact lk3 | exact lk4 | exact lr0 | exact lr1 | exact lkH | exact lkF)
/-! one step of the walk: by the reading's head; all else is left -/
local macro_rules | `(tactic| walk_at "s0") => `(tactic| first
  | with_reducible refine ws_seq ?_
  | with_reducible refine ws_pop0 ?_
  | with_reducible refine ws_append ?_
  | with_reducible refine ws_insert ?_
  | with_reducible refine ws_set ?_
  | with_reducible refine ws_drop ?_
  | with_reducible refine ws_ret ?_
  | with_reducible refine ws_asg ?_
  | with_reducible refine ws_next ?_
  | with_reducible refine wg_name ?_
  | with_reducible refine wgs_nameM ?_
  | with_reducible refine wgs_nilM ?_
  | ((with_reducible refine' wg_tup ?h ?k); (case h => exact rfl))
  | with_reducible refine wg_sub ?_
  | with_reducible refine we_andV ?_
  | with_reducible refine we_notV ?_
  | with_reducible refine rc_isi isi_int ?_
  | with_reducible refine rc_isi isi_intb ?_
  | with_reducible refine rc_isi isi_tup ?_
  | with_reducible refine we_orV ?_
  | with_reducible refine we_chain ?_
  | with_reducible refine we_call ?_
  | with_reducible refine rr_eqI ?_
  | ((with_reducible refine' we_var ?h ?k); (case h => exact rfl))
  | with_reducible refine we_int ?_
  | ((with_reducible refine' we_fNv ?m ?h ?k); (case m => assumption); (case h => exact rfl))
  | ((with_reducible refine' we_fWv ?m ?h ?k); (case m => assumption); (case h => exact rfl))
  | ((with_reducible refine' we_fMv ?m ?h ?k); (case m => assumption); (case h => exact rfl))
  | ((with_reducible refine' we_fHv ?m ?h ?k); (case m => assumption); (case h => exact rfl))
  | ((with_reducible refine' we_fFv ?m ?h ?k); (case m => assumption); (case h => exact rfl))
  | with_reducible refine we_str ?_
  | with_reducible refine we_non ?_
  | with_reducible refine we_bl ?_
  | with_reducible refine we_ty ?_
  | with_reducible refine we_op ?_
  | with_reducible refine we_un ?_
  | with_reducible refine we_neg ?_
  | with_reducible refine we_cb ?_
  | with_reducible refine wa_cons ?_
  | with_reducible refine wa_nil ?_
  | with_reducible refine wt_test ?_
  | with_reducible refine wt_B ?_
  | with_reducible refine wt_yes ?_
  | with_reducible refine wt_not ?_
  | with_reducible refine wt_and ?_
  | with_reducible refine wt_or ?_
  | with_reducible refine rr_add ?_
  | with_reducible refine rr_sub ?_
  | with_reducible refine rr_lt ?_
  | with_reducible refine rr_le ?_
  | with_reducible refine rr_gt ?_
  | with_reducible refine rr_ge ?_
  | with_reducible refine rr_isN ?_
  | with_reducible refine rr_eqI ?_
  | with_reducible refine rr_neI ?_
  | with_reducible refine rr_neB ?_
  | with_reducible refine rr_int ?_
  | with_reducible refine rr_notN ?_
  | with_reducible refine rc_abs ?_
  | with_reducible refine rc_inti ?_
  | with_reducible refine rc_intb ?_
  | with_reducible refine rc_lent ?_
  | ((with_reducible refine' rr_ixt ?h ?k); (case h => first | assumption | exact rfl))
  | ((with_reducible refine' rr_ixl ?l ?h ?k); (case l => walk_at "lk"); (case h => first | assumption | exact rfl))
  | ((with_reducible refine' rc_lenl ?l ?k); (case l => walk_at "lk"))
  | with_reducible refine rc_lstt ?_
  | ((with_reducible refine' rc_lstl ?l ?k); (case l => walk_at "lk"))
  | ((with_reducible refine' rc_tupl ?l ?k); (case l => walk_at "lk"))
  | with_reducible refine we_sl ?_
  | with_reducible refine wo_none ?_
  | with_reducible refine wo_some ?_
  | with_reducible refine we_tup ?_
  | with_reducible refine we_lst ?_
  | refine ⟨[], rfl, Nat.le_of_ble_eq_true rfl, ?_⟩
  | refine ⟨[_], rfl, Nat.le_of_ble_eq_true rfl, ?_⟩
  | refine ⟨[_, _], rfl, Nat.le_of_ble_eq_true rfl, ?_⟩
  | refine ⟨[_, _, _], rfl, Nat.le_of_ble_eq_true rfl, ?_⟩
  | refine ⟨[_, _, _, _], rfl, Nat.le_of_ble_eq_true rfl, ?_⟩
  | refine ⟨[_, _, _, _, _], rfl, Nat.le_of_ble_eq_true rfl, ?_⟩
  | refine ⟨_, rfl, ?_⟩)
local macro_rules | `(tactic| walk_at "init") => `(tactic| simp only [δS, cxK, cxK2, entR, entM, List.map_cons, List.map_nil, List.length_cons, List.length_nil, List.replicate, List.cons_append, List.nil_append, Nat.reduceAdd, Nat.reduceSub])
local macro_rules | `(tactic| walk_at "seti0") => `(tactic| (refine' set_ownI (k := 0) ?hk ?hj ?hi ?hn; (case hk => exact rfl); (case hi => exact rfl)))
local macro_rules | `(tactic| walk_at "set0") => `(tactic| (refine' set_own (k := 0) ?hk ?hj ?hi ?hn; (case hk => exact rfl); (case hi => exact rfl)))
local macro_rules | `(tactic| walk_at "seti1") => `(tactic| (refine' set_ownI (k := 1) ?hk ?hj ?hi ?hn; (case hk => exact rfl); (case hi => exact rfl)))
local macro_rules | `(tactic| walk_at "set1") => `(tactic| (refine' set_own (k := 1) ?hk ?hj ?hi ?hn; (case hk => exact rfl); (case hi => exact rfl)))
local macro_rules | `(tactic| walk_at "seti2") => `(tactic| (refine' set_ownI (k := 2) ?hk ?hj ?hi ?hn; (case hk => exact rfl); (case hi => exact rfl)))
local macro_rules | `(tactic| walk_at "set2") => `(tactic| (refine' set_own (k := 2) ?hk ?hj ?hi ?hn; (case hk => exact rfl); (case hi => exact rfl)))
local macro_rules | `(tactic| walk_at "s1") => `(tactic| first | with_reducible refine ws_if ?_ | walk_at "s0")
local macro_rules | `(tactic| walk_at "gj") => `(tactic| repeat walk_at "s0")
local macro_rules | `(tactic| walk_at "go") => `(tactic| repeat walk_at "s1")
local macro_rules | `(tactic| walk_at "sB") => `(tactic| first
  | ((refine' wg_bx ?b ?h ?p ?k); (case b => assumption); (case h => exact rfl); (case p => omega))
  | walk_at "s0")
local macro_rules | `(tactic| walk_at "gB") => `(tactic| repeat walk_at "sB")
section
variable {P : Program} {w : World} {K : PySem.W.Frag} {mg : Str → Option Value} {base : Heap}
def pre_law_draw (as : List AV) (post : BV → Prop) : Prop := ∃ (m : Int), as = [.im (.int m)] ∧ 1 ≤ m ∧ ∀ r : Int, 0 ≤ r → r < m → post (.im (.int r))
theorem has_law_draw (D : Df K mg "_law_draw" s_law_draw P_law_draw) (T : Tx mg) : Has P w K mg base 1 "_law_draw" P_law_draw (spB K pre_law_draw) := by
  obtain ⟨f, fd, F, hm, hb⟩ := D
  refine hasB_of (k := 0) F hm sc_law_draw hb (by intro as post h; unfold pre_law_draw at h; repeat (first | (obtain ⟨e, _⟩ := h; rw [e]; rfl) | (obtain ⟨_, h⟩ := h))) fun cdv A outer s H E hr => ?_
  refine ⟨_, (pss_cons (ps_set (i := 2) sc_law_draw.nd rfl (Or.inl rfl) (pe_ix (kIx (K := K) rfl) (pv 0) pe_int (fun _ _ => rfl)))
      (pss_cons (ps_asg (pe_op (kAdd (K := K) rfl) (pv 2) pe_int) (pg_sub (pv 0) pe_int set_list))
      (pss_cons (ps_if (pt_cmpR op_ltI (pv 2) (pe_callB (kLen (K := K) rfl) (by rfl) T.len_ bb_len (pa_cons (pe_ix (kIx (K := K) rfl) (pv 0) pe_int (fun _ _ => rfl)) pa_nil)) (nomark _)) (pss_one (ps_ret (pe_op op_modI (pe_callTy call_intQ (by rfl) T.int_ bb_int (pa_cons (pe_ix (kIx (K := K) rfl) (pe_ix (kIx (K := K) rfl) (pv 0) pe_int (fun _ _ => rfl)) (pv 2) (fun _ _ => rfl)) pa_nil)) (pv 1)))) pss_nil)
      (pss_one (ps_ret (pe_op op_modI (pe_callTy call_intQ (by rfl) T.int_ bb_int (pa_cons (pe_op (kAdd (K := K) rfl) (pe_op (kMul (K := K) rfl) (pv 2) pe_int) pe_int) pa_nil)) (pv 1))))))), ?_⟩
  rintro bx dg ds as post g B ⟨m, rfl, hm, hpost⟩
  walk_at "init"
  walk_at "gB"
  refine rr_bx1 fun p hp => ?_
  walk_at "gB"
  refine ws_if ?_
  walk_at "gB"
  refine rr_bx0 ?_
  walk_at "gB"
  refine rc_lenl (lkD B) ?_
  rw [List.length_map]
  walk_at "gB"
  refine ⟨fun h => ?_, fun h => ?_⟩
  · obtain ⟨q, rfl⟩ := Int.eq_ofNat_of_zero_le hp
    have i1 := at_int (h := ds) (i := q) (by have := of_decide_eq_true h; omega)
    walk_at "gB"
    refine rr_bx0 ?_
    walk_at "gB"
    refine rr_ixl (lkD B) i1 ?_
    walk_at "gB"
    refine rr_mod (by omega) ?_
    exact ⟨rfl, .inl ⟨_, rfl, hpost _ (Int.fmod_nonneg_of_pos _ (by omega)) (Int.fmod_lt_of_pos _ (by omega))⟩⟩
  · walk_at "gB"
    refine rr_mul (.inr ⟨by decide, by decide⟩) ?_
    walk_at "gB"
    refine rr_mod (by omega) ?_
    exact ⟨rfl, .inl ⟨_, rfl, hpost _ (Int.fmod_nonneg_of_pos _ (by omega)) (Int.fmod_lt_of_pos _ (by omega))⟩⟩
def pre_law_pick (as : List AV) (post : BV → Prop) : Prop := ∃ (ds : List Dt), as = [.ls ds] ∧ 1 ≤ ds.length ∧ ∀ d ∈ ds, post (.im d)
theorem has_law_pick (D : Df K mg "_law_pick" s_law_pick P_law_pick) (T : Tx mg) (G_law_draw : Has P w K mg base 1 "_law_draw" P_law_draw (spB K pre_law_draw)) : Has P w K mg base 2 "_law_pick" P_law_pick (spB K pre_law_pick) := by
  obtain ⟨f, fd, F, hm, hb⟩ := D
  refine hasB_of (k := 1) F hm sc_law_pick hb (by intro as post h; unfold pre_law_pick at h; repeat (first | (obtain ⟨e, _⟩ := h; rw [e]; rfl) | (obtain ⟨_, h⟩ := h))) fun cdv A outer s H E hr => ?_
  refine ⟨_, (pss_one (ps_ret (pe_ix (kIx (K := K) rfl) (pv 1) (pe_op op_modI (pe_callTy call_intQ (by rfl) T.int_ bb_int (pa_cons (G_law_draw.pe (hr.mono (by omega)) (by rfl) (pa_cons (pv 0) (pa_cons pe_int pa_nil))) pa_nil)) (pe_callB (kLen (K := K) rfl) (by rfl) T.len_ bb_len (pa_cons (pv 1) pa_nil))) (fun _ _ => rfl)))), ?_⟩
  rintro bx dg ds as post g B ⟨es, rfl, hm, hpost⟩
  walk_at "init"
  walk_at "gB"
  refine we_callB B ?_
  walk_at "gB"
  refine ⟨_, _, rfl, rfl, .cons (.im _) .nil, 900, rfl, by decide, fun r h0 h1 => ?_⟩
  walk_at "gB"
  refine rr_mod (by omega) ?_
  have h2 : 0 ≤ r.fmod (es.length : Int) := Int.fmod_nonneg_of_pos _ (by omega)
  have h3 : r.fmod (es.length : Int) < es.length := Int.fmod_lt_of_pos _ (by omega)
  generalize r.fmod (es.length : Int) = q at h2 h3
  obtain ⟨q, rfl⟩ := Int.eq_ofNat_of_zero_le h2
  have hq : q < es.length := by omega
  refine rr_ixl lr0 (L2.atI_nat (List.getElem?_eq_getElem hq)) ?_
  exact ⟨rfl, .inl ⟨_, rfl, hpost _ (List.getElem_mem hq)⟩⟩
def pre_law_heights (as : List AV) (post : BV → Prop) : Prop := ∃ (N : Nat), as = [.im (.int (N : Int))] ∧ 1 ≤ N ∧ N ≤ 6 ∧ ∀ h : List Int, h.length = N → h.getD 0 0 = 0 → post (.im (.tup (h.map Dt.int)))
theorem has_law_heights (D : Df K mg "_law_heights" s_law_heights P_law_heights) (T : Tx mg) (G_law_draw : Has P w K mg base 1 "_law_draw" P_law_draw (spB K pre_law_draw)) : Has P w K mg base 2 "_law_heights" P_law_heights (spB K pre_law_heights) := by
  obtain ⟨f, fd, F, hm, hb⟩ := D
  refine hasB_of (k := 1) F hm sc_law_heights hb (by intro as post h; unfold pre_law_heights at h; repeat (first | (obtain ⟨e, _⟩ := h; rw [e]; rfl) | (obtain ⟨_, h⟩ := h))) fun cdv A outer s H E hr => ?_
  refine ⟨_, (pss_one (ps_ret (pe_op (kAdd (K := K) rfl) (pe_tup (pa_cons pe_int pa_nil)) (pe_callTy (kTup (K := K) rfl) (by rfl) T.tuple_ bb_tuple (pa_cons (pe_lc (own := [("_law_k", 2)]) rfl sc_law_heights.nd (pi_range1 (by rfl) T.range_ (pa_cons (pe_op op_subI (pv 1) pe_int) pa_nil)) (blkOk_by (own := [("_law_k", 2)]) (N := N_law_heights) (sc := defScope s_law_heights) (by decide +kernel)) (fun _ _ _ _ _ => (pg_name (i := 2) sc_law_heights.nd rfl (Or.inl rfl) (Or.inr rfl))) (fun _ _ _ _ _ => pts_nil) (fun _ _ _ _ _ => (pe_op op_subI (G_law_draw.pe (hr.mono (by omega)) (by rfl) (pa_cons (pv 0) (pa_cons pe_int pa_nil))) pe_int))) pa_nil))))), ?_⟩
  rintro bx dg ds as post g B ⟨N, rfl, h1, h6, hpost⟩
  walk_at "init"
  walk_at "gB"
  refine we_lc (wi_rng1 ?_)
  walk_at "gB"
  refine ⟨N - 1, by congr 2; omega, by omega, by omega, fun i acc F' => F' = FB bx dg ds ∧ ∃ l : List Int, acc = l.map Dt.int ∧ l.length = i, ⟨rfl, [], rfl, rfl⟩, fun _ _ _ _ _ => trivial, ?_, ?_⟩
  · rintro i r acc F' hi _ rfl ⟨rfl, l, rfl, rfl⟩
    refine ⟨_, gn_name, wt_yes ⟨fun _ => ?_, fun h => by cases h⟩⟩
    walk_at "gB"
    refine we_callB B ?_
    walk_at "gB"
    refine ⟨_, _, rfl, rfl, .cons (.im _) .nil, 41, rfl, by decide, fun r h0 h1 => ?_⟩
    walk_at "gB"
    refine ⟨.refl _, rfl, l ++ [r - 20], by rw [List.map_append]; rfl, by simp⟩
  · rintro acc F' hl ⟨rfl, l, rfl, hll⟩ a
    walk_at "gB"
    refine rr_addt (by simp; omega) ?_
    exact ⟨rfl, .inl ⟨_, rfl, hpost (0 :: l) (by rw [List.length_cons]; omega) rfl⟩⟩
def pre_law_some (as : List AV) (post : BV → Prop) : Prop := ∃ (N k : Nat), as = [.im (.int (N : Int)), .im (.int (k : Int))] ∧ k ≤ 3 ∧ ∀ l : List Int, l.length ≤ k → (∀ x ∈ l, 0 ≤ x ∧ x < N) → post (.ls (l.map Dt.int))
theorem has_law_some (D : Df K mg "_law_some" s_law_some P_law_some) (T : Tx mg) (G_law_draw : Has P w K mg base 1 "_law_draw" P_law_draw (spB K pre_law_draw)) : Has P w K mg base 2 "_law_some" P_law_some (spB K pre_law_some) := by
  obtain ⟨f, fd, F, hm, hb⟩ := D
  refine hasB_of (k := 1) F hm sc_law_some hb (by intro as post h; unfold pre_law_some at h; repeat (first | (obtain ⟨e, _⟩ := h; rw [e]; rfl) | (obtain ⟨_, h⟩ := h))) fun cdv A outer s H E hr => ?_
  refine ⟨_, (pss_cons (ps_set (i := 3) sc_law_some.nd rfl (Or.inl rfl) (pe_lst pa_nil))
      (pss_cons (ps_for PassesOwn.never rfl (pi_range1 (by rfl) T.range_ (pa_cons (pe_callB (call_min2Q rfl) (by rfl) T.min_ bb_min (pa_cons (pv 2) (pa_cons (pv 1) pa_nil))) pa_nil)) (pg_name (i := 4) sc_law_some.nd rfl (Or.inl rfl) (Or.inl rfl)) (pss_cons (ps_set (i := 5) sc_law_some.nd rfl (Or.inl rfl) (G_law_draw.pe (hr.mono (by omega)) (by rfl) (pa_cons (pv 0) (pa_cons (pv 1) pa_nil))))
      (pss_one (ps_if (pt_cmpR (kNotIn (K := K) rfl hr.u65) (pv 5) (pv 3) (by rfl)) (pss_one (ps_expr (pe_bm PySem.F.plainAttrs_list PySem.F.slot_list_append PySem.F.type_list_append mt_append (pv 3) (pa_cons (pv 5) pa_nil)))) pss_nil))))
      (pss_one (ps_ret (pe_callB (kSorted (K := K) rfl) (by rfl) T.sorted_ bb_sorted (pa_cons (pv 3) pa_nil)))))), ?_⟩
  rintro bx dg ds as post g B ⟨N, k, rfl, hk3, hpost⟩
  walk_at "init"
  walk_at "gB"
  intro a
  walk_at "gB"
  refine ws_for (wi_rng1 ?_)
  walk_at "gB"
  refine rc_min2 ?_
  refine ⟨min k N, by congr 2; split <;> omega, by omega, ?_⟩
  refine ⟨fun i F' δ' M' => F' = FB bx dg ds ∧ ∃ l : List Int, ∃ r4 r5, δ' = [some (.ad (.ref bx)), some (.im (.int (N : Int))), some (.im (.int (k : Int))), some (.ad (.ref a)), r4, r5] ∧ M' = [(a, l.map Dt.int)] ∧ l.length ≤ i ∧ ∀ x ∈ l, 0 ≤ x ∧ x < N, ⟨rfl, [], _, _, rfl, rfl, Nat.le_refl _, fun x h => by cases h⟩, fun _ _ _ _ _ _ => trivial, ?_, ?_⟩
  · rintro i x F' δ' M' hi rfl ⟨rfl, l, r4, r5, rfl, rfl, hl, hx⟩
    walk_at "gB"
    refine we_callB B ?_
    walk_at "gB"
    refine ⟨_, _, rfl, rfl, .cons (.im _) .nil, N, rfl, by omega, fun r h0 h1 => ?_⟩
    walk_at "gB"
    refine ws_if ?_
    walk_at "gB"
    refine rr_notinl lk0 ?_
    walk_at "gB"
    refine ⟨fun _ => ?_, fun _ => ?_⟩
    · walk_at "gB"
      refine ⟨_, _, rfl, lk0, ?_⟩
      walk_at "gB"
      refine app_ownI (k := 0) rfl (by omega) ?_
      refine ⟨rfl, l ++ [r], _, _, rfl, rfl, by rw [List.length_append]; simp; omega, fun x h => ?_⟩
      rcases List.mem_append.mp h with h | h
      · exact hx x h
      · cases List.mem_singleton.mp h; exact ⟨h0, h1⟩
    · walk_at "gB"
      exact ⟨rfl, l, _, _, rfl, rfl, by omega, hx⟩
  · rintro F' δ' M' ⟨rfl, l, r4, r5, rfl, rfl, hl, hx⟩
    walk_at "gB"
    refine rc_sorted lk0 fun n ns' hp _ => ?_
    refine ⟨rfl, .inr ⟨_, _, rfl, List.mem_cons_self, hpost ns' (by rw [hp.length_eq]; omega) fun x h => hx x (hp.mem_iff.mp h)⟩⟩
def pre_law_lied (as : List AV) (post : BV → Prop) : Prop := ∃ (n : Net) (k : Nat), as = [.im (netD n), .im (.int (k : Int))] ∧ n.ok ∧ k ≤ 3 ∧ ∀ n' is, Chg n n' is → is.length ≤ k → post (.im (netD n'))
theorem has_law_lied (D : Df K mg "_law_lied" s_law_lied P_law_lied) (T : Tx mg) (G_law_some : Has P w K mg base 2 "_law_some" P_law_some (spB K pre_law_some)) (G_law_draw : Has P w K mg base 1 "_law_draw" P_law_draw (spB K pre_law_draw)) (G_law_changed : Has P w K mg base 1 "_law_changed" P_law_changed (spP K pre_law_changed)) : Has P w K mg base 3 "_law_lied" P_law_lied (spB K pre_law_lied) := by
  obtain ⟨f, fd, F, hm, hb⟩ := D
  refine hasB_of (k := 2) F hm sc_law_lied hb (by intro as post h; unfold pre_law_lied at h; repeat (first | (obtain ⟨e, _⟩ := h; rw [e]; rfl) | (obtain ⟨_, h⟩ := h))) fun cdv A outer s H E hr => ?_
  refine ⟨_, (pss_cons (ps_setLc (i := 3) (own := [("_law_index", 4)]) rfl sc_law_lied.nd rfl rfl (sw_true rfl rfl rfl (by decide +kernel)) (kiList (K := K) rfl (G_law_some.pe (hr.mono (by omega)) (by rfl) (pa_cons (pv 0) (pa_cons (pe_callB (kLen (K := K) rfl) (by rfl) T.len_ bb_len (pa_cons (pe_ix (kIx (K := K) rfl) (pv 1) pe_int (fun _ _ => rfl)) pa_nil)) (pa_cons (pv 2) pa_nil))))) (blkOk_by (own := [("_law_index", 4)]) (N := N_law_lied) (sc := defScope s_law_lied) (by decide +kernel)) (fun _ _ _ _ _ => (pg_name (i := 4) sc_law_lied.nd rfl (Or.inl rfl) (Or.inr rfl))) (fun _ _ _ _ _ => pts_nil) (fun _ _ _ _ _ => (pe_tup (pa_cons (pv 4) (pa_cons (pe_op (kMul (K := K) rfl) (pe_op (kAdd (K := K) rfl) pe_int (G_law_draw.pe (hr.mono (by omega)) (by rfl) (pa_cons (pv 0) (pa_cons pe_int pa_nil)))) (pe_op op_subI (pe_op (kMul (K := K) rfl) pe_int (G_law_draw.pe (hr.mono (by omega)) (by rfl) (pa_cons (pv 0) (pa_cons pe_int pa_nil)))) pe_int)) pa_nil)))))
      (pss_one (ps_ret (G_law_changed.pe (hr.mono (by omega)) (by rfl) (pa_cons (pv 1) (pa_cons (pv 3) pa_nil)))))), ?_⟩
  rintro bx dg ds as post g B ⟨n, k, rfl, ok, hk3, hpost⟩
  walk_at "init"
  walk_at "gB"
  refine we_lc (wi_list ?_)
  refine we_callB B ?_
  walk_at "gB"
  rw [List.length_map]
  refine ⟨_, _, rfl, rfl, .cons (.im _) (.cons (.im _) .nil), n.rs.length, k, rfl, hk3, fun l hl hx a => ?_⟩
  refine ⟨_, _, rfl, lk0, ?_⟩
  rw [List.length_map]
  refine ⟨by omega, fun i acc F' => F' = FB bx dg ds ∧ ∃ rows : List (Nat × Int), acc = rows.map (fun p => .tup [.int (p.1 : Int), .int p.2]) ∧ rows.length = i ∧ ∀ p ∈ rows, p.1 < n.rs.length, ⟨rfl, [], rfl, rfl, fun p h => by cases h⟩, fun _ _ _ _ _ => lk0, ?_, ?_⟩
  · rintro i r acc F' hi _ ⟨d, hd, rfl⟩ ⟨rfl, rows, rfl, rfl, hr⟩
    rw [List.getElem?_map, List.getElem?_eq_getElem hi] at hd
    cases hd
    obtain ⟨z0, z1⟩ := hx _ (List.getElem_mem hi)
    generalize l[rows.length] = z at z0 z1
    obtain ⟨z, rfl⟩ := Int.eq_ofNat_of_zero_le z0
    refine ⟨_, gn_name, wt_yes ⟨fun _ => ?_, fun h => by cases h⟩⟩
    walk_at "gB"
    refine we_callB B ?_
    walk_at "gB"
    refine ⟨_, _, rfl, rfl, .cons (.im _) .nil, 30, rfl, by decide, fun r h0 h1 => ?_⟩
    walk_at "gB"
    refine we_callB B ?_
    walk_at "gB"
    refine ⟨_, _, rfl, rfl, .cons (.im _) .nil, 2, rfl, by decide, fun r2 h2 h3 => ?_⟩
    walk_at "gB"
    refine rr_mul (.inl ⟨by decide, by decide⟩) ?_
    walk_at "gB"
    refine rr_mul (.inl ⟨by omega, by omega⟩) ?_
    walk_at "gB"
    refine ⟨.refl _, rfl, rows ++ [(z, (1 + r) * (2 * r2 - 1))], by rw [List.map_append]; rfl, by simp, fun p h => ?_⟩
    rcases List.mem_append.mp h with h | h
    · exact hr p h
    · cases List.mem_singleton.mp h
      show z < _
      omega
  · rintro acc F' hl2 ⟨rfl, rows, rfl, hrl, hr⟩ b
    walk_at "gB"
    refine ⟨_, .cons (.im _) (.cons (.ls lk0) .nil), n, rows, rfl, ok, hr, fun n' hc => ?_⟩
    exact ⟨rfl, .inl ⟨_, rfl, hpost n' _ hc (by rw [List.length_map]; omega)⟩⟩
theorem fmod_two {x N : Int} (h0 : 0 ≤ x) (h1 : x < 2 * N) : x.fmod N = if x < N then x else x - N := by
  rw [Int.fmod_eq_emod_of_nonneg _ (by omega)]
  split
  · rename_i h; exact Int.emod_eq_of_lt h0 h
  · rename_i h
    have e : x = (x - N) + N := by omega
    rw [e, Int.add_emod_right]
    rw [Int.emod_eq_of_lt (by omega) (by omega)]
    omega
def PsG (N : Nat) (ps : List (Nat × Nat)) : Prop := ∀ p ∈ ps, p.1 < N ∧ p.2 < N ∧ p.1 ≠ p.2
theorem PsG.ins {N : Nat} {ps : List (Nat × Nat)} (h : PsG N ps) {p : Nat × Nat} (hp : p.1 < N ∧ p.2 < N ∧ p.1 ≠ p.2) (i : Nat) : PsG N (ps.take i ++ [p] ++ ps.drop i) := fun q hq => by
  rcases List.mem_append.mp hq with hq | hq
  · rcases List.mem_append.mp hq with hq | hq
    · exact h q (List.mem_of_mem_take hq)
    · cases List.mem_singleton.mp hq; exact hp
  · exact h q (List.mem_of_mem_drop hq)
theorem ins_len {ps : List (Nat × Nat)} {p : Nat × Nat} {i : Nat} : (ps.take i ++ [p] ++ ps.drop i).length = ps.length + 1 := by
  rw [List.length_append, List.length_append, List.length_take, List.length_drop, List.length_singleton]; omega
theorem ins_map {ps : List (Nat × Nat)} {p : Nat × Nat} {i : Nat} : (ps.map prD).take i ++ [prD p] ++ (ps.map prD).drop i = (ps.take i ++ [p] ++ ps.drop i).map prD := by
  rw [List.map_append, List.map_append, List.map_take, List.map_drop]; rfl
theorem ins_own {c : Cn} {M : Mem} {N : Fp → Mem → Prop} {a : Addr} {ps : List (Nat × Nat)} {k : Nat} {F : Fp} {p : Nat × Nat} {i : Nat} {r : RV} (hr : r = .im (prD p)) (hk : M[k]? = some (a, ps.map prD)) (hi : i ≤ 100000) (hl : ps.length < 100000) (hn : N F (M.set k (a, (ps.take i ++ [p] ++ ps.drop i).map prD))) :
    ∃ ds d F4 M4, ∃ i' : Nat, RV.im (.int (i : Int)) = .im (.int (i' : Int)) ∧ r = .im d ∧ i' ≤ 100000 ∧ Wr c a F M ds (ds.take i' ++ [d] ++ ds.drop i') F4 M4 ∧ ds.length < 100000 ∧ N F4 M4 :=
  ⟨_, prD p, F, _, i, rfl, hr, hi, wrM _ hk, by rw [List.length_map]; exact hl, by rw [ins_map]; exact hn⟩
def pre_law_pairs (as : List AV) (post : BV → Prop) : Prop := ∃ (N x : Nat), as = [.im (.int (N : Int)), .im (.int (x : Int))] ∧ 2 ≤ N ∧ N ≤ 6 ∧ x ≤ 20 ∧ ∀ ps, PsOk N ps → post (.ls (ps.map prD))
theorem has_law_pairs (D : Df K mg "_law_pairs" s_law_pairs P_law_pairs) (T : Tx mg) (G_law_draw : Has P w K mg base 1 "_law_draw" P_law_draw (spB K pre_law_draw)) (G_law_pick : Has P w K mg base 2 "_law_pick" P_law_pick (spB K pre_law_pick)) : Has P w K mg base 3 "_law_pairs" P_law_pairs (spB K pre_law_pairs) := by
  obtain ⟨f, fd, F, hm, hb⟩ := D
  refine hasB_of (k := 2) F hm sc_law_pairs hb (by intro as post h; unfold pre_law_pairs at h; repeat (first | (obtain ⟨e, _⟩ := h; rw [e]; rfl) | (obtain ⟨_, h⟩ := h))) fun cdv A outer s H E hr => ?_
  refine ⟨_, (pss_cons (ps_set (i := 3) sc_law_pairs.nd rfl (Or.inl rfl) (pe_lst pa_nil))
      (pss_cons (ps_for PassesOwn.never rfl (pi_range2 (by rfl) T.range_ (pa_cons pe_int (pa_cons (pv 1) pa_nil))) (pg_name (i := 4) sc_law_pairs.nd rfl (Or.inl rfl) (Or.inl rfl)) (pss_cons (ps_set (i := 5) sc_law_pairs.nd rfl (Or.inl rfl) (G_law_draw.pe (hr.mono (by omega)) (by rfl) (pa_cons (pv 0) (pa_cons (pv 4) pa_nil))))
      (pss_one (ps_expr (pe_bm PySem.F.plainAttrs_list PySem.F.slot_list_insert PySem.F.type_list_insert mt_insertQ (pv 3) (pa_cons (G_law_draw.pe (hr.mono (by omega)) (by rfl) (pa_cons (pv 0) (pa_cons (pe_op (kAdd (K := K) rfl) (pe_callB (kLen (K := K) rfl) (by rfl) T.len_ bb_len (pa_cons (pv 3) pa_nil)) pe_int) pa_nil))) (pa_cons (G_law_pick.pe (hr.mono (by omega)) (by rfl) (pa_cons (pv 0) (pa_cons (pe_lst (pa_cons (pe_tup (pa_cons (pv 4) (pa_cons (pv 5) pa_nil))) (pa_cons (pe_tup (pa_cons (pv 5) (pa_cons (pv 4) pa_nil))) pa_nil))) pa_nil))) pa_nil)))))))
      (pss_cons (ps_for PassesOwn.never rfl (pi_range1 (by rfl) T.range_ (pa_cons (pv 2) pa_nil)) (pg_name (i := 6) sc_law_pairs.nd rfl (Or.inl rfl) (Or.inl rfl)) (pss_cons (ps_set (i := 7) sc_law_pairs.nd rfl (Or.inl rfl) (G_law_draw.pe (hr.mono (by omega)) (by rfl) (pa_cons (pv 0) (pa_cons (pv 1) pa_nil))))
      (pss_cons (ps_set (i := 8) sc_law_pairs.nd rfl (Or.inl rfl) (pe_op op_modI (pe_callTy call_intQ (by rfl) T.int_ bb_int (pa_cons (pe_op (kAdd (K := K) rfl) (pe_op (kAdd (K := K) rfl) (pv 7) pe_int) (G_law_draw.pe (hr.mono (by omega)) (by rfl) (pa_cons (pv 0) (pa_cons (pe_op op_subI (pv 1) pe_int) pa_nil)))) pa_nil)) (pv 1)))
      (pss_one (ps_expr (pe_bm PySem.F.plainAttrs_list PySem.F.slot_list_insert PySem.F.type_list_insert mt_insertQ (pv 3) (pa_cons (G_law_draw.pe (hr.mono (by omega)) (by rfl) (pa_cons (pv 0) (pa_cons (pe_op (kAdd (K := K) rfl) (pe_callB (kLen (K := K) rfl) (by rfl) T.len_ bb_len (pa_cons (pv 3) pa_nil)) pe_int) pa_nil))) (pa_cons (pe_tup (pa_cons (pv 7) (pa_cons (pv 8) pa_nil))) pa_nil))))))))
      (pss_one (ps_ret (pv 3)))))), ?_⟩
  rintro bx dg ds as post g B ⟨N, x, rfl, h2, h6, hx, hpost⟩
  walk_at "init"
  walk_at "gB"
  intro a
  walk_at "gB"
  refine ws_forW (wi_rng2 ?_)
  walk_at "gB"
  refine ⟨1, N - 1, rfl, by congr 2; omega, by omega, by omega, by omega, ?_⟩
  refine ⟨fun i F' δ' M' => F' = FB bx dg ds ∧ ∃ ps : List (Nat × Nat), ∃ r4 r5 r6 r7 r8, δ' = [some (.ad (.ref bx)), some (.im (.int (N : Int))), some (.im (.int (x : Int))), some (.ad (.ref a)), r4, r5, r6, r7, r8] ∧ M' = [(a, ps.map prD)] ∧ ps.length ≤ i ∧ PsG N ps, ⟨_, .refl _, rfl, [], _, _, _, _, _, rfl, rfl, Nat.le_refl _, fun p h => by cases h⟩, fun _ _ _ _ _ _ _ _ => trivial, ?_, ?_⟩
  · rintro i y F' δ' M' hi rfl ⟨rfl, ps, r4, r5, r6, r7, r8, rfl, rfl, hl, hg⟩
    walk_at "gB"
    refine we_callB B ?_
    walk_at "gB"
    refine ⟨_, _, rfl, rfl, .cons (.im _) .nil, 1 + (i : Int), rfl, by omega, fun r h0 h1 => ?_⟩
    obtain ⟨r, rfl⟩ := Int.eq_ofNat_of_zero_le h0
    walk_at "gB"
    refine ⟨_, _, rfl, lk0, ?_⟩
    refine we_callB B ?_
    walk_at "gB"
    rw [List.length_map]
    refine ⟨_, _, rfl, rfl, .cons (.im _) .nil, (ps.length : Int) + 1, rfl, by omega, fun s h2 h3 => ?_⟩
    obtain ⟨s, rfl⟩ := Int.eq_ofNat_of_zero_le h2
    refine we_callB B ?_
    walk_at "gB"
    intro l
    walk_at "gB"
    refine ⟨_, _, rfl, rfl, .cons (.ls List.mem_cons_self) .nil, _, rfl, by show 1 ≤ 2; decide, fun d hd => ?_⟩
    have hd' : ∃ p : Nat × Nat, d = prD p ∧ p.1 < N ∧ p.2 < N ∧ p.1 ≠ p.2 := by
      rcases List.mem_cons.mp hd with rfl | hd
      · exact ⟨(i + 1, r), by show _ = Dt.tup [.int ((i + 1 : Nat) : Int), .int (r : Int)]; rw [show ((i + 1 : Nat) : Int) = 1 + (i : Int) by omega], by show i + 1 < N; omega, by show r < N; omega, by show i + 1 ≠ r; omega⟩
      · cases List.mem_singleton.mp hd
        exact ⟨(r, i + 1), by show _ = Dt.tup [.int (r : Int), .int ((i + 1 : Nat) : Int)]; rw [show ((i + 1 : Nat) : Int) = 1 + (i : Int) by omega], by show r < N; omega, by show i + 1 < N; omega, by show r ≠ i + 1; omega⟩
    obtain ⟨p, rfl, hp⟩ := hd'
    refine ins_own (k := 1) rfl rfl (by omega) (by omega) ?_
    exact ⟨_, .cons _ (.refl _), rfl, ps.take s ++ [p] ++ ps.drop s, _, _, _, _, _, rfl, rfl, by rw [ins_len]; omega, hg.ins hp s⟩
  · rintro F' δ' M' M3 hs ⟨rfl, ps, r4, r5, r6, r7, r8, rfl, rfl, hl, hg⟩
    refine ws_weak hs ?_
    walk_at "gB"
    refine ws_forW (wi_rng1 (we_var rfl ?_))
    refine ⟨x, rfl, by omega, ?_⟩
    refine ⟨fun i F' δ' M' => F' = FB bx dg ds ∧ ∃ ps : List (Nat × Nat), ∃ r4 r5 r6 r7 r8, δ' = [some (.ad (.ref bx)), some (.im (.int (N : Int))), some (.im (.int (x : Int))), some (.ad (.ref a)), r4, r5, r6, r7, r8] ∧ M' = [(a, ps.map prD)] ∧ ps.length ≤ 6 + i ∧ PsG N ps, ⟨_, .refl _, rfl, ps, _, _, _, _, _, rfl, rfl, by omega, hg⟩, fun _ _ _ _ _ _ _ _ => trivial, ?_, ?_⟩
    · rintro i y F' δ' M' hi rfl ⟨rfl, ps, r4, r5, r6, r7, r8, rfl, rfl, hl, hg⟩
      walk_at "gB"
      refine we_callB B ?_
      walk_at "gB"
      refine ⟨_, _, rfl, rfl, .cons (.im _) .nil, (N : Int), rfl, by omega, fun r h0 h1 => ?_⟩
      obtain ⟨r, rfl⟩ := Int.eq_ofNat_of_zero_le h0
      walk_at "gB"
      refine we_callB B ?_
      walk_at "gB"
      refine ⟨_, _, rfl, rfl, .cons (.im _) .nil, (N : Int) - 1, rfl, by omega, fun d h2 h3 => ?_⟩
      walk_at "gB"
      refine rr_mod (by omega) ?_
      have he := fmod_two (x := (r : Int) + 1 + d) (N := N) (by omega) (by omega)
      generalize ((r : Int) + 1 + d).fmod N = e at he
      have he1 : 0 ≤ e ∧ e < N ∧ e ≠ r := by split at he <;> omega
      obtain ⟨e, rfl⟩ := Int.eq_ofNat_of_zero_le he1.1
      walk_at "gB"
      refine ⟨_, _, rfl, lk0, ?_⟩
      refine we_callB B ?_
      walk_at "gB"
      rw [List.length_map]
      refine ⟨_, _, rfl, rfl, .cons (.im _) .nil, (ps.length : Int) + 1, rfl, by omega, fun s h2 h3 => ?_⟩
      obtain ⟨s, rfl⟩ := Int.eq_ofNat_of_zero_le h2
      walk_at "gB"
      refine ins_own (p := (r, e)) (k := 0) rfl rfl (by omega) (by omega) ?_
      exact ⟨_, .refl _, rfl, ps.take s ++ [(r, e)] ++ ps.drop s, _, _, _, _, _, rfl, rfl, by rw [ins_len]; omega, hg.ins ⟨by show r < N; omega, by show e < N; omega, by show r ≠ e; omega⟩ s⟩
    · rintro F' δ' M' M3 hs ⟨rfl, ps, r4, r5, r6, r7, r8, rfl, rfl, hl, hg⟩
      refine ws_weak hs ?_
      walk_at "gB"
      exact ⟨rfl, .inr ⟨_, _, rfl, List.mem_cons_self, hpost ps ⟨by omega, fun p hp => (hg p hp).1, fun p hp => (hg p hp).2.1, fun p hp => (hg p hp).2.2⟩⟩⟩
end
end TL

set_option Elab.async false
set_option linter.all false
set_option autoImplicit false
set_option maxRecDepth 100000
set_option maxHeartbeats 4000000
namespace TL
open PySem PySem.Spec PyProof.Rows L2
local macro_rules | `(tactic| walk_at "lk") => `(tactic| first | assumption | exact lk0 | exact lk1 | exact lk2 | exact lk3 | exact lk4 | exact lr0 | exact lr1 | exact lkH | exact lkF)
/-! one step of the walk: by the reading's head; all else is left -/
local macro_rules | `(tactic| walk_at "s0") => `(tactic| first
  | with_reducible refine ws_seq ?_
  | with_reducible refine ws_pop0 ?_
  | with_reducible refine ws_append ?_
  | with_reducible refine ws_insert ?_
  | with_reducible refine ws_set ?_
  | with_reducible refine ws_drop ?_
  | with_reducible refine ws_ret ?_
  | with_reducible refine ws_asg ?_
  | with_reducible refine ws_next ?_
  | with_reducible refine wg_name ?_
  | with_reducible refine wgs_nameM ?_
  | with_reducible refine wgs_nilM ?_
  | ((with_reducible refine' wg_tup ?h ?k); (case h => exact rfl))
  | with_reducible refine wg_sub ?_
  | with_reducible refine we_andV ?_
  | with_reducible refine we_notV ?_
  | with_reducible refine rc_isi isi_int ?_
  | with_reducible refine rc_isi isi_intb ?_
  | with_reducible refine rc_isi isi_tup ?_
  | with_reducible refine we_orV ?_
  | with_reducible refine we_chain ?_
  | with_reducible refine we_call ?_
  | with_reducible refine rr_eqI ?_
  | ((with_reducible refine' we_var ?h ?k); (case h => exact rfl))
  | with_reducible refine we_int ?_
  | ((with_reducible refine' we_fNv ?m ?h ?k); (case m => assumption); (case h => exact rfl))
  | ((with_reducible refine' we_fWv ?m ?h ?k); (case m => assumption); (case h => exact rfl))
  | ((with_reducible refine' we_fMv ?m ?h ?k); (case m => assumption); (case h => exact rfl))
  | ((with_reducible refine' we_fHv ?m ?h ?k); (case m => assumption); (case h => exact rfl))
  | ((with_reducible refine' we_fFv ?m ?h ?k); (case m => assumption); (case h => exact rfl))
  | with_reducible refine we_str ?_
  | with_reducible refine we_non ?_
  | with_reducible refine we_bl ?_
  | with_reducible refine we_ty ?_
  | with_reducible refine we_op ?_
  | with_reducible refine we_un ?_
  | with_reducible refine we_neg ?_
  | with_reducible refine we_cb ?_
  | with_reducible refine wa_cons ?_
  | with_reducible refine wa_nil ?_
  | with_reducible refine wt_test ?_
  | with_reducible refine wt_B ?_
  | with_reducible refine wt_yes ?_
  | with_reducible refine wt_not ?_
  | with_reducible refine wt_and ?_
  | with_reducible refine wt_or ?_
  | with_reducible refine rr_add ?_
  | with_reducible refine rr_sub ?_
  | with_reducible refine rr_lt ?_
  | with_reducible refine rr_le ?_
  | with_reducible refine rr_gt ?_
  | with_reducible refine rr_ge ?_
  | with_reducible refine rr_isN ?_
  | with_reducible refine rr_eqI ?_
  | with_reducible refine rr_neI ?_
  | with_reducible refine rr_neB ?_
  | with_reducible refine rr_int ?_
  | with_reducible refine rr_notN ?_
  | with_reducible refine rc_abs ?_
  | with_reducible refine rc_inti ?_
  | with_reducible refine rc_intb ?_
  | with_reducible refine rc_lent ?_
  | ((with_reducible refine' rr_ixt ?h ?k); (case h => first | assumption | exact rfl))
  | ((with_reducible refine' rr_ixl ?l ?h ?k); (case l => walk_at "lk"); (case h => first | assumption | exact rfl))
  | ((with_reducible refine' rc_lenl ?l ?k); (case l => walk_at "lk"))
  | with_reducible refine rc_lstt ?_
  | ((with_reducible refine' rc_lstl ?l ?k); (case l => walk_at "lk"))
  | ((with_reducible refine' rc_tupl ?l ?k); (case l => walk_at "lk"))
  | with_reducible refine we_sl ?_
  | with_reducible refine wo_none ?_
  | with_reducible refine wo_some ?_
  | with_reducible refine we_tup ?_
  | with_reducible refine we_lst ?_
  | refine ⟨[], rfl, Nat.le_of_ble_eq_true rfl, ?_⟩
  | refine ⟨[_], rfl, Nat.le_of_ble_eq_true rfl, ?_⟩
  | refine ⟨[_, _], rfl, Nat.le_of_ble_eq_true rfl, ?_⟩
  | refine ⟨[_, _, _], rfl, Nat.le_of_ble_eq_true rfl, ?_⟩
  | refine ⟨[_, _, _, _], rfl, Nat.le_of_ble_eq_true rfl, ?_⟩
  | refine ⟨[_, _, _, _, _], rfl, Nat.le_of_ble_eq_true rfl, ?_⟩
  | refine ⟨_, rfl, ?_⟩)
local macro_rules | `(tactic| walk_at "init") => `(tactic| simp only [δS, cxK, cxK2, entR, entM, List.map_cons, List.map_nil, List.length_cons, List.length_nil, List.replicate, List.cons_append, List.nil_append, Nat.reduceAdd, Nat.reduceSub])
local macro_rules | `(tactic| walk_at "seti0") => `(tactic| (refine' set_ownI (k := 0) ?hk ?hj ?hi ?hn; (case hk => exact rfl); (case hi => exact rfl)))
local macro_rules | `(tactic| walk_at "set0") => `(tactic| (refine' set_own (k := 0) ?hk ?hj ?hi ?hn; (case hk => exact rfl); (case hi => exact rfl)))
local macro_rules | `(tactic| walk_at "seti1") => `(tactic| (refine' set_ownI (k := 1) ?hk ?hj ?hi ?hn; (case hk => exact rfl); (case hi => exact rfl)))
local macro_rules | `(tactic| walk_at "set1") => `(tactic| (refine' set_own (k := 1) ?hk ?hj ?hi ?hn; (case hk => exact rfl); (case hi => exact rfl)))
local macro_rules | `(tactic| walk_at "seti2") => `(tactic| (refine' set_ownI (k := 2) ?hk ?hj ?hi ?hn; (case hk => exact rfl); (case hi => exact rfl)))
local macro_rules | `(tactic| walk_at "set2") => `(tactic| (refine' set_own (k := 2) ?hk ?hj ?hi ?hn; (case hk => exact rfl); (case hi => exact rfl)))
local macro_rules | `(tactic| walk_at "s1") => `(tactic| first | with_reducible refine ws_if ?_ | walk_at "s0")
local macro_rules | `(tactic| walk_at "gj") => `(tactic| repeat walk_at "s0")
local macro_rules | `(tactic| walk_at "go") => `(tactic| repeat walk_at "s1")
local macro_rules | `(tactic| walk_at "sB") => `(tactic| first
  | ((refine' wg_bx ?b ?h ?p ?k); (case b => assumption); (case h => exact rfl); (case p => omega))
  | walk_at "s0")
local macro_rules | `(tactic| walk_at "gB") => `(tactic| repeat walk_at "sB")
section
variable {P : Program} {w : World} {K : PySem.W.Frag} {mg : Str → Option Value} {base : Heap}
theorem ws_box {H : Hp} {a : Addr} {s : List Int} {rest : TS} {N : PN} {post : BV → Prop} {tl : List (Option RV)}
    (hrest : ∀ H2 bx dg ds, Bx (cB K H2 bx []) bx dg ds → Ws (cB K H2 bx []) rest (FB bx dg ds) (some (.ad (.ref a)) :: some (.ad (.ref bx)) :: tl) [] (fun _ _ _ => False) (fun r F' M' => F' = FB bx dg ds ∧ ∃ y, r = .im y ∧ post (.im y))) :
    Ws (cnP K H [(a, s.map Dt.int)]) (tSeq (tAsg (tLst (tCons (tCall (spP K pre_law_digits) [] E0 (tCons (tVar 0) (tCons (tC (.int 0)) (tCons (tC (.int 63)) tNil)))) (tCons (tC (.int 0)) tNil))) (gName 1)) rest) Tr (some (.ad (.ref a)) :: none :: tl) [] N (Rt post) := fun σ H1 D e sl nx rt => by
  have hA : Wa (cnP K H [(a, s.map Dt.int)]) (tCons (tCall (spP K pre_law_digits) [] E0 (tCons (tVar 0) (tCons (tC (.int 0)) (tCons (tC (.int 63)) tNil)))) (tCons (tC (.int 0)) tNil)) Tr (some (.ad (.ref a)) :: none :: tl) [] (fun rs F1 M1 => ∃ (dg : Addr) (ds : List Int), rs = [.ad (.ref dg), .im (.int 0)] ∧ M1 = [(dg, ds.map Dt.int)]) := by
    walk_at "gj"
    refine ⟨_, .cons (.ls lr0) (.cons (.im _) (.cons (.im _) .nil)), s, rfl, fun ds dg => ?_⟩
    walk_at "gj"
    exact ⟨dg, ds, rfl, rfl⟩
  unfold tSeq tAsg tLst
  refine hA σ H1 _ e sl fun rs F1 M1 vs H2 p e2 s2 v2 => ?_
  obtain ⟨dg, ds, rfl, rfl⟩ := p
  cases v2 with
  | cons h1 v2 =>
  cases v2 with
  | cons h2 v2 =>
  cases v2
  have h1' := h1
  obtain rfl := rp_int h2
  subst h1'
  refine ⟨by show 2 ≤ _; decide, fun bx hbx => ?_⟩
  obtain ⟨_, us, hu, ru⟩ := e2.mm _ List.mem_cons_self
  have hus := rpl_ints ru
  subst hus
  have hne : dg ≠ bx := fun q => by rw [← q] at hbx; rw [hbx] at hu; cases hu
  have hf : FB bx dg ds (upd H2 bx (.lst [.ref dg, .int 0])) := ⟨0, Int.le_refl _, upd_same, by rw [upd_ne hne]; exact hu⟩
  have sm2 : Stay (cnP K H [(a, s.map Dt.int)]) H1 (upd H2 bx (.lst [.ref dg, .int 0])) := s2.trans (Stay.new hbx)
  have e0 := heB_start (K := K) (R := []) hf (fun p hp => nomatch hp)
  refine hrest _ bx dg ds (bx_start hne hf) _ _ D e0 ((sl.tp (e.tp sm2)).set 1 (r := .ad (.ref bx)) rfl) (fun F' δ' M' σ' H' z _ _ _ => z.elim) (fun r F' M' v H' hr e3 hv => ?_)
  obtain ⟨rfl, y, rfl, hp⟩ := hr
  refine rt _ Tr [] v H' (.inl ⟨y, rfl, hp⟩) ⟨fun b o z nb => ?_, fun b hb => hb.elim, fun _ _ => trivial, fun p hp => (nomatch hp), List.nodup_nil, e.rd⟩ hv
  have z1 := e.st b o z nb
  have z2 := s2 b o z1 nb
  exact e3.st b o (sm2 b o z1 nb) fun q => by
    have q' : b = bx := q
    rw [q', hbx] at z2; cases z2
def pre_law (as : List AV) (post : BV → Prop) : Prop := ∃ (s : List Int), as = [.ls (s.map Dt.int)] ∧ post (.im (.bl true))
theorem fnok_of {k : Nat} {x qual : Str} {params : Arguments} {body : List Stmt} {scope : Scope} {f : Addr} {fd : FuncData} {N ps : List Str} {pre : List AV → (BV → Prop) → Prop}
    (F : FunD K x qual params body scope [] [] f fd) (S : FnScope N ps scope) (len : ∀ as post, pre as post → as.length = ps.length)
    (hbody : ∀ (cdv : Value) (A : Around) (outer : List Env) (s : Shared) (H : Hp) (E : XK), Room k (A.deeper (envOfC qual scope s.heap.objs.size f cdv)) →
      ∃ t, PSs (cxOf CX0 P w K mg base N qual scope f cdv A outer s H E).nox body t ∧ ∀ as post g, pre as post → Ws (cnP K H (entM as g)) t Tr ((entR as g).map some ++ List.replicate (N.length - (entR as g).length) none) [] (fun _ _ _ => post (.im .non)) (Rt post)) : FnOk P w K mg base CX0 (k + 1) f fd ps (spP K pre) := by
  refine F.ok S (spP_len len) (fun cdv A outer s H vs Q E hr h => ?_)
  obtain ⟨t, ht, hw⟩ := hbody cdv A outer s H E hr
  exact ⟨t, ht.nox, spP_start h hw⟩
theorem ok_law {f : Addr} {fd : FuncData} (F : FunD K "law" "law" (defArgs s_law) (defBody s_law) (defScope s_law) [] [] f fd) (T : Tx mg) (G_law_digits : Has P w K mg base 2 "_law_digits" P_law_digits (spP K pre_law_digits)) (G_law_draw : Has P w K mg base 1 "_law_draw" P_law_draw (spB K pre_law_draw)) (G_law_heights : Has P w K mg base 2 "_law_heights" P_law_heights (spB K pre_law_heights)) (G_law_pairs : Has P w K mg base 3 "_law_pairs" P_law_pairs (spB K pre_law_pairs)) (G_law_kept_net : Has P w K mg base 2 "_law_kept_net" P_law_kept_net (spP K pre_law_kept_net)) (G_law_lied : Has P w K mg base 3 "_law_lied" P_law_lied (spB K pre_law_lied)) (G_twins : Has P w K mg base 7 "twins" P_twins (spP K pre_twins)) (G_worlds : Has P w K mg base 9 "worlds" P_worlds (spP K pre_worlds)) (G_most_lies : Has P w K mg base 6 "most_lies" P_most_lies (spP K pre_most_lies)) (G_is_safe : Has P w K mg base 6 "is_safe" P_is_safe (spP K pre_is_safe)) (G_law_strength : Has P w K mg base 2 "_law_strength" P_law_strength (spP K pre_law_strength)) (G_law_twins_fit : Has P w K mg base 3 "_law_twins_fit" P_law_twins_fit (spP K pre_law_twins_fit)) (G_best_paper : Has P w K mg base 13 "best_paper" P_best_paper (spP K pre_best_paper)) (G_is_one : Has P w K mg base 15 "is_one" P_is_one (spP K pre_is_one)) (G_judge : Has P w K mg base 5 "judge" P_judge (spP K pre_judge)) (G_spans : Has P w K mg base 14 "spans" P_spans (spP K pre_spans)) (G_law_lies : Has P w K mg base 2 "_law_lies" P_law_lies (spP K pre_law_lies)) (G_verdicts : Has P w K mg base 10 "verdicts" P_verdicts (spP K pre_verdicts)) : FnOk P w K mg base CX0 16 f fd P_law (spP K pre_law) := by
  refine fnok_of (k := 15) F sc_law (by intro as post h; unfold pre_law at h; repeat (first | (obtain ⟨e, _⟩ := h; rw [e]; rfl) | (obtain ⟨_, h⟩ := h))) fun cdv A outer s H E hr => ?_
  refine ⟨_, (pss_cons (ps_set (i := 1) sc_law.nd rfl (Or.inl rfl) (pe_lst (pa_cons (G_law_digits.pe (hr.mono (by omega)) (by rfl) (pa_cons (pv 0) (pa_cons pe_int (pa_cons pe_int pa_nil)))) (pa_cons pe_int pa_nil))))
      (pss_cons (ps_set (i := 2) sc_law.nd rfl (Or.inl rfl) (pe_op (kAdd (K := K) rfl) pe_int (G_law_draw.pe (hr.mono (by omega)) (by rfl) (pa_cons (pv 1) (pa_cons pe_int pa_nil)))))
      (pss_cons (ps_set (i := 3) sc_law.nd rfl (Or.inl rfl) (G_law_heights.pe (hr.mono (by omega)) (by rfl) (pa_cons (pv 1) (pa_cons (pv 2) pa_nil))))
      (pss_cons (ps_set (i := 4) sc_law.nd rfl (Or.inl rfl) (G_law_kept_net.pe (hr.mono (by omega)) (by rfl) (pa_cons (G_law_pairs.pe (hr.mono (by omega)) (by rfl) (pa_cons (pv 1) (pa_cons (pv 2) (pa_cons (G_law_draw.pe (hr.mono (by omega)) (by rfl) (pa_cons (pv 1) (pa_cons pe_int pa_nil))) pa_nil)))) (pa_cons (pv 3) pa_nil))))
      (pss_cons (ps_set (i := 5) sc_law.nd rfl (Or.inl rfl) (G_law_draw.pe (hr.mono (by omega)) (by rfl) (pa_cons (pv 1) (pa_cons pe_int pa_nil))))
      (pss_cons (ps_set (i := 6) sc_law.nd rfl (Or.inl rfl) (G_law_lied.pe (hr.mono (by omega)) (by rfl) (pa_cons (pv 1) (pa_cons (pv 4) (pa_cons (pv 5) pa_nil)))))
      (pss_cons (ps_set (i := 7) sc_law.nd rfl (Or.inl rfl) (pe_tup (pa_cons pe_str (pa_cons (pe_tup (pa_cons pe_str pa_nil)) (pa_cons (pe_tup pa_nil) pa_nil)))))
      (pss_cons (ps_if (PW.pt (pw_or (pt_not (pt_val (G_is_safe.pe (hr.mono (by omega)) (by rfl) (pa_cons (pv 7) (pa_cons (pv 5) pa_nil))))) (pw_or (pt_cmpR (kNe (K := K) rfl hr.units) (G_most_lies.pe (hr.mono (by omega)) (by rfl) (pa_cons (pv 7) pa_nil)) (pe_un un_neg pe_int) (nomark _)) (pw_or (pt_cmpR (kNe (K := K) rfl hr.units) (G_worlds.pe (hr.mono (by omega)) (by rfl) (pa_cons (pv 7) (pa_cons (pv 5) pa_nil))) (pe_tup (pa_cons (pe_tup (pa_cons pe_int pa_nil)) pa_nil)) (nomark _)) (pw_or1 (pt_cmpR (kNe (K := K) rfl hr.units) (G_twins.pe (hr.mono (by omega)) (by rfl) (pa_cons (pv 7) (pa_cons (pv 5) pa_nil))) (pe_tup pa_nil) (nomark _))))))) (pss_one (ps_ret pe_bl)) pss_nil)
      (pss_cons (ps_set (i := 8) sc_law.nd rfl (Or.inl rfl) (G_law_strength.pe (hr.mono (by omega)) (by rfl) (pa_cons (pv 6) pa_nil)))
      (pss_cons (ps_if (PW.pt (pw_or (pt_cmpR (kNe (K := K) rfl hr.units) (G_is_safe.pe (hr.mono (by omega)) (by rfl) (pa_cons (pv 6) (pa_cons (pv 5) pa_nil))) (pe_cmpR op_geI (pv 8) (pe_op (kAdd (K := K) rfl) (pe_op (kMul (K := K) rfl) pe_int (pv 5)) pe_int) (nomark _)) (nomark _)) (pw_or1 (pt_cmpR (kNe (K := K) rfl hr.units) (G_most_lies.pe (hr.mono (by omega)) (by rfl) (pa_cons (pv 6) pa_nil)) (pe_op op_divI (pe_op op_subI (pv 8) pe_int) pe_int) (nomark _))))) (pss_one (ps_ret pe_bl)) pss_nil)
      (pss_cons (ps_if (pt_cmpR op_ltI (pv 8) (pe_op (kAdd (K := K) rfl) (pe_op (kMul (K := K) rfl) pe_int (pv 5)) pe_int) (nomark _)) (pss_one (ps_ret (G_law_twins_fit.pe (hr.mono (by omega)) (by rfl) (pa_cons (pv 6) (pa_cons (pv 5) (pa_cons (G_twins.pe (hr.mono (by omega)) (by rfl) (pa_cons (pv 6) (pa_cons (pv 5) pa_nil))) pa_nil)))))) pss_nil)
      (pss_cons (ps_if (pt_cmpR (kNe (K := K) rfl hr.units) (G_twins.pe (hr.mono (by omega)) (by rfl) (pa_cons (pv 6) (pa_cons (pv 5) pa_nil))) (pe_tup pa_nil) (nomark _)) (pss_one (ps_ret pe_bl)) pss_nil)
      (pss_cons (ps_set (i := 9) sc_law.nd rfl (Or.inl rfl) (G_best_paper.pe (hr.mono (by omega)) (by rfl) (pa_cons (pv 6) pa_nil)))
      (pss_cons (ps_if (PW.pt (pw_or (pt_cmpR op_isNotB (G_judge.pe (hr.mono (by omega)) (by rfl) (pa_cons (pv 6) (pa_cons (pv 9) pa_nil))) pe_bl (nomark _)) (pw_or (pt_cmpR (kNe (K := K) rfl hr.units) (pe_ix (kIx (K := K) rfl) (pv 9) pe_int (fun _ _ => rfl)) (pv 3) (nomark _)) (pw_or1 (pt_cmpR op_isNotB (G_is_one.pe (hr.mono (by omega)) (by rfl) (pa_cons (pv 6) pa_nil)) pe_bl (nomark _)))))) (pss_one (ps_ret pe_bl)) pss_nil)
      (pss_cons (ps_if (PW.pt (pw_or (pt_cmpR (kNe (K := K) rfl hr.units) (G_spans.pe (hr.mono (by omega)) (by rfl) (pa_cons (pv 6) pa_nil)) (pe_callTy (kTup (K := K) rfl) (by rfl) T.tuple_ bb_tuple (pa_cons (pe_lc (own := [("_law_height", 11)]) rfl sc_law.nd (kiTup (K := K) rfl (pv 3)) (blkOk_by (own := [("_law_height", 11)]) (N := N_law) (sc := defScope s_law) (by decide +kernel)) (fun _ _ _ _ _ => (pg_name (i := 11) sc_law.nd rfl (Or.inl rfl) (Or.inr rfl))) (fun _ _ _ _ _ => pts_nil) (fun _ _ _ _ _ => (pe_tup (pa_cons (pv 11) (pa_cons (pv 11) pa_nil))))) pa_nil)) (nomark _)) (pw_or1 (pt_cmpR (kNe (K := K) rfl hr.units) (G_worlds.pe (hr.mono (by omega)) (by rfl) (pa_cons (pv 6) (pa_cons (pv 5) pa_nil))) (pe_tup (pa_cons (pv 3) pa_nil)) (nomark _))))) (pss_one (ps_ret pe_bl)) pss_nil)
      (pss_cons (ps_set (i := 10) sc_law.nd rfl (Or.inr rfl) (G_law_lies.pe (hr.mono (by omega)) (by rfl) (pa_cons (pv 6) (pa_cons (pv 3) pa_nil))))
      (pss_one (ps_ret (pe_cmpR (kEq (K := K) rfl hr.units) (G_verdicts.pe (hr.mono (by omega)) (by rfl) (pa_cons (pv 6) (pa_cons (pv 5) pa_nil))) (pe_callTy (kTup (K := K) rfl) (by rfl) T.tuple_ bb_tuple (pa_cons (pe_lc (own := [("_law_index", 12)]) rfl sc_law.nd (pi_range1 (by rfl) T.range_ (pa_cons (pe_callB (kLen (K := K) rfl) (by rfl) T.len_ bb_len (pa_cons (pe_ix (kIx (K := K) rfl) (pv 6) pe_int (fun _ _ => rfl)) pa_nil)) pa_nil)) (blkOk_by (own := [("_law_index", 12)]) (N := N_law) (sc := defScope s_law) (by decide +kernel)) (fun _ _ _ _ _ => (pg_name (i := 12) sc_law.nd rfl (Or.inl rfl) (Or.inr rfl))) (fun _ _ _ _ _ => pts_nil) (fun _ _ _ _ _ => (pe_ix (kIx (K := K) rfl) (pe_lst (pa_cons pe_str (pa_cons pe_str pa_nil))) (pe_callTy call_intQ (by rfl) T.int_ bb_int (pa_cons (pe_cmpR (kIn (K := K) rfl hr.u65) (pv 12) (pv 10) (by rfl)) pa_nil)) (fun _ _ => rfl)))) pa_nil)) (nomark _)))))))))))))))))))), ?_⟩
  rintro as post g ⟨s, rfl, hpost⟩
  have ok0 : (Dt.tup [.tup [.int 0]]).ok := ok_tup (fun x hx => by cases List.mem_singleton.mp hx; exact ok_intT (l := [0])) fun x hx => by
    cases List.mem_singleton.mp hx
    exact Nat.le_trans (dep_tup (k := 0) fun x hx => by cases List.mem_singleton.mp hx; rw [dep_int]; omega) (by omega)
  have okE : (Dt.tup []).ok := ok_intT (l := [])
  walk_at "init"
  refine ws_box fun H2 bx dg ds B => ?_
  walk_at "gB"
  refine we_callB B ?_
  walk_at "gB"
  refine ⟨_, _, rfl, rfl, .cons (.im _) .nil, 5, rfl, by decide, fun r h0 h1 => ?_⟩
  obtain ⟨r, rfl⟩ := Int.eq_ofNat_of_zero_le h0
  walk_at "gB"
  rw [show (2 : Int) + (r : Int) = ((r + 2 : Nat) : Int) by omega]
  have hN2 : 2 ≤ r + 2 := by omega
  have hN6 : r + 2 ≤ 6 := by omega
  generalize r + 2 = N at hN2 hN6
  refine we_callB B ?_
  walk_at "gB"
  refine ⟨_, _, rfl, rfl, .cons (.im _) .nil, N, rfl, by omega, by omega, fun h hl hz => ?_⟩
  walk_at "gB"
  refine we_callB B ?_
  walk_at "gB"
  refine we_callB B ?_
  walk_at "gB"
  refine ⟨_, _, rfl, rfl, .cons (.im _) .nil, 15, rfl, by decide, fun x hx0 hx1 => ?_⟩
  obtain ⟨x, rfl⟩ := Int.eq_ofNat_of_zero_le hx0
  walk_at "gB"
  refine ⟨_, _, rfl, rfl, .cons (.im _) (.cons (.im _) .nil), N, x, rfl, by omega, by omega, by omega, fun ps hps a => ?_⟩
  walk_at "gB"
  refine ⟨_, .cons (.ls lk0) (.cons (.im _) .nil), ps, h, rfl, by omega, by rw [hl]; exact hps, ?_⟩
  walk_at "gB"
  refine we_callB B ?_
  walk_at "gB"
  refine ⟨_, _, rfl, rfl, .cons (.im _) .nil, 4, rfl, by decide, fun k hk0 hk1 => ?_⟩
  obtain ⟨k, rfl⟩ := Int.eq_ofNat_of_zero_le hk0
  have hk3 : k ≤ 3 := by omega
  walk_at "gB"
  refine we_callB B ?_
  walk_at "gB"
  have kok : (keptNet ps h).ok := kept_ok (by rw [hl]; exact hps) (by omega) (by omega)
  refine ⟨_, _, rfl, rfl, .cons (.im _) (.cons (.im _) .nil), keptNet ps h, k, rfl, kok, hk3, fun n is hc hil => ?_⟩
  have nok : n.ok := hc.ok kok
  have nlen : n.names.length = h.length := by rw [hc.nm]; exact namesN_len
  have n2 : 2 ≤ n.names.length := by omega
  have n6 : n.names.length ≤ 6 := by omega
  have n1 : n.names.length ≠ 1 := by omega
  have oksN : Dt.oks (n.names.map Dt.str) := by rw [hc.nm]; exact namesN_ok (by omega)
  have hm2 := nok.m2
  walk_at "gB"
  refine ws_if ?_
  walk_at "gB"
  refine ⟨_, .cons (.im _) (.cons (.im _) .nil), loneN, k, rfl, lone_ok, fun _ => ?_, fun h => absurd rfl h⟩
  refine ⟨_, rfl, (fun h => by cases h), fun _ => ?_⟩
  walk_at "gB"
  refine ⟨_, .cons (.im _) .nil, loneN, rfl, lone_ok, fun _ => ?_, fun h => absurd rfl h⟩
  walk_at "gB"
  refine ⟨fun h => by simp at h, fun _ => ?_⟩
  walk_at "gB"
  refine ⟨_, .cons (.im _) (.cons (.im _) .nil), loneN, k, fun _ rows => rows = [row0 loneN], rfl, lone_ok, by decide, hk3, fun h => absurd rfl h, rfl, fun t rows rows' ht _ _ => absurd ht (by show ¬ t < 1 - 1; omega), fun t rows e r hr => ?_, fun rows e => ⟨by rw [e]; decide, ?_⟩⟩
  · rw [e] at hr
    cases List.mem_singleton.mp hr
    exact ⟨rfl, Nat.zero_le _⟩
  rw [e]
  walk_at "gB"
  refine rr_neO (x := .tup [.tup [.int 0]]) ok0 ok0 (fun _ => ?_) (fun h => absurd rfl h)
  refine ⟨_, rfl, (fun h => by cases h), fun _ => ?_⟩
  walk_at "gB"
  refine ⟨_, .cons (.im _) (.cons (.im _) .nil), loneN, k, rfl, lone_ok, fun _ => ?_, fun h => absurd rfl h⟩
  walk_at "gB"
  refine rr_neO okE okE (fun _ => ?_) (fun h => absurd rfl h)
  refine ⟨_, rfl, (fun h => by cases h), fun _ => ?_⟩
  walk_at "gB"
  refine ⟨_, .cons (.im _) .nil, n, rfl, nok, n2, n6, fun c S hS => ?_⟩
  walk_at "gB"
  refine ws_if ?_
  walk_at "gB"
  refine ⟨_, .cons (.im _) (.cons (.im _) .nil), n, k, rfl, nok, fun h => absurd h n1, fun _ c' S' hS' => ?_⟩
  obtain rfl := hS.uniq hS'
  walk_at "gB"
  refine rr_mul (.inl ⟨by decide, by decide⟩) ?_
  walk_at "gB"
  rw [dec_iff (q := ((2 * (k : Int) + 1 ≤ c))) (by omega), bne_self_eq_false]
  refine ⟨(fun h => by cases h), fun _ => ?_⟩
  walk_at "gB"
  refine ⟨_, .cons (.im _) .nil, n, rfl, nok, fun h => absurd h n1, fun _ c' S' hS' => ?_⟩
  obtain rfl := hS.uniq hS'
  walk_at "gB"
  refine rr_div ⟨by decide, by decide⟩ ?_
  walk_at "gB"
  refine ⟨fun h => by simp at h, fun _ => ?_⟩
  walk_at "gB"
  refine ws_if ?_
  walk_at "gB"
  refine rr_mul (.inl ⟨by decide, by decide⟩) ?_
  walk_at "gB"
  refine ⟨fun hB => ?_, fun hB => ?_⟩
  · have hlt : c < 2 * k + 1 := by have := of_decide_eq_true hB; omega
    walk_at "gB"
    refine ⟨_, .cons (.im _) (.cons (.im _) .nil), n, k, rfl, nok, fun h => absurd h n1, fun _ c' S' hS' => ⟨fun h => absurd (hS.uniq hS') (by omega), fun _ c2 S2 h2 => ?_⟩⟩
    rw [twA_eq]
    walk_at "gB"
    refine ⟨_, .cons (.im _) (.cons (.im _) (.cons (.im _) .nil)), n, k, S2, rfl, nok, n2, n6, oksN, h2.z, h2.on, by have := hS.uniq h2; have := h2.sz; omega, ?_⟩
    exact ⟨rfl, _, rfl, hpost⟩
  have hge : 2 * k + 1 ≤ c := by have := of_decide_eq_false hB; omega
  have T : Truth n k h := truth_of hc nok hz (by omega) (by omega) hk3 hil hS hge
  walk_at "gB"
  refine ws_if ?_
  walk_at "gB"
  refine ⟨_, .cons (.im _) (.cons (.im _) .nil), n, k, rfl, nok, fun h => absurd h n1, fun _ c' S' hS' => ⟨fun _ => ?_, fun h => absurd (hS.uniq hS') (by omega)⟩⟩
  walk_at "gB"
  refine rr_neO okE okE (fun _ => ?_) (fun h => absurd rfl h)
  refine ⟨_, rfl, (fun h => by cases h), fun _ => ?_⟩
  walk_at "gB"
  refine ⟨_, .cons (.im _) .nil, n, rfl, nok, fun p f hB => ?_⟩
  obtain rfl := T.best hB
  walk_at "gB"
  refine ws_if ?_
  walk_at "gB"
  refine ⟨_, .cons (.im _) (.cons (.im _) .nil), n, p, f, rfl, nok, T.hl, T.z, hB.fl, hB.fb, hB.ev, best_worth nok hB, ?_⟩
  walk_at "gB"
  refine rr_isNotB ?_
  refine ⟨_, rfl, (fun h => by cases h), fun _ => ?_⟩
  walk_at "gB"
  refine rr_neO ok_intT ok_intT (fun _ => ?_) (fun h => absurd rfl h)
  refine ⟨_, rfl, (fun h => by cases h), fun _ => ?_⟩
  walk_at "gB"
  refine ⟨_, .cons (.im _) .nil, n, p, rfl, nok, T.spanOk, ?_⟩
  walk_at "gB"
  refine rr_isNotB ?_
  refine ⟨_, rfl, (fun h => by cases h), fun _ => ?_⟩
  walk_at "gB"
  refine ws_if ?_
  walk_at "gB"
  refine ⟨_, .cons (.im _) .nil, n, p, rfl, nok, T.spanOk, ?_⟩
  walk_at "gB"
  refine we_lcpF (fun _ => true) (fun j => .tup [.int (p.getD j 0), .int (p.getD j 0)]) (wi_tup ?_)
  walk_at "gB"
  rw [List.length_map]
  refine ⟨by omega, trivial, fun j r hj ⟨d, hd, hr⟩ => ?_, fun b hl => ?_⟩
  · rw [List.getElem?_map, List.getElem?_eq_getElem hj] at hd
    cases hd
    subst hr
    have e : p.getD j 0 = p[j] := by rw [List.getD_eq_getElem?_getD, List.getElem?_eq_getElem hj]; rfl
    rw [e]
    refine ⟨_, gn_name, wt_yes ⟨rfl, rfl, .refl _, fun _ => ?_⟩⟩
    walk_at "gB"
    exact ⟨rfl, rfl, .refl _⟩
  rw [ixs_all, range_getD p 0 fun x => Dt.tup [.int x, .int x]]
  walk_at "gB"
  have okP : (Dt.tup (p.map fun x => Dt.tup [.int x, .int x])).ok := ok_tup (fun x hx => by
    obtain ⟨y, _, rfl⟩ := List.mem_map.mp hx
    exact ok_intT (l := [y, y])) fun x hx => by
    obtain ⟨y, _, rfl⟩ := List.mem_map.mp hx
    exact Nat.le_trans (dep_tup (k := 0) fun x hx => by
      obtain ⟨z, _, rfl⟩ := List.mem_map.mp (show x ∈ [y, y].map Dt.int from hx)
      rw [dep_int]; omega) (by omega)
  refine rr_neO okP okP (fun _ => ?_) (fun h => absurd rfl h)
  refine ⟨_, rfl, (fun h => by cases h), fun _ => ?_⟩
  walk_at "gB"
  obtain ⟨G, g0, gs, gr, ge⟩ := T.lone.go
  refine ⟨_, .cons (.im _) (.cons (.im _) .nil), n, k, G, rfl, nok, n6, hk3, T.lone.cut, g0, gs, gr, fun rows hG => ⟨by rw [ge rows hG]; show 1 ≤ 200; decide, ?_⟩⟩
  rw [ge rows hG, show [p.map some].map rowD = [.tup (p.map Dt.int)] by rw [List.map_cons, row_some]; rfl]
  walk_at "gB"
  have okW : (Dt.tup [.tup (p.map Dt.int)]).ok := ok_tup (fun x hx => by cases List.mem_singleton.mp hx; exact ok_intT) fun x hx => by
    cases List.mem_singleton.mp hx
    exact Nat.le_trans (dep_tup (k := 0) fun x hx => by
      obtain ⟨z, _, rfl⟩ := List.mem_map.mp hx
      rw [dep_int]; omega) (by omega)
  refine rr_neO okW okW (fun _ => ?_) (fun h => absurd rfl h)
  refine ⟨_, rfl, (fun h => by cases h), fun _ => ?_⟩
  walk_at "gB"
  refine ⟨_, .cons (.im _) (.cons (.im _) .nil), n, p, rfl, nok, T.hl, ?_⟩
  walk_at "gB"
  refine ⟨_, .cons (.im _) (.cons (.im _) .nil), n, k, p, rfl, nok, T.lone, ?_⟩
  walk_at "gB"
  refine we_lcpF (fun _ => true) (fun i => .str (if i ∈ ixs n.rs.length (n.lie p) then "lies" else "kept")) (wi_rng1 ?_)
  walk_at "gB"
  rw [List.length_map]
  refine ⟨by omega, by omega, trivial, fun j r hj hr => ?_, fun b hl => ?_⟩
  · subst hr
    refine ⟨_, gn_name, wt_yes ⟨rfl, rfl, .refl _, fun _ => ?_⟩⟩
    rw [natD_ints]
    walk_at "gB"
    intro l
    walk_at "gB"
    have hin : decide ((j : Int) ∈ (ixs n.rs.length (n.lie p)).map fun v : Nat => (v : Int)) = decide (j ∈ ixs n.rs.length (n.lie p)) := dec_iff ⟨fun h => by
      obtain ⟨v, hv, e⟩ := List.mem_map.mp h
      have : v = j := by omega
      exact this ▸ hv, fun h => List.mem_map.mpr ⟨j, h, rfl⟩⟩
    rw [hin]
    have i3 : atI [Dt.str "kept", .str "lies"] (if decide (j ∈ ixs n.rs.length (n.lie p)) = true then 1 else 0) = some (.str (if j ∈ ixs n.rs.length (n.lie p) then "lies" else "kept")) := by
      by_cases q : j ∈ ixs n.rs.length (n.lie p) <;> simp only [q, decide_true, decide_false, if_true, if_false] <;> rfl
    refine rr_ixl lk0 i3 ?_
    exact ⟨rfl, rfl, List.sublist_cons_self _ _⟩
  rw [ixs_all]
  walk_at "gB"
  have okV : (Dt.tup ((List.range n.rs.length).map fun i => Dt.str (if i ∈ ixs n.rs.length (n.lie p) then "lies" else "kept"))).ok := ok_tup (fun x hx => by
    obtain ⟨i, _, rfl⟩ := List.mem_map.mp hx
    refine ok_str ?_
    split <;> decide +kernel) fun x hx => by
    obtain ⟨i, _, rfl⟩ := List.mem_map.mp hx
    rw [dep_str]; omega
  refine rr_eqO okV okV (fun _ => ?_) (fun h => absurd rfl h)
  exact ⟨rfl, _, rfl, hpost⟩
end
end TL

set_option Elab.async false
set_option linter.all false
set_option autoImplicit false
set_option maxRecDepth 100000
set_option maxHeartbeats 0
namespace TL
open PySem PySem.Spec PyProof.Rows L2
section
variable {h : Heap} {K : PySem.W.Frag} {mg : Str → Option Value}
theorem df_of {x : Str} {st : Stmt} {ps : List Str} {fd : FuncData} (F : FunD K x x (defArgs st) (defBody st) (defScope st) [] [] (He.fAd K (x, none)) fd) (g : mg x = some (.ref (He.fAd K (x, none)))) (hb : L2.Binds K fd ps []) : Df K mg x st ps := ⟨_, _, F, g, hb⟩
theorem df_cut_of (X : K.In h) (G : h.Ns mainGlobals mg) (c : He.SaysD faAll fnAll K) : Df K mg "cut_of" s_cut_of P_cut_of := by
  obtain ⟨fd, F⟩ := c.def_ 0 (d := d_cut_of) rfl
  exact df_of F (He.glo_ok X G (c.fact 0 (f := .glo "cut_of") rfl)) (F.bindsN fun _ _ _ _ _ _ us hl => match us, hl with | [_, _], _ => rfl)
theorem df_search (X : K.In h) (G : h.Ns mainGlobals mg) (c : He.SaysD faAll fnAll K) : Df K mg "search" s_search P_search := by
  obtain ⟨fd, F⟩ := c.def_ 1 (d := d_search) rfl
  exact df_of F (He.glo_ok X G (c.fact 1 (f := .glo "search") rfl)) (F.bindsN fun _ _ _ _ _ _ us hl => match us, hl with | [_, _, _], _ => rfl)
theorem df_greatest_flow (X : K.In h) (G : h.Ns mainGlobals mg) (c : He.SaysD faAll fnAll K) : Df K mg "greatest_flow" s_greatest_flow P_greatest_flow := by
  obtain ⟨fd, F⟩ := c.def_ 2 (d := d_greatest_flow) rfl
  exact df_of F (He.glo_ok X G (c.fact 2 (f := .glo "greatest_flow") rfl)) (F.bindsN fun _ _ _ _ _ _ us hl => match us, hl with | [_, _, _], _ => rfl)
theorem df_next_reading (X : K.In h) (G : h.Ns mainGlobals mg) (c : He.SaysD faAll fnAll K) : Df K mg "next_reading" s_next_reading P_next_reading := by
  obtain ⟨fd, F⟩ := c.def_ 3 (d := d_next_reading) rfl
  exact df_of F (He.glo_ok X G (c.fact 3 (f := .glo "next_reading") rfl)) (F.bindsN fun _ _ _ _ _ _ us hl => match us, hl with | [_, _, _], _ => rfl)
theorem df_ways_of (X : K.In h) (G : h.Ns mainGlobals mg) (c : He.SaysD faAll fnAll K) : Df K mg "ways_of" s_ways_of P_ways_of := by
  obtain ⟨fd, F⟩ := c.def_ 4 (d := d_ways_of) rfl
  exact df_of F (He.glo_ok X G (c.fact 4 (f := .glo "ways_of") rfl)) (F.bindsN fun _ _ _ _ _ _ us hl => match us, hl with | [_, _, _, _], _ => rfl)
theorem df_side_of (X : K.In h) (G : h.Ns mainGlobals mg) (c : He.SaysD faAll fnAll K) : Df K mg "side_of" s_side_of P_side_of := by
  obtain ⟨fd, F⟩ := c.def_ 5 (d := d_side_of) rfl
  exact df_of F (He.glo_ok X G (c.fact 5 (f := .glo "side_of") rfl)) (F.bindsN fun _ _ _ _ _ _ us hl => match us, hl with | [_, _, _], _ => rfl)
theorem df_least_cut (X : K.In h) (G : h.Ns mainGlobals mg) (c : He.SaysD faAll fnAll K) : Df K mg "least_cut" s_least_cut P_least_cut := by
  obtain ⟨fd, F⟩ := c.def_ 6 (d := d_least_cut) rfl
  exact df_of F (He.glo_ok X G (c.fact 6 (f := .glo "least_cut") rfl)) (F.bindsN fun _ _ _ _ _ _ us hl => match us, hl with | [_, _, _], _ => rfl)
theorem df_strength_paper (X : K.In h) (G : h.Ns mainGlobals mg) (c : He.SaysD faAll fnAll K) : Df K mg "strength_paper" s_strength_paper P_strength_paper := by
  obtain ⟨fd, F⟩ := c.def_ 7 (d := d_strength_paper) rfl
  exact df_of F (He.glo_ok X G (c.fact 7 (f := .glo "strength_paper") rfl)) (F.bindsN fun _ _ _ _ _ _ us hl => match us, hl with | [_], _ => rfl)
theorem df_strength (X : K.In h) (G : h.Ns mainGlobals mg) (c : He.SaysD faAll fnAll K) : Df K mg "strength" s_strength P_strength := by
  obtain ⟨fd, F⟩ := c.def_ 8 (d := d_strength) rfl
  exact df_of F (He.glo_ok X G (c.fact 8 (f := .glo "strength") rfl)) (F.bindsN fun _ _ _ _ _ _ us hl => match us, hl with | [_], _ => rfl)
theorem df_miss_of (X : K.In h) (G : h.Ns mainGlobals mg) (c : He.SaysD faAll fnAll K) : Df K mg "miss_of" s_miss_of P_miss_of := by
  obtain ⟨fd, F⟩ := c.def_ 9 (d := d_miss_of) rfl
  exact df_of F (He.glo_ok X G (c.fact 9 (f := .glo "miss_of") rfl)) (F.bindsN fun _ _ _ _ _ _ us hl => match us, hl with | [_, _], _ => rfl)
theorem df_misses (X : K.In h) (G : h.Ns mainGlobals mg) (c : He.SaysD faAll fnAll K) : Df K mg "misses" s_misses P_misses := by
  obtain ⟨fd, F⟩ := c.def_ 10 (d := d_misses) rfl
  exact df_of F (He.glo_ok X G (c.fact 10 (f := .glo "misses") rfl)) (F.bindsN fun _ _ _ _ _ _ us hl => match us, hl with | [_, _], _ => rfl)
theorem df_cost (X : K.In h) (G : h.Ns mainGlobals mg) (c : He.SaysD faAll fnAll K) : Df K mg "cost" s_cost P_cost := by
  obtain ⟨fd, F⟩ := c.def_ 11 (d := d_cost) rfl
  exact df_of F (He.glo_ok X G (c.fact 11 (f := .glo "cost") rfl)) (F.bindsN fun _ _ _ _ _ _ us hl => match us, hl with | [_, _], _ => rfl)
theorem df_lies (X : K.In h) (G : h.Ns mainGlobals mg) (c : He.SaysD faAll fnAll K) : Df K mg "lies" s_lies P_lies := by
  obtain ⟨fd, F⟩ := c.def_ 12 (d := d_lies) rfl
  exact df_of F (He.glo_ok X G (c.fact 12 (f := .glo "lies") rfl)) (F.bindsN fun _ _ _ _ _ _ us hl => match us, hl with | [_, _], _ => rfl)
theorem df_height_by (X : K.In h) (G : h.Ns mainGlobals mg) (c : He.SaysD faAll fnAll K) : Df K mg "height_by" s_height_by P_height_by := by
  obtain ⟨fd, F⟩ := c.def_ 13 (d := d_height_by) rfl
  exact df_of F (He.glo_ok X G (c.fact 13 (f := .glo "height_by") rfl)) (F.bindsN fun _ _ _ _ _ _ us hl => match us, hl with | [_, _], _ => rfl)
theorem df_count_lies (X : K.In h) (G : h.Ns mainGlobals mg) (c : He.SaysD faAll fnAll K) : Df K mg "count_lies" s_count_lies P_count_lies := by
  obtain ⟨fd, F⟩ := c.def_ 14 (d := d_count_lies) rfl
  exact df_of F (He.glo_ok X G (c.fact 14 (f := .glo "count_lies") rfl)) (F.bindsN fun _ _ _ _ _ _ us hl => match us, hl with | [_, _], _ => rfl)
theorem df_further (X : K.In h) (G : h.Ns mainGlobals mg) (c : He.SaysD faAll fnAll K) : Df K mg "further" s_further P_further := by
  obtain ⟨fd, F⟩ := c.def_ 15 (d := d_further) rfl
  exact df_of F (He.glo_ok X G (c.fact 15 (f := .glo "further") rfl)) (F.bindsN fun _ _ _ _ _ _ us hl => match us, hl with | [_, _, _], _ => rfl)
theorem df_check_worlds (X : K.In h) (G : h.Ns mainGlobals mg) (c : He.SaysD faAll fnAll K) : Df K mg "check_worlds" s_check_worlds P_check_worlds := by
  obtain ⟨fd, F⟩ := c.def_ 16 (d := d_check_worlds) rfl
  exact df_of F (He.glo_ok X G (c.fact 16 (f := .glo "check_worlds") rfl)) (F.bindsN fun _ _ _ _ _ _ us hl => match us, hl with | [_, _], _ => rfl)
theorem df_worlds (X : K.In h) (G : h.Ns mainGlobals mg) (c : He.SaysD faAll fnAll K) : Df K mg "worlds" s_worlds P_worlds := by
  obtain ⟨fd, F⟩ := c.def_ 17 (d := d_worlds) rfl
  exact df_of F (He.glo_ok X G (c.fact 17 (f := .glo "worlds") rfl)) (F.bindsN fun _ _ _ _ _ _ us hl => match us, hl with | [_, _], _ => rfl)
theorem df_known_key (X : K.In h) (G : h.Ns mainGlobals mg) (c : He.SaysD faAll fnAll K) : Df K mg "known_key" s_known_key P_known_key := by
  obtain ⟨fd, F⟩ := c.def_ 18 (d := d_known_key) rfl
  exact df_of F (He.glo_ok X G (c.fact 18 (f := .glo "known_key") rfl)) (F.bindsN fun _ _ _ _ _ _ us hl => match us, hl with | [_], _ => rfl)
theorem df_verdict_of (X : K.In h) (G : h.Ns mainGlobals mg) (c : He.SaysD faAll fnAll K) : Df K mg "verdict_of" s_verdict_of P_verdict_of := by
  obtain ⟨fd, F⟩ := c.def_ 19 (d := d_verdict_of) rfl
  exact df_of F (He.glo_ok X G (c.fact 19 (f := .glo "verdict_of") rfl)) (F.bindsN fun _ _ _ _ _ _ us hl => match us, hl with | [_, _], _ => rfl)
theorem df_verdicts (X : K.In h) (G : h.Ns mainGlobals mg) (c : He.SaysD faAll fnAll K) : Df K mg "verdicts" s_verdicts P_verdicts := by
  obtain ⟨fd, F⟩ := c.def_ 20 (d := d_verdicts) rfl
  exact df_of F (He.glo_ok X G (c.fact 20 (f := .glo "verdicts") rfl)) (F.bindsN fun _ _ _ _ _ _ us hl => match us, hl with | [_, _], _ => rfl)
theorem df_is_safe (X : K.In h) (G : h.Ns mainGlobals mg) (c : He.SaysD faAll fnAll K) : Df K mg "is_safe" s_is_safe P_is_safe := by
  obtain ⟨fd, F⟩ := c.def_ 21 (d := d_is_safe) rfl
  exact df_of F (He.glo_ok X G (c.fact 21 (f := .glo "is_safe") rfl)) (F.bindsN fun _ _ _ _ _ _ us hl => match us, hl with | [_, _], _ => rfl)
theorem df_most_lies (X : K.In h) (G : h.Ns mainGlobals mg) (c : He.SaysD faAll fnAll K) : Df K mg "most_lies" s_most_lies P_most_lies := by
  obtain ⟨fd, F⟩ := c.def_ 22 (d := d_most_lies) rfl
  exact df_of F (He.glo_ok X G (c.fact 22 (f := .glo "most_lies") rfl)) (F.bindsN fun _ _ _ _ _ _ us hl => match us, hl with | [_], _ => rfl)
theorem df_twins (X : K.In h) (G : h.Ns mainGlobals mg) (c : He.SaysD faAll fnAll K) : Df K mg "twins" s_twins P_twins := by
  obtain ⟨fd, F⟩ := c.def_ 23 (d := d_twins) rfl
  exact df_of F (He.glo_ok X G (c.fact 23 (f := .glo "twins") rfl)) (F.bindsN fun _ _ _ _ _ _ us hl => match us, hl with | [_, _], _ => rfl)
theorem df_sign (X : K.In h) (G : h.Ns mainGlobals mg) (c : He.SaysD faAll fnAll K) : Df K mg "sign" s_sign P_sign := by
  obtain ⟨fd, F⟩ := c.def_ 24 (d := d_sign) rfl
  exact df_of F (He.glo_ok X G (c.fact 24 (f := .glo "sign") rfl)) (F.bindsN fun _ _ _ _ _ _ us hl => match us, hl with | [_], _ => rfl)
theorem df_adjusted (X : K.In h) (G : h.Ns mainGlobals mg) (c : He.SaysD faAll fnAll K) : Df K mg "adjusted" s_adjusted P_adjusted := by
  obtain ⟨fd, F⟩ := c.def_ 25 (d := d_adjusted) rfl
  exact df_of F (He.glo_ok X G (c.fact 25 (f := .glo "adjusted") rfl)) (F.bindsN fun _ _ _ _ _ _ us hl => match us, hl with | [_, _], _ => rfl)
theorem df_best_paper (X : K.In h) (G : h.Ns mainGlobals mg) (c : He.SaysD faAll fnAll K) : Df K mg "best_paper" s_best_paper P_best_paper := by
  obtain ⟨fd, F⟩ := c.def_ 26 (d := d_best_paper) rfl
  exact df_of F (He.glo_ok X G (c.fact 26 (f := .glo "best_paper") rfl)) (F.bindsN fun _ _ _ _ _ _ us hl => match us, hl with | [_], _ => rfl)
theorem df_is_integer (X : K.In h) (G : h.Ns mainGlobals mg) (c : He.SaysD faAll fnAll K) : Df K mg "is_integer" s_is_integer P_is_integer := by
  obtain ⟨fd, F⟩ := c.def_ 27 (d := d_is_integer) rfl
  exact df_of F (He.glo_ok X G (c.fact 27 (f := .glo "is_integer") rfl)) (F.bindsN fun _ _ _ _ _ _ us hl => match us, hl with | [_, _, _], _ => rfl)
theorem df_is_row (X : K.In h) (G : h.Ns mainGlobals mg) (c : He.SaysD faAll fnAll K) : Df K mg "is_row" s_is_row P_is_row := by
  obtain ⟨fd, F⟩ := c.def_ 28 (d := d_is_row) rfl
  exact df_of F (He.glo_ok X G (c.fact 28 (f := .glo "is_row") rfl)) (F.bindsN fun _ _ _ _ _ _ us hl => match us, hl with | [_, _, _, _], _ => rfl)
theorem df_is_even (X : K.In h) (G : h.Ns mainGlobals mg) (c : He.SaysD faAll fnAll K) : Df K mg "is_even" s_is_even P_is_even := by
  obtain ⟨fd, F⟩ := c.def_ 29 (d := d_is_even) rfl
  exact df_of F (He.glo_ok X G (c.fact 29 (f := .glo "is_even") rfl)) (F.bindsN fun _ _ _ _ _ _ us hl => match us, hl with | [_, _], _ => rfl)
theorem df_worth (X : K.In h) (G : h.Ns mainGlobals mg) (c : He.SaysD faAll fnAll K) : Df K mg "worth" s_worth P_worth := by
  obtain ⟨fd, F⟩ := c.def_ 30 (d := d_worth) rfl
  exact df_of F (He.glo_ok X G (c.fact 30 (f := .glo "worth") rfl)) (F.bindsN fun _ _ _ _ _ _ us hl => match us, hl with | [_, _], _ => rfl)
theorem df_are_heights (X : K.In h) (G : h.Ns mainGlobals mg) (c : He.SaysD faAll fnAll K) : Df K mg "are_heights" s_are_heights P_are_heights := by
  obtain ⟨fd, F⟩ := c.def_ 31 (d := d_are_heights) rfl
  exact df_of F (He.glo_ok X G (c.fact 31 (f := .glo "are_heights") rfl)) (F.bindsN fun _ _ _ _ _ _ us hl => match us, hl with | [_, _], _ => rfl)
theorem df_judge_best (X : K.In h) (G : h.Ns mainGlobals mg) (c : He.SaysD faAll fnAll K) : Df K mg "judge_best" s_judge_best P_judge_best := by
  obtain ⟨fd, F⟩ := c.def_ 32 (d := d_judge_best) rfl
  exact df_of F (He.glo_ok X G (c.fact 32 (f := .glo "judge_best") rfl)) (F.bindsN fun _ _ _ _ _ _ us hl => match us, hl with | [_, _, _], _ => rfl)
theorem df_judge (X : K.In h) (G : h.Ns mainGlobals mg) (c : He.SaysD faAll fnAll K) : Df K mg "judge" s_judge P_judge := by
  obtain ⟨fd, F⟩ := c.def_ 33 (d := d_judge) rfl
  exact df_of F (He.glo_ok X G (c.fact 33 (f := .glo "judge") rfl)) (F.bindsN fun _ _ _ _ _ _ us hl => match us, hl with | [_, _], _ => rfl)
theorem df_bounds (X : K.In h) (G : h.Ns mainGlobals mg) (c : He.SaysD faAll fnAll K) : Df K mg "bounds" s_bounds P_bounds := by
  obtain ⟨fd, F⟩ := c.def_ 34 (d := d_bounds) rfl
  exact df_of F (He.glo_ok X G (c.fact 34 (f := .glo "bounds") rfl)) (F.bindsN fun _ _ _ _ _ _ us hl => match us, hl with | [_, _], _ => rfl)
theorem df_greatest (X : K.In h) (G : h.Ns mainGlobals mg) (c : He.SaysD faAll fnAll K) : Df K mg "greatest" s_greatest P_greatest := by
  obtain ⟨fd, F⟩ := c.def_ 35 (d := d_greatest) rfl
  exact df_of F (He.glo_ok X G (c.fact 35 (f := .glo "greatest") rfl)) (F.bindsN fun _ _ _ _ _ _ us hl => match us, hl with | [_, _], _ => rfl)
theorem df_spans (X : K.In h) (G : h.Ns mainGlobals mg) (c : He.SaysD faAll fnAll K) : Df K mg "spans" s_spans P_spans := by
  obtain ⟨fd, F⟩ := c.def_ 36 (d := d_spans) rfl
  exact df_of F (He.glo_ok X G (c.fact 36 (f := .glo "spans") rfl)) (F.bindsN fun _ _ _ _ _ _ us hl => match us, hl with | [_], _ => rfl)
theorem df_is_one (X : K.In h) (G : h.Ns mainGlobals mg) (c : He.SaysD faAll fnAll K) : Df K mg "is_one" s_is_one P_is_one := by
  obtain ⟨fd, F⟩ := c.def_ 37 (d := d_is_one) rfl
  exact df_of F (He.glo_ok X G (c.fact 37 (f := .glo "is_one") rfl)) (F.bindsN fun _ _ _ _ _ _ us hl => match us, hl with | [_], _ => rfl)
theorem df_law_cell (X : K.In h) (G : h.Ns mainGlobals mg) (c : He.SaysD faAll fnAll K) : Df K mg "_law_cell" s_law_cell P_law_cell := by
  obtain ⟨fd, F⟩ := c.def_ 38 (d := d_law_cell) rfl
  exact df_of F (He.glo_ok X G (c.fact 38 (f := .glo "_law_cell") rfl)) (F.bindsN fun _ _ _ _ _ _ us hl => match us, hl with | [_, _], _ => rfl)
theorem df_law_digits (X : K.In h) (G : h.Ns mainGlobals mg) (c : He.SaysD faAll fnAll K) : Df K mg "_law_digits" s_law_digits P_law_digits := by
  obtain ⟨fd, F⟩ := c.def_ 39 (d := d_law_digits) rfl
  exact df_of F (He.glo_ok X G (c.fact 39 (f := .glo "_law_digits") rfl)) (F.bindsN fun _ _ _ _ _ _ us hl => match us, hl with | [_, _, _], _ => rfl)
theorem df_law_draw (X : K.In h) (G : h.Ns mainGlobals mg) (c : He.SaysD faAll fnAll K) : Df K mg "_law_draw" s_law_draw P_law_draw := by
  obtain ⟨fd, F⟩ := c.def_ 40 (d := d_law_draw) rfl
  exact df_of F (He.glo_ok X G (c.fact 40 (f := .glo "_law_draw") rfl)) (F.bindsN fun _ _ _ _ _ _ us hl => match us, hl with | [_, _], _ => rfl)
theorem df_law_pick (X : K.In h) (G : h.Ns mainGlobals mg) (c : He.SaysD faAll fnAll K) : Df K mg "_law_pick" s_law_pick P_law_pick := by
  obtain ⟨fd, F⟩ := c.def_ 41 (d := d_law_pick) rfl
  exact df_of F (He.glo_ok X G (c.fact 41 (f := .glo "_law_pick") rfl)) (F.bindsN fun _ _ _ _ _ _ us hl => match us, hl with | [_, _], _ => rfl)
theorem df_law_pairs (X : K.In h) (G : h.Ns mainGlobals mg) (c : He.SaysD faAll fnAll K) : Df K mg "_law_pairs" s_law_pairs P_law_pairs := by
  obtain ⟨fd, F⟩ := c.def_ 42 (d := d_law_pairs) rfl
  exact df_of F (He.glo_ok X G (c.fact 42 (f := .glo "_law_pairs") rfl)) (F.bindsN fun _ _ _ _ _ _ us hl => match us, hl with | [_, _, _], _ => rfl)
theorem df_law_heights (X : K.In h) (G : h.Ns mainGlobals mg) (c : He.SaysD faAll fnAll K) : Df K mg "_law_heights" s_law_heights P_law_heights := by
  obtain ⟨fd, F⟩ := c.def_ 43 (d := d_law_heights) rfl
  exact df_of F (He.glo_ok X G (c.fact 43 (f := .glo "_law_heights") rfl)) (F.bindsN fun _ _ _ _ _ _ us hl => match us, hl with | [_, _], _ => rfl)
theorem df_law_names (X : K.In h) (G : h.Ns mainGlobals mg) (c : He.SaysD faAll fnAll K) : Df K mg "_law_names" s_law_names P_law_names := by
  obtain ⟨fd, F⟩ := c.def_ 44 (d := d_law_names) rfl
  exact df_of F (He.glo_ok X G (c.fact 44 (f := .glo "_law_names") rfl)) (F.bindsN fun _ _ _ _ _ _ us hl => match us, hl with | [_], _ => rfl)
theorem df_law_kept_net (X : K.In h) (G : h.Ns mainGlobals mg) (c : He.SaysD faAll fnAll K) : Df K mg "_law_kept_net" s_law_kept_net P_law_kept_net := by
  obtain ⟨fd, F⟩ := c.def_ 45 (d := d_law_kept_net) rfl
  exact df_of F (He.glo_ok X G (c.fact 45 (f := .glo "_law_kept_net") rfl)) (F.bindsN fun _ _ _ _ _ _ us hl => match us, hl with | [_, _], _ => rfl)
theorem df_law_changed (X : K.In h) (G : h.Ns mainGlobals mg) (c : He.SaysD faAll fnAll K) : Df K mg "_law_changed" s_law_changed P_law_changed := by
  obtain ⟨fd, F⟩ := c.def_ 46 (d := d_law_changed) rfl
  exact df_of F (He.glo_ok X G (c.fact 46 (f := .glo "_law_changed") rfl)) (F.bindsN fun _ _ _ _ _ _ us hl => match us, hl with | [_, _], _ => rfl)
theorem df_law_some (X : K.In h) (G : h.Ns mainGlobals mg) (c : He.SaysD faAll fnAll K) : Df K mg "_law_some" s_law_some P_law_some := by
  obtain ⟨fd, F⟩ := c.def_ 47 (d := d_law_some) rfl
  exact df_of F (He.glo_ok X G (c.fact 47 (f := .glo "_law_some") rfl)) (F.bindsN fun _ _ _ _ _ _ us hl => match us, hl with | [_, _, _], _ => rfl)
theorem df_law_lied (X : K.In h) (G : h.Ns mainGlobals mg) (c : He.SaysD faAll fnAll K) : Df K mg "_law_lied" s_law_lied P_law_lied := by
  obtain ⟨fd, F⟩ := c.def_ 48 (d := d_law_lied) rfl
  exact df_of F (He.glo_ok X G (c.fact 48 (f := .glo "_law_lied") rfl)) (F.bindsN fun _ _ _ _ _ _ us hl => match us, hl with | [_, _, _], _ => rfl)
theorem df_law_sides (X : K.In h) (G : h.Ns mainGlobals mg) (c : He.SaysD faAll fnAll K) : Df K mg "_law_sides" s_law_sides P_law_sides := by
  obtain ⟨fd, F⟩ := c.def_ 49 (d := d_law_sides) rfl
  exact df_of F (He.glo_ok X G (c.fact 49 (f := .glo "_law_sides") rfl)) (F.bindsN fun _ _ _ _ _ _ us hl => match us, hl with | [_], _ => rfl)
theorem df_law_cut (X : K.In h) (G : h.Ns mainGlobals mg) (c : He.SaysD faAll fnAll K) : Df K mg "_law_cut" s_law_cut P_law_cut := by
  obtain ⟨fd, F⟩ := c.def_ 50 (d := d_law_cut) rfl
  exact df_of F (He.glo_ok X G (c.fact 50 (f := .glo "_law_cut") rfl)) (F.bindsN fun _ _ _ _ _ _ us hl => match us, hl with | [_, _], _ => rfl)
theorem df_law_strength (X : K.In h) (G : h.Ns mainGlobals mg) (c : He.SaysD faAll fnAll K) : Df K mg "_law_strength" s_law_strength P_law_strength := by
  obtain ⟨fd, F⟩ := c.def_ 51 (d := d_law_strength) rfl
  exact df_of F (He.glo_ok X G (c.fact 51 (f := .glo "_law_strength") rfl)) (F.bindsN fun _ _ _ _ _ _ us hl => match us, hl with | [_], _ => rfl)
theorem df_law_misses (X : K.In h) (G : h.Ns mainGlobals mg) (c : He.SaysD faAll fnAll K) : Df K mg "_law_misses" s_law_misses P_law_misses := by
  obtain ⟨fd, F⟩ := c.def_ 52 (d := d_law_misses) rfl
  exact df_of F (He.glo_ok X G (c.fact 52 (f := .glo "_law_misses") rfl)) (F.bindsN fun _ _ _ _ _ _ us hl => match us, hl with | [_, _], _ => rfl)
theorem df_law_lies (X : K.In h) (G : h.Ns mainGlobals mg) (c : He.SaysD faAll fnAll K) : Df K mg "_law_lies" s_law_lies P_law_lies := by
  obtain ⟨fd, F⟩ := c.def_ 53 (d := d_law_lies) rfl
  exact df_of F (He.glo_ok X G (c.fact 53 (f := .glo "_law_lies") rfl)) (F.bindsN fun _ _ _ _ _ _ us hl => match us, hl with | [_, _], _ => rfl)
theorem df_law_cost (X : K.In h) (G : h.Ns mainGlobals mg) (c : He.SaysD faAll fnAll K) : Df K mg "_law_cost" s_law_cost P_law_cost := by
  obtain ⟨fd, F⟩ := c.def_ 54 (d := d_law_cost) rfl
  exact df_of F (He.glo_ok X G (c.fact 54 (f := .glo "_law_cost") rfl)) (F.bindsN fun _ _ _ _ _ _ us hl => match us, hl with | [_, _], _ => rfl)
theorem df_law_twins_fit (X : K.In h) (G : h.Ns mainGlobals mg) (c : He.SaysD faAll fnAll K) : Df K mg "_law_twins_fit" s_law_twins_fit P_law_twins_fit := by
  obtain ⟨fd, F⟩ := c.def_ 55 (d := d_law_twins_fit) rfl
  exact df_of F (He.glo_ok X G (c.fact 55 (f := .glo "_law_twins_fit") rfl)) (F.bindsN fun _ _ _ _ _ _ us hl => match us, hl with | [_, _, _], _ => rfl)
theorem df_S_init (c : He.SaysD faAll fnAll K) : ∃ f fd, FunD K "__init__" "Search.__init__" (defArgs s_S_init) (defBody s_S_init) (defScope s_S_init) [] [] f fd ∧ Mk K (He.ga K "Search") f ∧ L2.Binds K fd P_S_init [] := by
  obtain ⟨fd, F⟩ := c.def_ 57 (d := d_S_init) rfl
  exact ⟨_, _, F, He.mkr_ok (c.fact 86 (f := .mkr "Search") rfl), (F.bindsN fun _ _ _ _ _ _ us hl => match us, hl with | [_, _, _], _ => rfl)⟩
theorem df_S_excess (c : He.SaysD faAll fnAll K) : DfM K (He.ga K "Search") "excess" "Search.excess" s_S_excess P_S_excess := by
  obtain ⟨fd, F⟩ := c.def_ 58 (d := d_S_excess) rfl
  exact ⟨_, _, F, He.meth_ok (c.fact 81 (f := .meth "Search" "excess") rfl), (F.bindsN fun _ _ _ _ _ _ us hl => match us, hl with | [_], _ => rfl)⟩
theorem df_S_steps (c : He.SaysD faAll fnAll K) : DfM K (He.ga K "Search") "steps" "Search.steps" s_S_steps P_S_steps := by
  obtain ⟨fd, F⟩ := c.def_ 59 (d := d_S_steps) rfl
  exact ⟨_, _, F, He.meth_ok (c.fact 82 (f := .meth "Search" "steps") rfl), (F.bindsN fun _ _ _ _ _ _ us hl => match us, hl with | [_], _ => rfl)⟩
theorem df_S_shortest (c : He.SaysD faAll fnAll K) : DfM K (He.ga K "Search") "shortest" "Search.shortest" s_S_shortest P_S_shortest := by
  obtain ⟨fd, F⟩ := c.def_ 60 (d := d_S_shortest) rfl
  exact ⟨_, _, F, He.meth_ok (c.fact 83 (f := .meth "Search" "shortest") rfl), (F.bindsN fun _ _ _ _ _ _ us hl => match us, hl with | [_, _], _ => rfl)⟩
theorem df_S_push (c : He.SaysD faAll fnAll K) : DfM K (He.ga K "Search") "push" "Search.push" s_S_push P_S_push := by
  obtain ⟨fd, F⟩ := c.def_ 61 (d := d_S_push) rfl
  exact ⟨_, _, F, He.meth_ok (c.fact 84 (f := .meth "Search" "push") rfl), (F.bindsN fun _ _ _ _ _ _ us hl => match us, hl with | [_, _, _], _ => rfl)⟩
theorem df_S_run (c : He.SaysD faAll fnAll K) : DfM K (He.ga K "Search") "run" "Search.run" s_S_run P_S_run := by
  obtain ⟨fd, F⟩ := c.def_ 62 (d := d_S_run) rfl
  exact ⟨_, _, F, He.meth_ok (c.fact 85 (f := .meth "Search" "run") rfl), (F.bindsN fun _ _ _ _ _ _ us hl => match us, hl with | [_], _ => rfl)⟩
theorem tx_of (X : K.In h) (G : h.Ns mainGlobals mg) (c : He.SaysD faAll fnAll K) : Tx mg := ⟨He.free_ok X G (c.fact 58 (f := .free "len") rfl), He.free_ok X G (c.fact 59 (f := .free "range") rfl), He.free_ok X G (c.fact 60 (f := .free "enumerate") rfl), He.free_ok X G (c.fact 61 (f := .free "tuple") rfl), He.free_ok X G (c.fact 62 (f := .free "min") rfl), He.free_ok X G (c.fact 63 (f := .free "max") rfl), He.free_ok X G (c.fact 64 (f := .free "sum") rfl), He.free_ok X G (c.fact 65 (f := .free "abs") rfl), He.free_ok X G (c.fact 66 (f := .free "all") rfl), He.free_ok X G (c.fact 67 (f := .free "int") rfl), He.free_ok X G (c.fact 68 (f := .free "isinstance") rfl), He.free_ok X G (c.fact 69 (f := .free "bool") rfl), He.free_ok X G (c.fact 70 (f := .free "sorted") rfl), He.free_ok X G (c.fact 71 (f := .free "list") rfl), He.free_ok X G (c.fact 72 (f := .free "zip") rfl), He.int_ok X G (c.fact 74 (f := .int "MOST_WORLDS" 200) rfl)⟩
theorem ks_of (c : He.SaysD faAll fnAll K) : KS K (He.ga K "Search") := ⟨He.cls_ok (c.fact 75 (f := .cls "Search") rfl), He.noat_ok (c.fact 76 (f := .noat "Search" "net") rfl), He.noat_ok (c.fact 77 (f := .noat "Search" "weights") rfl), He.noat_ok (c.fact 78 (f := .noat "Search" "many") rfl), He.noat_ok (c.fact 79 (f := .noat "Search" "heights") rfl), He.noat_ok (c.fact 80 (f := .noat "Search" "flow") rfl)⟩
end
theorem law_facts {P : Program} {w : World} {K : PySem.W.Frag} {h : Heap} {mg : Str → Option Value} {f : Addr} (X : K.In h) (G : h.Ns mainGlobals mg) (hfa : mg ("law" : Str) = some (.ref f)) (c : He.SaysD faAll fnAll K) :
    ∃ fd : FuncData, (∀ (s : Shared) (v : Value), BindsTo s fd ⟨[v], []⟩ [("_law_script", v)]) ∧ ∀ base : Heap, K.In base → base.Ns mainGlobals mg → FnOk P w K mg base CX0 16 f fd ["_law_script"] (spP K pre_law) := by
  obtain ⟨fd, F⟩ := c.def_ 56 (d := d_law) rfl
  have e := hfa.symm.trans (He.glo_ok X G (c.fact 56 (f := .glo "law") rfl))
  cases e
  have b := FunD.bindsA (ps := ["_law_script"]) F fun _ _ _ _ _ _ us hl => match us, hl with | [_], _ => rfl
  refine ⟨fd, fun s v => b s [v] rfl, fun base _ _ => ?_⟩
  have T : Tx mg := tx_of X G c
  have ks := ks_of c
  have mgS : mg "Search" = some (.ref (He.ga K "Search")) := He.glo_ok X G (c.fact 57 (f := .glo "Search") rfl)
  have G_law_cell := has_law_cell (P := P) (w := w) (base := base) (df_law_cell X G c) T 
  have G_law_digits := has_law_digits (P := P) (w := w) (base := base) (df_law_digits X G c) T G_law_cell
  have G_law_draw := has_law_draw (P := P) (w := w) (base := base) (df_law_draw X G c) T 
  have G_law_heights := has_law_heights (P := P) (w := w) (base := base) (df_law_heights X G c) T G_law_draw
  have G_law_pick := has_law_pick (P := P) (w := w) (base := base) (df_law_pick X G c) T G_law_draw
  have G_law_pairs := has_law_pairs (P := P) (w := w) (base := base) (df_law_pairs X G c) T G_law_draw G_law_pick
  have G_law_names := has_law_names (P := P) (w := w) (base := base) (df_law_names X G c) T 
  have G_law_kept_net := has_law_kept_net (P := P) (w := w) (base := base) (df_law_kept_net X G c) T G_law_names
  have G_law_some := has_law_some (P := P) (w := w) (base := base) (df_law_some X G c) T G_law_draw
  have G_law_changed := has_law_changed (P := P) (w := w) (base := base) (df_law_changed X G c) T 
  have G_law_lied := has_law_lied (P := P) (w := w) (base := base) (df_law_lied X G c) T G_law_some G_law_draw G_law_changed
  have G_search := has_search (P := P) (w := w) (base := base) (df_search X G c) T 
  have G_greatest_flow := has_greatest_flow (P := P) (w := w) (base := base) (df_greatest_flow X G c) T G_search
  have G_next_reading := has_next_reading (P := P) (w := w) (base := base) (df_next_reading X G c) T 
  have G_ways_of := has_ways_of (P := P) (w := w) (base := base) (df_ways_of X G c) T G_next_reading
  have G_side_of := has_side_of (P := P) (w := w) (base := base) (df_side_of X G c) T G_search
  have G_least_cut := has_least_cut (P := P) (w := w) (base := base) (df_least_cut X G c) T G_greatest_flow G_ways_of G_side_of
  have G_strength_paper := has_strength_paper (P := P) (w := w) (base := base) (df_strength_paper X G c) T G_least_cut
  have G_strength := has_strength (P := P) (w := w) (base := base) (df_strength X G c) T G_strength_paper
  have G_is_safe := has_is_safe (P := P) (w := w) (base := base) (df_is_safe X G c) T G_strength
  have G_cut_of := has_cut_of (P := P) (w := w) (base := base) (df_cut_of X G c) T 
  have G_twins := has_twins (P := P) (w := w) (base := base) (df_twins X G c) T G_is_safe G_strength_paper G_cut_of
  have G_check_worlds := has_check_worlds (P := P) (w := w) (base := base) (df_check_worlds X G c) T G_strength
  have G_height_by := has_height_by (P := P) (w := w) (base := base) (df_height_by X G c) T 
  have G_count_lies := has_count_lies (P := P) (w := w) (base := base) (df_count_lies X G c) T 
  have G_further := has_further (P := P) (w := w) (base := base) (df_further X G c) T G_height_by G_count_lies
  have G_known_key := has_known_key (P := P) (w := w) (base := base) (df_known_key X G c) T 
  have G_worlds := has_worlds (P := P) (w := w) (base := base) (df_worlds X G c) T G_check_worlds G_further G_known_key
  have G_most_lies := has_most_lies (P := P) (w := w) (base := base) (df_most_lies X G c) T G_strength
  have G_law_sides := has_law_sides (P := P) (w := w) (base := base) (df_law_sides X G c) T 
  have G_law_cut := has_law_cut (P := P) (w := w) (base := base) (df_law_cut X G c) T 
  have G_law_strength := has_law_strength (P := P) (w := w) (base := base) (df_law_strength X G c) T G_law_sides G_law_cut
  have G_law_misses := has_law_misses (P := P) (w := w) (base := base) (df_law_misses X G c) T 
  have G_law_lies := has_law_lies (P := P) (w := w) (base := base) (df_law_lies X G c) T G_law_misses
  have G_law_cost := has_law_cost (P := P) (w := w) (base := base) (df_law_cost X G c) T G_law_misses
  have G_law_twins_fit := has_law_twins_fit (P := P) (w := w) (base := base) (df_law_twins_fit X G c) T G_law_cut G_law_sides G_law_lies G_law_cost
  have G_sign := has_sign (P := P) (w := w) (base := base) (df_sign X G c) T 
  have G_S_init := has_S_init (P := P) (w := w) (base := base) (df_S_init c) T ks G_sign
  have G_S_excess := has_S_excess (P := P) (w := w) (base := base) (df_S_excess c) T ks 
  have G_miss_of := has_miss_of (P := P) (w := w) (base := base) (df_miss_of X G c) T 
  have G_misses := has_misses (P := P) (w := w) (base := base) (df_misses X G c) T G_miss_of
  have G_S_steps := has_S_steps (P := P) (w := w) (base := base) (df_S_steps c) T ks G_misses
  have G_S_shortest := has_S_shortest (P := P) (w := w) (base := base) (df_S_shortest c) T ks G_S_steps
  have G_S_push := has_S_push (P := P) (w := w) (base := base) (df_S_push c) T ks G_S_shortest
  have G_S_run := has_S_run (P := P) (w := w) (base := base) (df_S_run c) T ks G_S_excess G_S_push
  have G_adjusted := has_adjusted (P := P) (w := w) (base := base) (df_adjusted X G c) T ks mgS G_S_init G_S_run
  have G_best_paper := has_best_paper (P := P) (w := w) (base := base) (df_best_paper X G c) T G_adjusted
  have G_bounds := has_bounds (P := P) (w := w) (base := base) (df_bounds X G c) T 
  have G_greatest := has_greatest (P := P) (w := w) (base := base) (df_greatest X G c) T 
  have G_spans := has_spans (P := P) (w := w) (base := base) (df_spans X G c) T G_best_paper G_bounds G_greatest
  have G_is_one := has_is_one (P := P) (w := w) (base := base) (df_is_one X G c) T G_spans
  have G_are_heights := has_are_heights (P := P) (w := w) (base := base) (df_are_heights X G c) T 
  have G_is_even := has_is_even (P := P) (w := w) (base := base) (df_is_even X G c) T 
  have G_is_integer := has_is_integer (P := P) (w := w) (base := base) (df_is_integer X G c) T 
  have G_is_row := has_is_row (P := P) (w := w) (base := base) (df_is_row X G c) T G_is_integer
  have G_cost := has_cost (P := P) (w := w) (base := base) (df_cost X G c) T G_misses
  have G_worth := has_worth (P := P) (w := w) (base := base) (df_worth X G c) T 
  have G_judge_best := has_judge_best (P := P) (w := w) (base := base) (df_judge_best X G c) T G_are_heights G_is_even G_is_row G_cost G_worth
  have G_judge := has_judge (P := P) (w := w) (base := base) (df_judge X G c) T G_judge_best
  have G_lies := has_lies (P := P) (w := w) (base := base) (df_lies X G c) T G_misses
  have G_verdict_of := has_verdict_of (P := P) (w := w) (base := base) (df_verdict_of X G c) T 
  have G_verdicts := has_verdicts (P := P) (w := w) (base := base) (df_verdicts X G c) T G_worlds G_lies G_verdict_of
  exact ok_law F T G_law_digits G_law_draw G_law_heights G_law_pairs G_law_kept_net G_law_lied G_twins G_worlds G_most_lies G_is_safe G_law_strength G_law_twins_fit G_best_paper G_is_one G_judge G_spans G_law_lies G_verdicts
theorem law_start {K : PySem.W.Frag} {H : Hp} {a : Addr} {ns : List Int} {E : XK} {Q : VK} (hS : SqL K H a (ns.map V.int)) (hQ : ∀ H', Q (.bl true) H') : spP K pre_law [.ref a] H Q E :=
  ⟨[.ls (ns.map Dt.int)], fun b => b = .im (.bl true), .cons ⟨a, _, rfl, hS, mk_ints⟩ .nil, ⟨ns, rfl, rfl⟩, fun x v H' hx _ hr => by
    cases hx
    rw [rp_bl hr]; exact hQ H', fun ds a vs' H' hx => by cases hx⟩
end TL
open PySem PySem.W PySem.Calls PyProof.Rows
theorem PySem.Challenge.cw_truelevels_k42_whole_true_levels_holds : PySem.Challenge.rw_truelevels_k42_whole_true_levels.Holds := by
  w_on; o_law
  refine HandSHeadRun.head_any (r := OpenLaw.row PySem.Challenge.rw_truelevels_k42_whole_true_levels) (q := view (OpenLaw.row PySem.Challenge.rw_truelevels_k42_whole_true_levels).prog [75]) (H := TL.hk) (ob := TL.ob) (M := 4000) (loose := TL.looseA ++ (TL.looseB ++ (TL.looseC ++ TL.looseD))) (d := HandSHeadRun.topDef (OpenLaw.row PySem.Challenge.rw_truelevels_k42_whole_true_levels).prog 75) (kwd := []) TL.ob_eq
    (by kernel_rfl) (fun s => by kernel_rfl) TL.run (by kernel_rfl) (by kernel_rfl) (by kernel_rfl) (by rfl) (by first | assumption | decide +kernel) (by decide +kernel) ⟨rfl, rfl, rfl, rfl, rfl, by decide +kernel⟩ ?hw ?hc
  case hw => w_witness2
  case hc =>
    refine L2.walk_ofE (l := PySem.Challenge.rw_truelevels_k42_whole_true_levels) (n := 63) (k := 16) (x := "_law_script") (CX := L2.CX0) rfl (by decide) (by kernel_rfl) ⟨rfl, by decide, by decide⟩ ?F (fun _ _ _ _ z => z)
    intro w mg fa h Y G hmg0
    obtain ⟨K, KX, c⟩ := Y
    have hmg : mg ("law" : PySem.Str) = some (.ref fa) := by
      have e : (HandSHeadRun.topDef (OpenLaw.row PySem.Challenge.rw_truelevels_k42_whole_true_levels).prog 75).name = ("law" : PySem.Str) := by kernel_rfl
      rw [← e]
      exact hmg0
    obtain ⟨fd, hb, hF⟩ := TL.law_facts (P := (PySem.Challenge.rw_truelevels_k42_whole_true_levels).prog) (w := w) KX G hmg c
    exact ⟨K, fd, TL.spP K TL.pre_law, KX, hb, fun H a ns hl _ hS => TL.law_start hS fun _ => rfl, hF⟩
