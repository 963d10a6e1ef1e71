import PyProof.Rows.All
import Wide.All
import OpenK.AllK
import Wide.FinOn
import HandS.ForMost
import HandS.Exc
import HandS.TryOnly
import HandS.ExcOwn
import HandS.WordsExc
import HandS.Wide
import HandS.IsInst
import HandS.Conv
import HandS.SortInts
import HandS.TupAny
import HandS.Deep
import HandS.Iter
import HandS.Zip
import HandS.Remove
import HandS.WideBits
import HandS.Gcd
import HandS.RaiseMore
import PyProof.ReprRoads
import HandS.NoneIn
import HandS.Flt
import PyProof.ReprLen
import PySem.Challenge.RW_gatherhouse_k51_whole_span_and_until_are
set_option Elab.async false
set_option linter.all false
set_option maxRecDepth 100000
set_option maxHeartbeats 4000000
set_option autoImplicit false
/-! The data layer: what a name holds is plain data (PyData), or a list or dict that this def alone holds; the heap is told once, here. -/
namespace DL
open PySem PySem.Spec L2

inductive Sl where
  | d (x : PyData)
  | l (xs : List PyData)
  | m (kvs : List (Key × PyData))
  | t (kvs : List (List Key × PyData))
abbrev En := List (Option Sl)
inductive Rv where
  | d (x : PyData)
  | o (i : Nat)
  | n (s : Sl)

/-- the heap without what is held alone -/
def HW (H : Hp) (W : List Addr) : Hp := fun b => if b ∈ W then none else H b
section
variable {K : PySem.W.Frag} {H H' H1 H2 : Hp} {W W' W1 W2 : List Addr} {A : List (Option Addr)} {a b p : Addr} {o : HO} {v : V} {x : PyData} {vs : List V} {xs : List PyData}
theorem hw_some (h : HW H W b = some o) : b ∉ W ∧ H b = some o := by
  unfold HW at h
  by_cases e : b ∈ W
  · rw [if_pos e] at h; cases h
  · rw [if_neg e] at h; exact ⟨e, h⟩
theorem hw_of (e : b ∉ W) (h : H b = some o) : HW H W b = some o := by
  unfold HW; rw [if_neg e]; exact h
theorem hw_same : Same (HW H W) H := fun b o h => (hw_some h).2
theorem same_t {xs : List V} (e : Same H H') (h : SqT K H a xs) : SqT K H' a xs := by
  rcases h with (h | ⟨o, h⟩) | h
  · exact .inl (.inl (e _ _ h))
  · exact .inl (.inr ⟨o, e _ _ h⟩)
  · exact .inr h
mutual
theorem dp_mono (e : Same H H') : ∀ (x : PyData) {v : V}, Dp K H v x → Dp K H' v x
  | .none, _, h => by cases h; exact .non
  | .bool _, _, h => by cases h; exact .bl _
  | .int _, _, h => by cases h; exact .int _
  | .str _, _, h => by cases h; exact .str _
  | .list ds, _, h => by
    cases h with
    | lst s r => exact .lst (e.seq s) (dpa_mono e ds r)
  | .tuple ds, _, h => by
    cases h with
    | tup s r => exact .tup (same_t e s) (dpa_mono e ds r)
  | .dict _, _, h => by cases h
theorem dpa_mono (e : Same H H') : ∀ (ds : List PyData) {vs : List V}, DpAll K H vs ds → DpAll K H' vs ds
  | [], _, h => by cases h; exact .nil
  | d :: ds, _, h => by
    cases h with
    | cons a b => exact .cons (dp_mono e d a) (dpa_mono e ds b)
end

/-- what a step may change: nothing but what stands in A; what is new may be held alone -/
structure Stp (A : List (Option Addr)) (H : Hp) (W : List Addr) (H' : Hp) (W' : List Addr) : Prop where
  ext : ∀ b o, H b = some o → some b ∉ A → H' b = some o
  there : ∀ b, H b ≠ none → H' b ≠ none
  up : ∀ p, p ∈ W → p ∈ W'
  fr : ∀ p, p ∈ W' → p ∈ W ∨ (H p = none ∧ H' p ≠ none)
theorem Stp.refl : Stp A H W H W := ⟨fun _ _ h _ => h, fun _ h => h, fun _ h => h, fun _ h => .inl h⟩
theorem Stp.back (s : Stp A H W H' W') (h : H' p = none) : H p = none := by
  cases e : H p with
  | none => rfl
  | some o => exact absurd h (s.there p (by rw [e]; simp))
theorem Stp.trans (s : Stp A H W H1 W1) (t : Stp A H1 W1 H2 W2) : Stp A H W H2 W2 :=
  ⟨fun b o h n => t.ext b o (s.ext b o h n) n, fun b h => t.there b (s.there b h), fun p h => t.up p (s.up p h), fun p h => (t.fr p h).elim (fun z => (s.fr p z).imp id fun q => ⟨q.1, t.there p q.2⟩) fun z => .inr ⟨s.back z.1, z.2⟩⟩
def AinW (A : List (Option Addr)) (W : List Addr) : Prop := ∀ a, some a ∈ A → a ∈ W
theorem Stp.same (s : Stp A H W H' W') (h : AinW A W) : Same (HW H W) (HW H' W') := fun b o e => by
  obtain ⟨n, e⟩ := hw_some e
  refine hw_of (fun z => ?_) (s.ext b o e fun z => n (h b z))
  rcases s.fr b z with q | q
  · exact n q
  · rw [e] at q; cases q.1
theorem Stp.dp (s : Stp A H W H' W') (h : AinW A W) (r : Dp K (HW H W) v x) : Dp K (HW H' W') v x := dp_mono (s.same h) x r
theorem Stp.dpa (s : Stp A H W H' W') (h : AinW A W) (r : DpAll K (HW H W) vs xs) : DpAll K (HW H' W') vs xs := dpa_mono (s.same h) xs r
theorem Stp.ain (s : Stp A H W H' W') (h : AinW A W) : AinW A W' := fun a z => s.up a (h a z)

/-- an object that is held alone, by its content -/
def OwR (K : PySem.W.Frag) (H : Hp) (W : List Addr) (p : Addr) : Sl → Prop
  | .d _ => False
  | .l xs => ∃ vs, H p = some (.lst vs) ∧ DpAll K (HW H W) vs xs
  | .m kvs => ∃ ws, H p = some (.dK ws) ∧ ws.map (·.1) = kvs.map (·.1) ∧ DpAll K (HW H W) (ws.map (·.2)) (kvs.map (·.2))
  | .t kvs => ∃ ws, H p = some (.dT ws) ∧ ws.map (·.1) = kvs.map (·.1) ∧ DpAll K (HW H W) (ws.map (·.2)) (kvs.map (·.2))
theorem OwR.mono {s : Sl} (e : Same (HW H W) (HW H' W')) (k : H' p = H p) (h : OwR K H W p s) : OwR K H' W' p s := by
  cases s with
  | d _ => exact h
  | l xs => obtain ⟨vs, a, b⟩ := h; exact ⟨vs, k.trans a, dpa_mono e _ b⟩
  | m kvs => obtain ⟨vs, a, c, b⟩ := h; exact ⟨vs, k.trans a, c, dpa_mono e _ b⟩
  | t kvs => obtain ⟨vs, a, c, b⟩ := h; exact ⟨vs, k.trans a, c, dpa_mono e _ b⟩
theorem OwR.ex {s : Sl} (h : OwR K H W p s) : ∃ o, H p = some o := by
  cases s with
  | d _ => exact h.elim
  | l xs => obtain ⟨vs, a, b⟩ := h; exact ⟨_, a⟩
  | m kvs => obtain ⟨vs, a, b⟩ := h; exact ⟨_, a⟩
  | t kvs => obtain ⟨vs, a, b⟩ := h; exact ⟨_, a⟩
theorem OwR.step {s : Sl} (h : OwR K H W p s) (st : Stp A H W H' W') (ha : AinW A W) (hp : some p ∉ A) : OwR K H' W' p s := by
  obtain ⟨o, e⟩ := h.ex
  exact h.mono (st.same ha) ((st.ext p o e hp).trans e.symm)
def Sl.isD : Sl → Bool
  | .d _ => true
  | _ => false

/-- the names of the def, by what they hold; A: where what is held alone stands -/
structure EnR (K : PySem.W.Frag) (H : Hp) (W : List Addr) (A : List (Option Addr)) (env : En) (σ : St) : Prop where
  len : σ.length = env.length
  lenA : A.length = env.length
  dat : ∀ (i : Nat) (x : PyData), env[i]? = some (some (Sl.d x)) → A[i]? = some none ∧ ∃ v : V, σ[i]? = some (some v) ∧ Dp K (HW H W) v x
  own : ∀ (i : Nat) (s : Sl), env[i]? = some (some s) → s.isD = false → ∃ a : Addr, A[i]? = some (some a) ∧ σ[i]? = some (some (V.ref a)) ∧ OwR K H W a s
  back : ∀ (i : Nat) (a : Addr), A[i]? = some (some a) → a ∈ W ∧ ∃ s : Sl, env[i]? = some (some s) ∧ s.isD = false
  inj : ∀ (i j : Nat) (a : Addr), A[i]? = some (some a) → A[j]? = some (some a) → i = j
  trk : ∀ p, p ∈ W → H p ≠ none
theorem EnR.ain {env : En} {σ : St} (r : EnR K H W A env σ) : AinW A W := fun a h => by
  obtain ⟨i, hi⟩ := List.mem_iff_getElem?.mp h
  exact (r.back i a hi).1
/-- all that the names tell stays -/
theorem EnR.keep {env : En} {σ : St} (r : EnR K H W A env σ) (s : Stp A H W H' W') (k : ∀ a, some a ∈ A → H' a = H a) : EnR K H' W' A env σ := by
  have e := s.same r.ain
  refine ⟨r.len, r.lenA, fun i x h => ?_, fun i z h hz => ?_, fun i a h => ?_, r.inj, fun p hp => (s.fr p hp).elim (fun z => s.there p (r.trk p z)) fun z => z.2⟩
  · obtain ⟨a, v, q, w⟩ := r.dat i x h
    exact ⟨a, v, q, dp_mono e x w⟩
  · obtain ⟨a, q, q2, w⟩ := r.own i z h hz
    exact ⟨a, q, q2, w.mono e (k a (List.mem_of_getElem? q))⟩
  · obtain ⟨q, w⟩ := r.back i a h
    exact ⟨s.up a q, w⟩

/-- a value at hand: what came since H0, W0 -/
def RvR (K : PySem.W.Frag) (H0 : Hp) (W0 : List Addr) (H : Hp) (W : List Addr) (A : List (Option Addr)) : Rv → V → Prop
  | .d x, v => Dp K (HW H W) v x
  | .o i, v => ∃ a : Addr, A[i]? = some (some a) ∧ v = .ref a
  | .n s, v => ∃ p, v = .ref p ∧ H0 p = none ∧ p ∈ W ∧ p ∉ W0 ∧ OwR K H W p s
theorem RvR.step {H0 : Hp} {W0 : List Addr} {rv : Rv} (r : RvR K H0 W0 H W A rv v) (s : Stp A H W H' W') (ha : AinW A W) (ha0 : AinW A W0) : RvR K H0 W0 H' W' A rv v := by
  cases rv with
  | d x => exact s.dp ha r
  | o i => exact r
  | n z =>
    obtain ⟨p, e, n, m, nm, ow⟩ := r
    exact ⟨p, e, n, s.up p m, nm, OwR.step ow s ha fun q => nm (ha0 p q)⟩
theorem RvR.from {H0 H1 : Hp} {W0 W1 : List Addr} {rv : Rv} (s : Stp A H0 W0 H1 W1) (r : RvR K H1 W1 H W A rv v) : RvR K H0 W0 H W A rv v := by
  cases rv with
  | d x => exact r
  | o i => exact r
  | n z =>
    obtain ⟨p, e, n, m, nm, ow⟩ := r
    exact ⟨p, e, s.back n, m, fun q => nm (s.up p q), ow⟩
end

/-! ### judgements -/
abbrev TD := En → (Rv → En → Prop) → Prop
abbrev TDA := En → (List Rv → En → Prop) → Prop
abbrev TDT := En → (Bool → En → Prop) → Prop
def PD (X : Cx) (e : Expr) (t : TD) : Prop := ∃ te, PE X e te ∧ ∀ (σ : St) (H : Hp) (W : List Addr) (A : List (Option Addr)) (env : En) (Q : VK) (Qd : Rv → En → Prop), EnR X.K H W A env σ → t env Qd →
  (∀ v H' W' env' rv, EnR X.K H' W' A env' σ → Stp A H W H' W' → RvR X.K H W H' W' A rv v → Qd rv env' → Q v H') → te σ H Q
def PDT (X : Cx) (e : Expr) (t : TDT) : Prop := ∃ tt, PT X e tt ∧ ∀ (σ : St) (H : Hp) (W : List Addr) (A : List (Option Addr)) (env : En) (Q : Bool → Hp → Prop) (Qd : Bool → En → Prop), EnR X.K H W A env σ → t env Qd →
  (∀ b H' W' env', EnR X.K H' W' A env' σ → Stp A H W H' W' → Qd b env' → Q b H') → tt σ H Q
/-- a list of values at hand -/
inductive RvRs (K : PySem.W.Frag) (H : Hp) (W : List Addr) (A : List (Option Addr)) : Hp → List Addr → List Rv → List V → Prop
  | nil {H0 : Hp} {W0 : List Addr} : RvRs K H W A H0 W0 [] []
  | cons {H0 : Hp} {W0 : List Addr} {rv : Rv} {v : V} {rvs : List Rv} {vs : List V} {H1 : Hp} {W1 : List Addr} : RvR K H0 W0 H W A rv v → (∀ p s, rv = .n s → v = .ref p → p ∈ W1) → Stp A H0 W0 H1 W1 → RvRs K H W A H1 W1 rvs vs → RvRs K H W A H0 W0 (rv :: rvs) (v :: vs)
def PDA (X : Cx) (es : List Expr) (t : TDA) : Prop := ∃ ta, PA X es ta ∧ ∀ (σ : St) (H : Hp) (W : List Addr) (A : List (Option Addr)) (env : En) (Q : List V → Hp → Prop) (Qd : List Rv → En → Prop), EnR X.K H W A env σ → t env Qd →
  (∀ vs H' W' env' rvs, EnR X.K H' W' A env' σ → Stp A H W H' W' → RvRs X.K H' W' A H W rvs vs → Qd rvs env' → Q vs H') → ta σ H Q
end DL

set_option Elab.async false
set_option linter.all false
set_option maxRecDepth 100000
set_option maxHeartbeats 4000000
set_option autoImplicit false
namespace L2
open PySem PySem.Spec
section
variable {K : PySem.W.Frag} {H : Hp}
theorem DpAll.len : ∀ {vs : List V} {xs : List PyData}, DpAll K H vs xs → vs.length = xs.length
  | _, _, .nil => rfl
  | _, _, .cons _ r => by simp [DpAll.len r]
theorem DpAll.get : ∀ {vs : List V} {xs : List PyData} {i : Nat} {x : PyData}, DpAll K H vs xs → xs[i]? = some x → ∃ v, vs[i]? = some v ∧ Dp K H v x
  | _, _, _, _, .nil, e => by simp at e
  | _, _, 0, _, .cons r _, e => by simp at e; subst e; exact ⟨_, rfl, r⟩
  | _, _, i + 1, _, .cons _ t, e => by
    obtain ⟨v, h1, h2⟩ := DpAll.get (i := i) t (by simpa using e)
    exact ⟨v, by simpa using h1, h2⟩
theorem DpAll.getV : ∀ {vs : List V} {xs : List PyData} {i : Nat} {v : V}, DpAll K H vs xs → vs[i]? = some v → ∃ x, xs[i]? = some x ∧ Dp K H v x
  | _, _, _, _, .nil, e => by simp at e
  | _, _, 0, _, .cons r _, e => by simp at e; subst e; exact ⟨_, rfl, r⟩
  | _, _, i + 1, _, .cons _ t, e => by
    obtain ⟨v, h1, h2⟩ := DpAll.getV (i := i) t (by simpa using e)
    exact ⟨v, by simpa using h1, h2⟩
theorem DpAll.app : ∀ {vs ws : List V} {xs ys : List PyData}, DpAll K H vs xs → DpAll K H ws ys → DpAll K H (vs ++ ws) (xs ++ ys)
  | _, _, _, _, .nil, s => s
  | _, _, _, _, .cons r t, s => .cons r (DpAll.app t s)
theorem DpAll.take : ∀ {vs : List V} {xs : List PyData} (n : Nat), DpAll K H vs xs → DpAll K H (vs.take n) (xs.take n)
  | _, _, 0, _ => .nil
  | _, _, _ + 1, .nil => .nil
  | _, _, n + 1, .cons r t => .cons r (DpAll.take n t)
theorem DpAll.drop : ∀ {vs : List V} {xs : List PyData} (n : Nat), DpAll K H vs xs → DpAll K H (vs.drop n) (xs.drop n)
  | _, _, 0, r => r
  | _, _, _ + 1, .nil => .nil
  | _, _, n + 1, .cons _ t => DpAll.drop n t
theorem DpAll.set {v : V} {x : PyData} (r : Dp K H v x) : ∀ {vs : List V} {xs : List PyData} (i : Nat), DpAll K H vs xs → DpAll K H (vs.set i v) (xs.set i x)
  | _, _, _, .nil => .nil
  | _, _, 0, .cons _ t => .cons r t
  | _, _, i + 1, .cons q t => .cons q (DpAll.set r i t)
theorem DpAll.erase : ∀ {vs : List V} {xs : List PyData} (i : Nat), DpAll K H vs xs → DpAll K H (vs.eraseIdx i) (xs.eraseIdx i)
  | _, _, _, .nil => .nil
  | _, _, 0, .cons _ t => t
  | _, _, i + 1, .cons q t => .cons q (DpAll.erase i t)
theorem DpAll.ints : ∀ {vs : List V} {ns : List Int}, DpAll K H vs (ns.map PyData.int) → vs = ns.map V.int
  | _, [], h => by cases h; rfl
  | _, n :: ns, h => by
    rw [List.map_cons] at h
    cases h with
    | cons a b => cases a; rw [DpAll.ints b]; rfl
theorem DpAll.of_ints : ∀ (ns : List Int), DpAll K H (ns.map V.int) (ns.map PyData.int)
  | [] => .nil
  | n :: ns => .cons (.int n) (DpAll.of_ints ns)
theorem DpAll.strs : ∀ {vs : List V} {ns : List Str}, DpAll K H vs (ns.map PyData.str) → vs = ns.map V.str
  | _, [], h => by cases h; rfl
  | _, n :: ns, h => by
    rw [List.map_cons] at h
    cases h with
    | cons a b => cases a; rw [DpAll.strs b]; rfl
theorem DpAll.of_strs : ∀ (ns : List Str), DpAll K H (ns.map V.str) (ns.map PyData.str)
  | [] => .nil
  | n :: ns => .cons (.str n) (DpAll.of_strs ns)
theorem DpAll.bools : ∀ {vs : List V} {ns : List Bool}, DpAll K H vs (ns.map PyData.bool) → vs = ns.map V.bl
  | _, [], h => by cases h; rfl
  | _, n :: ns, h => by
    rw [List.map_cons] at h
    cases h with
    | cons a b => cases a; rw [DpAll.bools b]; rfl

end
end L2
namespace DL
open PySem PySem.Spec L2

/-- what a value at hand is, when it is read -/
def res (env : En) : Rv → Option PyData
  | .d x => some x
  | .o i => match env[i]? with
    | some (some (.l xs)) => some (.list xs)
    | _ => none
  | .n (.l xs) => some (.list xs)
  | .n _ => none
/-- data, open at the top -/
def Dq (K : PySem.W.Frag) (H : Hp) (W : List Addr) (v : V) : PyData → Prop
  | .list xs => ∃ a vs, v = .ref a ∧ SqL K H a vs ∧ DpAll K (HW H W) vs xs
  | x => Dp K (HW H W) v x
section
variable {K : PySem.W.Frag} {H H' H0 H1 H2 : Hp} {W W' W0 W1 W2 : List Addr} {A : List (Option Addr)} {a b p : Addr} {o : HO} {v : V} {x : PyData} {vs : List V} {xs : List PyData} {env : En} {σ : L2.St}
theorem Dq.of_dp (h : Dp K (HW H W) v x) : Dq K H W v x := by
  cases x with
  | list xs => cases h with | lst s r => exact ⟨_, _, rfl, hw_same.seq s, r⟩
  | _ => exact h
theorem Dq.dp (h : Dq K H W v x) : Dp K H v x := by
  cases x with
  | list xs => obtain ⟨a, vs, rfl, s, r⟩ := h; exact .lst s (dpa_mono hw_same _ r)
  | tuple xs => exact dp_mono hw_same _ h
  | dict _ => cases h
  | none => exact dp_mono hw_same _ h
  | bool _ => exact dp_mono hw_same _ h
  | int _ => exact dp_mono hw_same _ h
  | str _ => exact dp_mono hw_same _ h
theorem res_o {i : Nat} (e : res env (.o i) = some x) : ∃ xs, env[i]? = some (some (.l xs)) ∧ x = .list xs := by
  unfold res at e
  dsimp only at e
  split at e
  · rename_i xs hx
    cases e
    exact ⟨xs, hx, rfl⟩
  · cases e
theorem Dq.of_rv {rv : Rv} (E : EnR K H W A env σ) (r : RvR K H0 W0 H W A rv v) (e : res env rv = some x) : Dq K H W v x := by
  cases rv with
  | d y => cases e; exact .of_dp r
  | o i =>
    obtain ⟨a, ha, rfl⟩ := r
    obtain ⟨xs, hx, rfl⟩ := res_o e
    obtain ⟨a', ha', _, vs, h1, h2⟩ := E.own i _ hx rfl
    rw [ha] at ha'; cases ha'
    exact ⟨a, vs, rfl, SqL.of h1, h2⟩
  | n s =>
    cases s with
    | l xs =>
      cases e
      obtain ⟨p, rfl, _, _, _, vs, h1, h2⟩ := r
      exact ⟨p, vs, rfl, SqL.of h1, h2⟩
    | _ => cases e
theorem Dq.int {i : Int} (h : Dq K H W v (.int i)) : v = .int i := by cases h; rfl
theorem Dq.str {i : Str} (h : Dq K H W v (.str i)) : v = .str i := by cases h; rfl
theorem Dq.bl {i : Bool} (h : Dq K H W v (.bool i)) : v = .bl i := by cases h; rfl
theorem Dq.non (h : Dq K H W v .none) : v = .non := by cases h; rfl
/-! ### what only grows -/
structure Grow (H : Hp) (W : List Addr) (H' : Hp) (W' : List Addr) : Prop where
  same : Same H H'
  up : ∀ p, p ∈ W → p ∈ W'
  fr : ∀ p, p ∈ W' → p ∈ W ∨ (H p = none ∧ H' p ≠ none)
theorem Grow.refl : Grow H W H W := ⟨Same.refl _, fun _ h => h, fun _ h => .inl h⟩
theorem Grow.stp (g : Grow H W H' W') : Stp A H W H' W' := ⟨fun b o h _ => g.same b o h, fun b h => by
  cases e : H b with
  | none => exact absurd e h
  | some o => rw [g.same b o e]; simp, g.up, g.fr⟩
theorem Grow.en (g : Grow H W H' W') (E : EnR K H W A env σ) : EnR K H' W' A env σ := E.keep g.stp fun a ha => by
  obtain ⟨i, hi⟩ := List.mem_iff_getElem?.mp ha
  obtain ⟨hw, s, hs, hd⟩ := E.back i a hi
  obtain ⟨a', q, _, ow⟩ := E.own i s hs hd
  rw [hi] at q; cases q
  obtain ⟨o, e⟩ := ow.ex
  rw [e]; exact g.same a o e
/-- a new object, seen by all -/
theorem grow_new (hp : H p = none) : Grow H W (upd H p o) W := ⟨fun b u e => by rw [upd_ne (ne_of_none e hp)]; exact e, fun _ h => h, fun _ h => .inl h⟩
/-- a new object, held alone -/
theorem grow_own (hp : H p = none) : Grow H W (upd H p o) (p :: W) := ⟨fun b u e => by rw [upd_ne (ne_of_none e hp)]; exact e, fun _ h => List.mem_cons_of_mem _ h, fun q h => by
  rcases List.mem_cons.mp h with rfl | h
  · exact .inr ⟨hp, by rw [upd_same]; simp⟩
  · exact .inl h⟩
/-- what an operation that makes things alone hands on -/
def Fin1 (K : PySem.W.Frag) (H : Hp) (W : List Addr) (Qd : Rv → Prop) (Q : VK) : Prop := ∀ v H' W' rv, Grow H W H' W' → RvR K H W H' W' [] rv v → Qd rv → Q v H'
theorem Fin1.d {Q : VK} {Qd : Rv → Prop} (f : Fin1 K H W Qd Q) (h : Dp K (HW H W) v x) (q : Qd (.d x)) : Q v H := f v H W (.d x) .refl h q
theorem Fin1.int {Q : VK} {Qd : Rv → Prop} (f : Fin1 K H W Qd Q) {i : Int} (q : Qd (.d (.int i))) : Q (.int i) H := f.d (.int i) q
theorem Fin1.bl {Q : VK} {Qd : Rv → Prop} (f : Fin1 K H W Qd Q) {i : Bool} (q : Qd (.d (.bool i))) : Q (.bl i) H := f.d (.bl i) q
theorem Fin1.str {Q : VK} {Qd : Rv → Prop} (f : Fin1 K H W Qd Q) {i : Str} (q : Qd (.d (.str i))) : Q (.str i) H := f.d (.str i) q
/-- a new tuple -/
theorem Fin1.tup {Q : VK} {Qd : Rv → Prop} (f : Fin1 K H W Qd Q) (hw : ∀ p, p ∈ W → H p ≠ none) (hp : H p = none) (h : DpAll K (HW H W) vs xs) (q : Qd (.d (.tuple xs))) : Q (.ref p) (upd H p (.tup vs)) := by
  have g : Grow H W (upd H p (.tup vs)) W := grow_new hp
  refine f _ _ W (.d (.tuple xs)) g ?_ q
  have nw : p ∉ W := fun z => hw p z hp
  exact .tup (.inl (.inl (hw_of nw upd_same))) (dpa_mono ((g.stp (A := [])).same fun _ z => absurd z (by simp)) _ h)
/-- a new list -/
theorem Fin1.lst {Q : VK} {Qd : Rv → Prop} (f : Fin1 K H W Qd Q) (hw : ∀ p, p ∈ W → H p ≠ none) (hp : H p = none) (h : DpAll K (HW H W) vs xs) (q : Qd (.n (.l xs))) : Q (.ref p) (upd H p (.lst vs)) := by
  have g : Grow H W (upd H p (.lst vs)) (p :: W) := grow_own hp
  refine f _ _ (p :: W) (.n (.l xs)) g ⟨p, rfl, hp, List.mem_cons_self, fun z => hw p z hp, vs, upd_same, ?_⟩ q
  exact dpa_mono ((g.stp (A := [])).same fun _ z => absurd z (by simp)) _ h
end

/-! ### operations on two values, by what they are -/
def OpD (X : Cx) (f : Value → Value → Sem Value) (r : PyData → PyData → (Rv → Prop) → Prop) : Prop :=
  ∃ rV, OpR X f rV ∧ ∀ (H : Hp) (W : List Addr) (x y : V) (a b : PyData) (Q : VK) (Qd : Rv → Prop), (∀ p, p ∈ W → H p ≠ none) → Dq X.K H W x a → Dq X.K H W y b → r a b Qd → Fin1 X.K H W Qd Q → rV x y H Q
theorem orR {X : Cx} {f : Value → Value → Sem Value} {r r' : R2} (h : OpR X f r) (h' : OpR X f r') : OpR X f (fun x y H Q => r x y H Q ∨ r' x y H Q) := by
  intro pins s σ H x y v u Q I rx ry q
  rcases q with q | q
  · exact h pins s σ H x y v u Q I rx ry q
  · exact h' pins s σ H x y v u Q I rx ry q
def tdBin (r : PyData → PyData → (Rv → Prop) → Prop) (ta tb : TD) : TD := fun env Q => ta env fun x env1 => tb env1 fun y env2 => match res env2 x, res env2 y with
  | some a, some b => r a b fun z => Q z env2
  | _, _ => False
section
variable {X : Cx} {a b c : Expr} {ta tb tc : TD} {pos : Pos}
theorem pd_two {rV : R2} {r : PyData → PyData → (Rv → Prop) → Prop} {e : Expr} {te1 te2 : TE} (hr : ∀ (H : Hp) (W : List Addr) (x y : V) (a b : PyData) (Q : VK) (Qd : Rv → Prop), (∀ p, p ∈ W → H p ≠ none) → Dq X.K H W x a → Dq X.K H W y b → r a b Qd → Fin1 X.K H W Qd Q → rV x y H Q)
    (h1 : ∀ (σ : L2.St) (H : Hp) (W : List Addr) (A : List (Option Addr)) (env : En) (Q : VK) (Qd : Rv → En → Prop), EnR X.K H W A env σ → ta env Qd → (∀ v H' W' env' rv, EnR X.K H' W' A env' σ → Stp A H W H' W' → RvR X.K H W H' W' A rv v → Qd rv env' → Q v H') → te1 σ H Q)
    (h2 : ∀ (σ : L2.St) (H : Hp) (W : List Addr) (A : List (Option Addr)) (env : En) (Q : VK) (Qd : Rv → En → Prop), EnR X.K H W A env σ → tb env Qd → (∀ v H' W' env' rv, EnR X.K H' W' A env' σ → Stp A H W H' W' → RvR X.K H W H' W' A rv v → Qd rv env' → Q v H') → te2 σ H Q)
    (he : PE X e (tOp rV te1 te2)) : PD X e (tdBin r ta tb) := by
  refine ⟨_, he, fun σ H W A env Q Qd E ht k => ?_⟩
  refine h1 σ H W A env _ _ E ht fun x H1 W1 env1 rx E1 S1 R1 q1 => ?_
  refine h2 σ H1 W1 A env1 _ _ E1 q1 fun y H2 W2 env2 ry E2 S2 R2 q2 => ?_
  have R1' := R1.step S2 E1.ain E.ain
  split at q2
  · rename_i p q ep eq
    refine hr H2 W2 x y p q Q _ E2.trk (.of_rv E2 R1' ep) (.of_rv E2 R2 eq) q2 fun v H3 W3 rv g R3 q3 => ?_
    refine k v H3 W3 env2 rv (g.en E2) ((S1.trans S2).trans g.stp) ?_ q3
    have R3' : RvR X.K H2 W2 H3 W3 A rv v := by
      cases rv with
      | d x => exact R3
      | o i => obtain ⟨a, ha, _⟩ := R3; cases i <;> simp at ha
      | n s => exact R3
    exact R3'.from (S1.trans S2)
  · exact q2.elim
theorem pd_op {op : Operator} {r : PyData → PyData → (Rv → Prop) → Prop} (ho : OpD X (binaryOp op) r) (ha : PD X a ta) (hb : PD X b tb) : PD X (.BinOp a op b pos) (tdBin r ta tb) := by
  obtain ⟨rV, h1, h2⟩ := ho
  obtain ⟨t1, p1, q1⟩ := ha
  obtain ⟨t2, p2, q2⟩ := hb
  exact pd_two h2 q1 q2 (pe_op h1 p1 p2)
theorem pd_cmp {op : CmpOp} {r : PyData → PyData → (Rv → Prop) → Prop} (ho : OpD X (compareOp op) r) (ha : PD X a ta) (hb : PD X b tb) (hm : behindInMarks op b = false := by first | exact nomark _ | rfl) : PD X (.Compare a [op] [b] pos) (tdBin r ta tb) := by
  obtain ⟨rV, h1, h2⟩ := ho
  obtain ⟨t1, p1, q1⟩ := ha
  obtain ⟨t2, p2, q2⟩ := hb
  exact pd_two h2 q1 q2 (pe_cmpR h1 p1 p2 hm)
end

/-! ### the operations -/
def rdAdd : PyData → PyData → (Rv → Prop) → Prop
  | .int i, .int j, Q => Q (.d (.int (i + j)))
  | .str a, .str b, Q => a.length + b.length ≤ sizeLine ∧ Q (.d (.str (a ++ b)))
  | .list a, .list b, Q => a.length + b.length ≤ sizeLine ∧ Q (.n (.l (a ++ b)))
  | .tuple a, .tuple b, Q => a.length + b.length ≤ sizeLine ∧ Q (.d (.tuple (a ++ b)))
  | _, _, _ => False
def rdSub : PyData → PyData → (Rv → Prop) → Prop
  | .int i, .int j, Q => Q (.d (.int (i - j)))
  | _, _, _ => False
def rdMul : PyData → PyData → (Rv → Prop) → Prop
  | .int i, .int j, Q => CMul i j ∧ Q (.d (.int (i * j)))
  | _, _, _ => False
def rdMulW : PyData → PyData → (Rv → Prop) → Prop
  | .int i, .int j, Q => CMulW i j ∧ Q (.d (.int (i * j)))
  | _, _, _ => False
def rdMod : PyData → PyData → (Rv → Prop) → Prop
  | .int i, .int j, Q => 0 < j ∧ Q (.d (.int (i % j)))
  | _, _, _ => False
def rdDiv : PyData → PyData → (Rv → Prop) → Prop
  | .int i, .int j, Q => CDivW i j ∧ Q (.d (.int (i / j)))
  | _, _, _ => False
def rdPow : PyData → PyData → (Rv → Prop) → Prop
  | .int i, .int j, Q => CPow i j ∧ Q (.d (.int (i ^ j.toNat)))
  | _, _, _ => False
def rdCmp (f : Int → Int → Bool) : PyData → PyData → (Rv → Prop) → Prop
  | .int i, .int j, Q => Q (.d (.bool (f i j)))
  | _, _, _ => False
def rdEq : PyData → PyData → (Rv → Prop) → Prop := fun a b Q => SeqAt.shaped a = true ∧ SeqAt.shaped b = true ∧ Q (.d (.bool (PyData.eqv a b)))
def rdNe : PyData → PyData → (Rv → Prop) → Prop := fun a b Q => SeqAt.shaped a = true ∧ SeqAt.shaped b = true ∧ Q (.d (.bool (!PyData.eqv a b)))
section
variable {X : Cx}
theorem od_ints {f : Value → Value → Sem Value} {C : Int → Int → Prop} {g : Int → Int → Int} {r : PyData → PyData → (Rv → Prop) → Prop} (h : OpR X f (rI C fun i j => .int (g i j)))
    (hr : ∀ a b Q, r a b Q → ∃ i j, a = .int i ∧ b = .int j ∧ C i j ∧ Q (.d (.int (g i j)))) : OpD X f r := by
  refine ⟨_, h, fun H W x y a b Q Qd hw ra rb q k => ?_⟩
  obtain ⟨i, j, rfl, rfl, hc, q⟩ := hr a b Qd q
  exact ⟨i, j, ra.int, rb.int, hc, k.int q⟩
theorem od_sub : OpD X (binaryOp .Sub) rdSub := by
  refine ⟨_, op_sub, fun H W x y a b Q Qd hw ra rb q k => ?_⟩
  unfold rdSub at q
  split at q
  · exact ⟨_, _, ra.int, rb.int, k.int q⟩
  · exact q.elim
theorem od_mul : OpD X (binaryOp .Mult) rdMul := od_ints op_mul fun a b Q q => by
  unfold rdMul at q
  split at q
  · exact ⟨_, _, rfl, rfl, q⟩
  · exact q.elim
theorem od_mulW : OpD X (binaryOp .Mult) rdMulW := od_ints op_mulW fun a b Q q => by
  unfold rdMulW at q
  split at q
  · exact ⟨_, _, rfl, rfl, q⟩
  · exact q.elim
theorem od_mod : OpD X (binaryOp .Mod) rdMod := od_ints op_mod fun a b Q q => by
  unfold rdMod at q
  split at q
  · exact ⟨_, _, rfl, rfl, q⟩
  · exact q.elim
theorem od_div : OpD X (binaryOp .FloorDiv) rdDiv := od_ints op_fdivW fun a b Q q => by
  unfold rdDiv at q
  split at q
  · exact ⟨_, _, rfl, rfl, q⟩
  · exact q.elim
theorem od_pow : OpD X (binaryOp .Pow) rdPow := od_ints op_pow fun a b Q q => by
  unfold rdPow at q
  split at q
  · exact ⟨_, _, rfl, rfl, q⟩
  · exact q.elim
theorem od_cmp {op : CmpOp} {f : Int → Int → Bool} (h : OpR X (compareOp op) (rI0 fun i j => .bl (f i j))) : OpD X (compareOp op) (rdCmp f) := by
  refine ⟨_, h, fun H W x y a b Q Qd hw ra rb q k => ?_⟩
  unfold rdCmp at q
  split at q
  · exact ⟨_, _, ra.int, rb.int, k.bl q⟩
  · exact q.elim
theorem od_lt : OpD X (compareOp .Lt) (rdCmp fun i j => decide (i < j)) := od_cmp op_lt
theorem od_le : OpD X (compareOp .LtE) (rdCmp fun i j => decide (i ≤ j)) := od_cmp op_le
theorem od_gt : OpD X (compareOp .Gt) (rdCmp fun i j => decide (j < i)) := od_cmp op_gt
theorem od_ge : OpD X (compareOp .GtE) (rdCmp fun i j => decide (j ≤ i)) := od_cmp op_ge
theorem od_eq (hu : X.A.units + 64 < cLine) : OpD X (compareOp .Eq) rdEq := by
  refine ⟨_, op_eqD hu, fun H W x y a b Q Qd hw ra rb q k => ?_⟩
  obtain ⟨h1, h2, q⟩ := q
  exact ⟨a, b, ra.dp, rb.dp, h1, h2, k.bl q⟩
theorem od_ne (hu : X.A.units + 64 < cLine) : OpD X (compareOp .NotEq) rdNe := by
  refine ⟨_, op_neD hu, fun H W x y a b Q Qd hw ra rb q k => ?_⟩
  obtain ⟨h1, h2, q⟩ := q
  exact ⟨a, b, ra.dp, rb.dp, h1, h2, k.bl q⟩
/-- two lists joined, each tracked or an object of the module -/
def rCatQ (K : PySem.W.Frag) : R2 := fun x y H Q => ∃ l b xs zs, x = .ref l ∧ y = .ref b ∧ SqL K H l xs ∧ SqL K H b zs ∧ xs.length + zs.length ≤ sizeLine ∧ ∀ p, H p = none → Q (.ref p) (upd H p (.lst (xs ++ zs)))
theorem op_catQ : OpR X (binaryOp .Add) (rCatQ X.K) := by
  intro pins s σ H x y v u Q I rx ry h
  obtain ⟨l, b, xs, zs, rfl, rfl, hH, hB, hz, q⟩ := h
  cases rx
  cases ry
  obtain ⟨its, r, pl, _⟩ := I.list hH
  obtain ⟨its2, r2, pl2, _⟩ := I.list hB
  have l1 := r.length
  have l2 := r2.length
  obtain ⟨⟨c1, dd1, da1, sl1⟩, ho, e1, n, hd⟩ := pl.isList
  obtain ⟨⟨c2, dd2, da2, sl2⟩, ho2, e2, n2, hd2⟩ := pl2.isList
  simp only at e1 hd e2 hd2
  subst e1 hd e2 hd2
  have e : its.toArray ++ its2.toArray = (its ++ its2).toArray := by simp
  have hs : its.toArray.size + its2.toArray.size ≤ sizeLine := by rw [List.size_toArray, List.size_toArray]; omega
  refine concat_meets ⟨_, ho, rfl⟩ ⟨_, ho2, rfl⟩ noFill_list_add seq_list_add PySem.F.slot_list_add PySem.F.entry_list_add (PySem.F.args_list_add_2 _ _) (PyProof.Rows.list_addW l b its.toArray its2.toArray n n2 dd1 dd2 sl1 sl2 hs) ⟨ho, ho2, ?_⟩
  rw [e]
  exact ⟨.ref _, _, I.lnew (t' := s.toks) (r.append r2) (by rw [List.length_append]; omega), rfl, q _ I.fresh⟩
theorem od_add : OpD X (binaryOp .Add) rdAdd := by
  refine ⟨_, orR (orR op_add op_add_str) (orR op_catQ op_catA), fun H W x y a b Q Qd hw ra rb q k => ?_⟩
  unfold rdAdd at q
  split at q
  · exact .inl (.inl ⟨_, _, ra.int, rb.int, k.int q⟩)
  · exact .inl (.inr ⟨_, _, ra.str, rb.str, q.1, k.str q.2⟩)
  · obtain ⟨p, vs, rfl, s1, d1⟩ := ra
    obtain ⟨p', vs', rfl, s2, d2⟩ := rb
    exact .inr (.inl ⟨p, p', vs, vs', rfl, rfl, s1, s2, by rw [d1.len, d2.len]; exact q.1, fun z hz => k.lst hw hz (d1.app d2) q.2⟩)
  · rename_i as bs
    cases ra with
    | tup s1 d1 =>
      cases rb with
      | tup s2 d2 =>
        refine .inr (.inr ⟨_, _, _, _, rfl, rfl, same_t hw_same s1, same_t hw_same s2, by rw [d1.len, d2.len]; exact q.1, fun e => ?_, fun e e2 => ?_, fun _ _ z hz => k.tup hw hz (d1.app d2) q.2⟩)
        · subst e
          cases d1
          exact k.d (.tup s2 d2) q.2
        · subst e2
          cases d2
          rw [List.append_nil] at q
          exact k.d (.tup s1 d1) q.2
  · exact q.elim
end
end DL

set_option Elab.async false
set_option linter.all false
set_option maxRecDepth 100000
set_option maxHeartbeats 4000000
set_option autoImplicit false
namespace DL
open PySem PySem.Spec L2

/-! ### names, constants -/
def tdV (i : Nat) : TD := fun env Q => match env[i]? with
  | some (some (.d x)) => Q (.d x) env
  | some (some _) => Q (.o i) env
  | _ => False
def tdC (x : PyData) : TD := fun env Q => Q (.d x) env
section
variable {X : Cx} {e a b c : Expr} {es : List Expr} {ta tb tc : TD} {pos : Pos}
theorem pd_var {i : Nat} {x : Str} (h : PE X (.Name x pos) (tVar i)) : PD X (.Name x pos) (tdV i) := by
  refine ⟨_, h, fun σ H W A env Q Qd E ht k => ?_⟩
  unfold tdV at ht
  split at ht
  · rename_i y hy
    obtain ⟨_, v, hv, hd⟩ := E.dat i y hy
    exact ⟨v, hv, k v H W env (.d y) E .refl hd ht⟩
  · rename_i s hn hs
    have hf : s.isD = false := by
      cases s with
      | d x => exact absurd hs (by intro z; exact hn x (by simpa using z))
      | _ => rfl
    obtain ⟨p, hp, hv, ow⟩ := E.own i s hs hf
    exact ⟨_, hv, k _ H W env (.o i) E .refl ⟨p, hp, rfl⟩ ht⟩
  · exact ht.elim
theorem pdv (i : Nat) {x : Str} (hN : X.N[i]? = some x := by rfl) (hv : Vis X.env.scope x := by first | exact Or.inl rfl | exact Or.inr (Or.inl rfl) | exact Or.inr (Or.inr rfl)) (hd : (x == ("__debug__" : Str)) = false := by decide)
    (hcd : (x == ("__classdict__" : Str)) = false := by decide) : PD X (.Name x pos) (tdV i) := pd_var (pe_var hN hv hd hcd)
theorem pd_c {v : V} {x : PyData} (h : PE X e (tC v)) (hx : ∀ K H, Dp K H v x) : PD X e (tdC x) := ⟨_, h, fun σ H W A env Q Qd E ht k => k v H W env (.d x) E .refl (hx _ _) ht⟩
theorem pd_int {i : Int} {j : Nat} : PD X (.Constant (.int i) j pos) (tdC (.int i)) := pd_c pe_int fun _ _ => .int _
theorem pd_str {i : Str} {j : Nat} : PD X (.Constant (.str i) j pos) (tdC (.str i)) := pd_c pe_str fun _ _ => .str _
theorem pd_bl {i : Bool} {j : Nat} : PD X (.Constant (.bool i) j pos) (tdC (.bool i)) := pd_c pe_bl fun _ _ => .bl _
theorem pd_non {j : Nat} : PD X (.Constant .none j pos) (tdC .none) := pd_c pe_non fun _ _ => .non
/-- a number or text of the module's top -/
theorem pd_gint {x : Str} {i : Int} {t : Tok} (hg : Gl X x) (hm : X.mg x = some (.int i t)) (hd : (x == ("__debug__" : Str)) = false := by decide) : PD X (.Name x pos) (tdC (.int i)) := pd_c (pe_glob (v := .int i) hg hm ⟨t, rfl⟩ hd) fun _ _ => .int _
theorem pd_gstr {x : Str} {i : Str} {t : Tok} (hg : Gl X x) (hm : X.mg x = some (.str i t)) (hd : (x == ("__debug__" : Str)) = false := by decide) : PD X (.Name x pos) (tdC (.str i)) := pd_c (pe_glob (v := .str i) hg hm ⟨t, rfl⟩ hd) fun _ _ => .str _

/-! ### lists of arguments -/
def tdNil : TDA := fun env Q => Q [] env
def tdCons (t : TD) (u : TDA) : TDA := fun env Q => t env fun x env1 => u env1 fun xs env2 => Q (x :: xs) env2
theorem pda_nil : PDA X [] tdNil := ⟨_, pa_nil, fun σ H W A env Q Qd E ht k => k [] H W env [] E .refl .nil ht⟩
theorem pda_cons {u : TDA} (ha : PD X e ta) (hr : PDA X es u) (hs : starEach (e :: es) X.env = (false, eval e X.env) :: starEach es X.env := by rfl) : PDA X (e :: es) (tdCons ta u) := by
  obtain ⟨t1, p1, q1⟩ := ha
  obtain ⟨t2, p2, q2⟩ := hr
  refine ⟨_, pa_cons p1 p2 hs, fun σ H W A env Q Qd E ht k => ?_⟩
  refine q1 σ H W A env _ _ E ht fun x H1 W1 env1 rx E1 S1 R1 h1 => ?_
  refine q2 σ H1 W1 A env1 _ _ E1 h1 fun xs H2 W2 env2 rxs E2 S2 R2 h2 => ?_
  refine k (x :: xs) H2 W2 env2 (rx :: rxs) E2 (S1.trans S2) (.cons (R1.step S2 E1.ain E.ain) (fun p s e1 e2 => ?_) S1 R2) h2
  subst e1
  obtain ⟨p', e3, _, m, _⟩ := R1
  rw [e2] at e3; cases e3
  exact m
end
/-- data for keeping: new lists are let go -/
def resAll : List Rv → Option (List PyData)
  | [] => some []
  | .d x :: r => (resAll r).map (x :: ·)
  | .n (.l xs) :: r => (resAll r).map (.list xs :: ·)
  | _ :: _ => none
/-- data for reading -/
def resR (env : En) : List Rv → Option (List PyData)
  | [] => some []
  | rv :: r => match res env rv with
    | some x => (resR env r).map (x :: ·)
    | none => none
section
variable {K : PySem.W.Frag} {H H' H0 H1 H2 : Hp} {W W' W0 W1 W2 : List Addr} {A : List (Option Addr)} {a b p : Addr} {o : HO} {v : V} {x : PyData} {vs : List V} {xs : List PyData} {env : En} {σ : L2.St}
def rel (W : List Addr) (p : Addr) : List Addr := W.filter fun q => decide (q ≠ p)
theorem mem_rel {q : Addr} : q ∈ rel W p ↔ q ∈ W ∧ q ≠ p := by unfold rel; simp
theorem rel_same : Same (HW H W) (HW H (rel W p)) := fun b o h => by
  obtain ⟨h1, h2⟩ := hw_some h
  exact hw_of (fun z => h1 (mem_rel.mp z).1) h2
theorem sub_same (h : ∀ q, q ∈ W' → q ∈ W) : Same (HW H W) (HW H W') := fun b o e => by
  obtain ⟨h1, h2⟩ := hw_some e
  exact hw_of (fun z => h1 (h b z)) h2
theorem EnR.sub (E : EnR K H W A env σ) (h : ∀ q, q ∈ W' → q ∈ W) (ha : AinW A W') : EnR K H W' A env σ := by
  refine ⟨E.len, E.lenA, fun i x h1 => ?_, fun i s h1 hs => ?_, fun i a h1 => ?_, E.inj, fun q hq => E.trk q (h q hq)⟩
  · obtain ⟨a, v, b, c⟩ := E.dat i x h1
    exact ⟨a, v, b, dp_mono (sub_same h) _ c⟩
  · obtain ⟨a, b, c, d⟩ := E.own i s h1 hs
    exact ⟨a, b, c, d.mono (sub_same h) rfl⟩
  · obtain ⟨a1, b⟩ := E.back i a h1
    exact ⟨ha a (List.mem_of_getElem? h1), b⟩
theorem Stp.sub (S : Stp A H0 W0 H W) (h : ∀ q, q ∈ W' → q ∈ W) (k : ∀ q, q ∈ W → q ∈ W0 → q ∈ W') : Stp A H0 W0 H W' :=
  ⟨S.ext, S.there, fun q hq => k q (S.up q hq) hq, fun q hq => S.fr q (h q hq)⟩
/-- what is kept as data is let go -/
theorem RvRs.keep : ∀ {rvs : List Rv} {vs : List V} {H0 : Hp} {W0 : List Addr} {xs : List PyData}, RvRs K H W A H0 W0 rvs vs → resAll rvs = some xs →
    ∃ W', (∀ q, q ∈ W' → q ∈ W) ∧ (∀ q, q ∈ W → q ∈ W0 → q ∈ W') ∧ DpAll K (HW H W') vs xs := by
  intro rvs
  induction rvs with
  | nil =>
    intro vs H0 W0 xs r e
    cases r
    cases e
    exact ⟨W, fun _ h => h, fun _ h _ => h, .nil⟩
  | cons rv rvs ih =>
    intro vs H0 W0 xs r e
    cases r with
    | @cons _ _ _ v _ vs H1 W1 r1 m S1 r2 =>
      cases rv with
      | d x =>
        obtain ⟨ys, e1, e2⟩ := Option.map_eq_some_iff.mp (show (resAll rvs).map (x :: ·) = some xs from e)
        subst e2
        obtain ⟨W', h1, h2, d⟩ := ih r2 e1
        exact ⟨W', h1, fun q hq z => h2 q hq (S1.up q z), .cons (dp_mono (sub_same h1) _ r1) d⟩
      | o i => cases e
      | n s =>
        cases s with
        | l zs =>
          obtain ⟨ys, e1, e2⟩ := Option.map_eq_some_iff.mp (show (resAll rvs).map (.list zs :: ·) = some xs from e)
          subst e2
          obtain ⟨W', h1, h2, d⟩ := ih r2 e1
          obtain ⟨p, rfl, _, _, np, ws, hp, dz⟩ := r1
          have hs : ∀ q, q ∈ rel W' p → q ∈ W := fun q hq => h1 q (mem_rel.mp hq).1
          refine ⟨rel W' p, hs, fun q hq z => mem_rel.mpr ⟨h2 q hq (S1.up q z), fun e => np (by rw [← e]; exact z)⟩, .cons (.lst (.inl (.inl (hw_of (fun z => (mem_rel.mp z).2 rfl) hp))) (dpa_mono (sub_same hs) _ dz)) (dpa_mono rel_same _ d)⟩
        | d _ => cases e
        | m _ => cases e
        | t _ => cases e
/-- data that is read -/
inductive DqAll (K : PySem.W.Frag) (H : Hp) (W : List Addr) : List V → List PyData → Prop
  | nil : DqAll K H W [] []
  | cons {v : V} {x : PyData} {vs : List V} {xs : List PyData} : Dq K H W v x → DqAll K H W vs xs → DqAll K H W (v :: vs) (x :: xs)
theorem RvRs.read : ∀ {rvs : List Rv} {vs : List V} {H0 : Hp} {W0 : List Addr} {xs : List PyData}, RvRs K H W A H0 W0 rvs vs → EnR K H W A env σ → resR env rvs = some xs → DqAll K H W vs xs := by
  intro rvs
  induction rvs with
  | nil =>
    intro vs H0 W0 xs r E e
    cases r
    cases e
    exact .nil
  | cons rv rvs ih =>
    intro vs H0 W0 xs r E e
    cases r with
    | @cons _ _ _ v _ vs H1 W1 r1 m S1 r2 =>
      unfold resR at e
      split at e
      · rename_i x ex
        obtain ⟨ys, e1, e2⟩ := Option.map_eq_some_iff.mp e
        subst e2
        exact .cons (.of_rv E r1 ex) (ih r2 E e1)
      · cases e
end
end DL

set_option Elab.async false
set_option linter.all false
set_option maxRecDepth 100000
set_option maxHeartbeats 4000000
set_option autoImplicit false
namespace DL
open PySem PySem.Spec L2

section
variable {K : PySem.W.Frag} {H H0 : Hp} {W W0 : List Addr} {A : List (Option Addr)} {env : En} {σ : L2.St} {Q : VK} {Qd : Rv → En → Prop}
theorem fin_up (E : EnR K H W A env σ) (S : Stp A H0 W0 H W) (k : ∀ v H' W' env' rv, EnR K H' W' A env' σ → Stp A H0 W0 H' W' → RvR K H0 W0 H' W' A rv v → Qd rv env' → Q v H') : Fin1 K H W (fun z => Qd z env) Q := by
  intro v H' W' rv g R q
  refine k v H' W' env rv (g.en E) (S.trans g.stp) ?_ q
  have R' : RvR K H W H' W' A rv v := by
    cases rv with
    | d x => exact R
    | o i => obtain ⟨a, ha, _⟩ := R; cases i <;> simp at ha
    | n s => exact R
  exact R'.from S
end

/-! ### displays -/
def tdTup (t : TDA) : TD := fun env Q => t env fun rvs env1 => match resAll rvs with
  | some xs => xs.length ≤ sizeLine ∧ Q (.d (.tuple xs)) env1
  | none => False
def tdLst (t : TDA) : TD := fun env Q => t env fun rvs env1 => match resAll rvs with
  | some xs => xs.length ≤ sizeLine ∧ Q (.n (.l xs)) env1
  | none => False
/-- a built-in called, by what its arguments are -/
def BD (X : Cx) (f : Value) (r : List PyData → (Rv → Prop) → Prop) : Prop :=
  ∃ rV, CallR X f rV ∧ ∀ (H : Hp) (W : List Addr) (vs : List V) (xs : List PyData) (Q : VK) (Qd : Rv → Prop), (∀ p, p ∈ W → H p ≠ none) → DqAll X.K H W vs xs → r xs Qd → Fin1 X.K H W Qd Q → rV vs H Q
def tdB (r : List PyData → (Rv → Prop) → Prop) (t : TDA) : TD := fun env Q => t env fun rvs env1 => match resR env1 rvs with
  | some xs => r xs fun z => Q z env1
  | none => False
section
variable {X : Cx} {e a b c : Expr} {es : List Expr} {ta tb tc : TD} {pos p : Pos} {t : TDA} {x : Str}
theorem pd_tup {k : Nat} (h : PDA X es t) : PD X (.Tuple es k pos) (tdTup t) := by
  obtain ⟨t1, p1, q1⟩ := h
  refine ⟨_, pe_tup p1, fun σ H W A env Q Qd E ht k => ?_⟩
  refine q1 σ H W A env _ _ E ht fun vs H1 W1 env1 rvs E1 S1 R1 h1 => ?_
  split at h1
  · rename_i xs ex
    obtain ⟨W', s1, s2, d⟩ := R1.keep ex
    have E' := E1.sub s1 fun a ha => s2 a (E1.ain a ha) (E.ain a ha)
    have S' := S1.sub s1 s2
    refine ⟨by rw [d.len]; exact h1.1, fun p hp => ?_⟩
    exact (fin_up E' S' k).tup E'.trk hp d h1.2
  · exact h1.elim
theorem pd_lst (h : PDA X es t) : PD X (.List es pos) (tdLst t) := by
  obtain ⟨t1, p1, q1⟩ := h
  refine ⟨_, pe_lst p1, fun σ H W A env Q Qd E ht k => ?_⟩
  refine q1 σ H W A env _ _ E ht fun vs H1 W1 env1 rvs E1 S1 R1 h1 => ?_
  split at h1
  · rename_i xs ex
    obtain ⟨W', s1, s2, d⟩ := R1.keep ex
    have E' := E1.sub s1 fun a ha => s2 a (E1.ain a ha) (E.ain a ha)
    have S' := S1.sub s1 s2
    refine ⟨by rw [d.len]; exact h1.1, fun p hp => ?_⟩
    exact (fin_up E' S' k).lst E'.trk hp d h1.2
  · exact h1.elim
theorem pd_bd {rV : List V → Hp → VK → Prop} {r : List PyData → (Rv → Prop) → Prop} {t1 : TA} (h2 : ∀ (H : Hp) (W : List Addr) (vs : List V) (xs : List PyData) (Q : VK) (Qd : Rv → Prop), (∀ p, p ∈ W → H p ≠ none) → DqAll X.K H W vs xs → r xs Qd → Fin1 X.K H W Qd Q → rV vs H Q)
    (q1 : ∀ (σ : L2.St) (H : Hp) (W : List Addr) (A : List (Option Addr)) (env : En) (Q : List V → Hp → Prop) (Qd : List Rv → En → Prop), EnR X.K H W A env σ → t env Qd → (∀ vs H' W' env' rvs, EnR X.K H' W' A env' σ → Stp A H W H' W' → RvRs X.K H' W' A H W rvs vs → Qd rvs env' → Q vs H') → t1 σ H Q)
    (he : PE X e (tCB rV t1)) : PD X e (tdB r t) := by
  refine ⟨_, he, fun σ H W A env Q Qd E ht k => ?_⟩
  refine q1 σ H W A env _ _ E ht fun vs H1 W1 env1 rvs E1 S1 R1 h1 => ?_
  split at h1
  · rename_i xs ex
    exact h2 H1 W1 vs xs Q _ E1.trk (R1.read E1 ex) h1 (fin_up E1 S1 k)
  · exact h1.elim
theorem pd_callB {id : String} {r : List PyData → (Rv → Prop) → Prop} (hb : BD X (.builtin id) r) (hg : Gl X x) (hm : X.mg x = none) (hv : bootBuiltins x = some (.builtin id)) (ha : PDA X (e :: es) t) (hn : x ≠ "__name__" := by decide) (hdb : (x == ("__debug__" : Str)) = false := by decide)
    (he : starEach (e :: es) X.env = (false, eval e X.env) :: starEach es X.env := by rfl) (hpl : (backTo pos (starEach es X.env)).any (·.1) = false := by rfl) : PD X (.Call (.Name x p) (e :: es) [] pos) (tdB r t) := by
  obtain ⟨rV, h1, h2⟩ := hb
  obtain ⟨t1, p1, q1⟩ := ha
  exact pd_bd h2 q1 (pe_callB h1 hg hm hv p1 hn hdb he hpl)
theorem pd_callTy {T : String} {r : List PyData → (Rv → Prop) → Prop} (hb : BD X (.type T) r) (hg : Gl X x) (hm : X.mg x = none) (hv : bootBuiltins x = some (.type T)) (ha : PDA X (e :: es) t) (hn : x ≠ "__name__" := by decide) (hdb : (x == ("__debug__" : Str)) = false := by decide)
    (he : starEach (e :: es) X.env = (false, eval e X.env) :: starEach es X.env := by rfl) (hpl : (backTo pos (starEach es X.env)).any (·.1) = false := by rfl) : PD X (.Call (.Name x p) (e :: es) [] pos) (tdB r t) := by
  obtain ⟨rV, h1, h2⟩ := hb
  obtain ⟨t1, p1, q1⟩ := ha
  exact pd_bd h2 q1 (pe_callTy h1 hg hm hv p1 hn hdb he hpl)
end

/-! ### the built-ins -/
theorem dqall1 {K : PySem.W.Frag} {H : Hp} {W : List Addr} {vs : List V} {x : PyData} (h : DqAll K H W vs [x]) : ∃ v, vs = [v] ∧ Dq K H W v x := by
  cases h with
  | cons a b => cases b; exact ⟨_, rfl, a⟩
theorem dqall2 {K : PySem.W.Frag} {H : Hp} {W : List Addr} {vs : List V} {x y : PyData} (h : DqAll K H W vs [x, y]) : ∃ v u, vs = [v, u] ∧ Dq K H W v x ∧ Dq K H W u y := by
  cases h with
  | cons a b => cases b with
    | cons b c => cases c; exact ⟨_, _, rfl, a, b⟩
def rdLen : List PyData → (Rv → Prop) → Prop
  | [.list xs], Q => Q (.d (.int xs.length))
  | [.tuple xs], Q => Q (.d (.int xs.length))
  | [.str x], Q => x.length ≤ sizeLine ∧ Q (.d (.int x.length))
  | _, _ => False
def rdInt : List PyData → (Rv → Prop) → Prop
  | [.int i], Q => Q (.d (.int i))
  | [.bool b], Q => Q (.d (.int (if b then 1 else 0)))
  | _, _ => False
def rdAbs : List PyData → (Rv → Prop) → Prop
  | [.int i], Q => Q (.d (.int (if i < 0 then -i else i)))
  | _, _ => False
def rdMax2 : List PyData → (Rv → Prop) → Prop
  | [.int i, .int j], Q => Q (.d (.int (if j > i then j else i)))
  | _, _ => False
def rdMin2 : List PyData → (Rv → Prop) → Prop
  | [.int i, .int j], Q => Q (.d (.int (if j < i then j else i)))
  | _, _ => False
def rdOrd : List PyData → (Rv → Prop) → Prop
  | [.str x], Q => x.length = 1 ∧ Q (.d (.int (x.cps.getD 0 0 : Nat)))
  | _, _ => False
def rdTuple : List PyData → (Rv → Prop) → Prop
  | [.list xs], Q => Q (.d (.tuple xs))
  | [.tuple xs], Q => Q (.d (.tuple xs))
  | _, _ => False
def rdList : List PyData → (Rv → Prop) → Prop
  | [.list xs], Q => Q (.n (.l xs))
  | [.tuple xs], Q => Q (.n (.l xs))
  | _, _ => False
def intsOf : List PyData → Option (List Int)
  | [] => some []
  | .int i :: r => (intsOf r).map (i :: ·)
  | _ :: _ => none
theorem intsOf_map : ∀ ns : List Int, intsOf (ns.map PyData.int) = some ns
  | [] => rfl
  | n :: ns => by rw [List.map_cons]; unfold intsOf; rw [intsOf_map ns]; rfl
theorem intsOf_eq : ∀ {xs : List PyData} {ns : List Int}, intsOf xs = some ns → xs = ns.map PyData.int
  | [], _, h => by cases h; rfl
  | .int i :: r, ns, h => by
    obtain ⟨ms, e1, e2⟩ := Option.map_eq_some_iff.mp (show (intsOf r).map (i :: ·) = some ns from h)
    subst e2
    rw [intsOf_eq e1]; rfl
  | .none :: _, _, h => by cases h
  | .bool _ :: _, _, h => by cases h
  | .str _ :: _, _, h => by cases h
  | .list _ :: _, _, h => by cases h
  | .tuple _ :: _, _, h => by cases h
  | .dict _ :: _, _, h => by cases h
/-- sorted of a list of ints -/
def rdSorted : List PyData → (Rv → Prop) → Prop
  | [.list xs], Q => ∃ ns : List Int, xs = ns.map PyData.int ∧ ∀ ms : List Int, ms.Perm ns → ms.Pairwise (· ≤ ·) → Q (.n (.l (ms.map PyData.int)))
  | _, _ => False
def rdSum : List PyData → (Rv → Prop) → Prop
  | [.list xs], Q => ∃ ns : List Int, xs = ns.map PyData.int ∧ Q (.d (.int ns.sum))
  | _, _ => False
def rdAll : List PyData → (Rv → Prop) → Prop
  | [.list xs], Q => ∃ ns : List Bool, xs = ns.map PyData.bool ∧ Q (.d (.bool (ns.all id)))
  | _, _ => False
def rdAny : List PyData → (Rv → Prop) → Prop
  | [.list xs], Q => ∃ ns : List Bool, xs = ns.map PyData.bool ∧ Q (.d (.bool (ns.any id)))
  | _, _ => False
section
variable {X : Cx}
theorem bd_len : BD X (.builtin "len") rdLen := by
  refine ⟨_, call_len_seq.or call_len_str, fun H W vs xs Q Qd hw r q k => ?_⟩
  unfold rdLen at q
  split at q
  · obtain ⟨v, rfl, p, ws, rfl, s, d⟩ := dqall1 r
    exact .inl ⟨p, ws, rfl, .inl s, by rw [d.len]; exact k.int q⟩
  · obtain ⟨v, rfl, d⟩ := dqall1 r
    cases d with
    | tup s d => exact .inl ⟨_, _, rfl, .inr (same_t hw_same s), by rw [d.len]; exact k.int q⟩
  · obtain ⟨v, rfl, d⟩ := dqall1 r
    exact .inr ⟨_, by rw [d.str], q.1, k.int q.2⟩
  · exact q.elim
theorem bd_int : BD X (.type "int") rdInt := by
  refine ⟨_, call_int1, fun H W vs xs Q Qd hw r q k => ?_⟩
  unfold rdInt at q
  split at q
  · obtain ⟨v, rfl, d⟩ := dqall1 r
    exact .inl ⟨_, by rw [d.int], k.int q⟩
  · obtain ⟨v, rfl, d⟩ := dqall1 r
    exact .inr ⟨_, by rw [d.bl], k.int q⟩
  · exact q.elim
theorem bd_abs : BD X (.builtin "abs") rdAbs := by
  refine ⟨_, call_abs, fun H W vs xs Q Qd hw r q k => ?_⟩
  unfold rdAbs at q
  split at q
  · obtain ⟨v, rfl, d⟩ := dqall1 r
    exact ⟨_, by rw [d.int], k.int q⟩
  · exact q.elim
theorem bd_max2 (hc : X.calm = true) : BD X (.builtin "max") rdMax2 := by
  refine ⟨_, call_max2 hc, fun H W vs xs Q Qd hw r q k => ?_⟩
  unfold rdMax2 at q
  split at q
  · obtain ⟨v, u, rfl, d, d2⟩ := dqall2 r
    exact ⟨_, _, by rw [d.int, d2.int], k.int q⟩
  · exact q.elim
theorem bd_min2 (hc : X.calm = true) : BD X (.builtin "min") rdMin2 := by
  refine ⟨_, call_min2 hc, fun H W vs xs Q Qd hw r q k => ?_⟩
  unfold rdMin2 at q
  split at q
  · obtain ⟨v, u, rfl, d, d2⟩ := dqall2 r
    exact ⟨_, _, by rw [d.int, d2.int], k.int q⟩
  · exact q.elim
theorem bd_ord : BD X (.builtin "ord") rdOrd := by
  refine ⟨_, call_ord, fun H W vs xs Q Qd hw r q k => ?_⟩
  unfold rdOrd at q
  split at q
  · obtain ⟨v, rfl, d⟩ := dqall1 r
    exact ⟨_, by rw [d.str], q.1, k.int q.2⟩
  · exact q.elim
theorem bd_tuple : BD X (.type "tuple") rdTuple := by
  refine ⟨_, call_tuple_of, fun H W vs xs Q Qd hw r q k => ?_⟩
  unfold rdTuple at q
  split at q
  · obtain ⟨v, rfl, p, ws, rfl, s, d⟩ := dqall1 r
    exact ⟨p, ws, rfl, .inl ⟨s, fun l hl => k.tup hw hl d q⟩⟩
  · obtain ⟨v, rfl, d⟩ := dqall1 r
    cases d with
    | tup s d => exact ⟨_, _, rfl, .inr ⟨same_t hw_same s, k.d (.tup s d) q⟩⟩
  · exact q.elim
theorem bd_list : BD X (.type "list") rdList := by
  refine ⟨_, call_list_of, fun H W vs xs Q Qd hw r q k => ?_⟩
  unfold rdList at q
  split at q
  · obtain ⟨v, rfl, p, ws, rfl, s, d⟩ := dqall1 r
    exact ⟨p, ws, rfl, .inl s, fun l hl => k.lst hw hl d q⟩
  · obtain ⟨v, rfl, d⟩ := dqall1 r
    cases d with
    | tup s d => exact ⟨_, _, rfl, .inr (same_t hw_same s), fun l hl => k.lst hw hl d q⟩
  · exact q.elim
theorem bd_sorted : BD X (.builtin "sorted") rdSorted := by
  refine ⟨_, cr_sortedI, fun H W vs xs Q Qd hw r q k => ?_⟩
  unfold rdSorted at q
  split at q
  · obtain ⟨v, rfl, p, ws, rfl, s, d⟩ := dqall1 r
    obtain ⟨ns, rfl, q⟩ := q
    rw [d.ints] at s
    exact ⟨p, ns, rfl, s, fun ms l h1 h2 hl => k.lst hw hl (.of_ints ms) (q ms h1 h2)⟩
  · exact q.elim
theorem bd_sum (hc : X.calm = true) : BD X (.builtin "sum") rdSum := by
  refine ⟨_, cr_sum hc, fun H W vs xs Q Qd hw r q k => ?_⟩
  unfold rdSum at q
  split at q
  · obtain ⟨v, rfl, p, ws, rfl, s, d⟩ := dqall1 r
    obtain ⟨ns, rfl, q⟩ := q
    rw [d.ints] at s
    exact ⟨p, ns, rfl, s, k.int q⟩
  · exact q.elim
theorem bd_all (hc : X.calm = true) : BD X (.builtin "all") rdAll := by
  refine ⟨_, cr_all hc, fun H W vs xs Q Qd hw r q k => ?_⟩
  unfold rdAll at q
  split at q
  · obtain ⟨v, rfl, p, ws, rfl, s, d⟩ := dqall1 r
    obtain ⟨ns, rfl, q⟩ := q
    rw [d.bools] at s
    exact ⟨p, ns, rfl, s, k.bl q⟩
  · exact q.elim
theorem bd_any (hc : X.calm = true) : BD X (.builtin "any") rdAny := by
  refine ⟨_, cr_any hc, fun H W vs xs Q Qd hw r q k => ?_⟩
  unfold rdAny at q
  split at q
  · obtain ⟨v, rfl, p, ws, rfl, s, d⟩ := dqall1 r
    obtain ⟨ns, rfl, q⟩ := q
    rw [d.bools] at s
    exact ⟨p, ns, rfl, s, k.bl q⟩
  · exact q.elim
end

/-! ### subscripts and slices -/
def rdIx : PyData → PyData → (Rv → Prop) → Prop
  | .list xs, .int i, Q => match atI xs i with
    | some x => Q (.d x)
    | none => False
  | .tuple xs, .int i, Q => match atI xs i with
    | some x => Q (.d x)
    | none => False
  | .str z, .int i, Q => z.length ≤ sizeLine ∧ match atI z.cps.toList i with
    | some c => Q (.d (.str ⟨#[c]⟩))
    | none => False
  | _, _, _ => False
def cutL (xs : List PyData) (lo hi : Option Int) : List PyData := (xs.drop (HT.sIx xs.length 0 lo)).take (HT.sIx xs.length xs.length hi - HT.sIx xs.length 0 lo)
abbrev TDO := En → (Option Int → En → Prop) → Prop
def PDO (X : Cx) (e : Option Expr) (t : TDO) : Prop := ∃ to, PO X e to ∧ ∀ (σ : L2.St) (H : Hp) (W : List Addr) (A : List (Option Addr)) (env : En) (Q : Option Int → Hp → Prop) (Qd : Option Int → En → Prop), EnR X.K H W A env σ → t env Qd →
  (∀ b H' W' env', EnR X.K H' W' A env' σ → Stp A H W H' W' → Qd b env' → Q b H') → to σ H Q
def tdNoPart : TDO := fun env Q => Q none env
def tdPart (t : TD) : TDO := fun env Q => t env fun x env1 => match res env1 x with
  | some (.int i) => Q (some i) env1
  | _ => False
def rdSl (x : PyData) (lo hi : Option Int) (Q : Rv → Prop) : Prop := match x with
  | .list xs => Q (.n (.l (cutL xs lo hi)))
  | .tuple xs => Q (.d (.tuple (cutL xs lo hi)))
  | .str z => z.length ≤ sizeLine ∧ Q (.d (.str (cutS z lo hi)))
  | _ => False
def tdSl (t : TD) (tl th : TDO) : TD := fun env Q => t env fun x env1 => tl env1 fun lo env2 => th env2 fun hi env3 => match res env3 x with
  | some y => rdSl y lo hi fun z => Q z env3
  | none => False
section
variable {X : Cx} {e a b c : Expr} {ta tb tc : TD} {pos p2 : Pos} {tl th : TDO} {lo hi : Option Expr}
theorem atI_dp {K : PySem.W.Frag} {H : Hp} {vs : List V} {xs : List PyData} {i : Int} {x : PyData} (d : DpAll K H vs xs) (h : atI xs i = some x) : ∃ v, atI vs i = some v ∧ Dp K H v x := by
  unfold atI at h ⊢
  rw [d.len]
  obtain ⟨j, h1, h2⟩ := Option.bind_eq_some_iff.mp h
  obtain ⟨v, e1, e2⟩ := d.get h2
  exact ⟨v, by rw [h1]; exact e1, e2⟩
theorem pd_ix (ha : PD X a ta) (hb : PD X b tb) (hs : PlainIx b := by exact fun _ _ => rfl) : PD X (.Subscript a b pos) (tdBin rdIx ta tb) := by
  obtain ⟨t1, p1, q1⟩ := ha
  obtain ⟨t2, p2, q2⟩ := hb
  refine pd_two (fun H W x y a b Q Qd hw ra rb q k => ?_) q1 q2 (pe_ix ix_seq p1 p2 hs)
  unfold rdIx at q
  split at q
  · split at q
    · rename_i ex
      obtain ⟨p, ws, rfl, s, d⟩ := ra
      obtain ⟨v, h1, h2⟩ := atI_dp d ex
      exact .inl ⟨p, ws, _, v, rfl, rb.int, s, h1, k.d h2 q⟩
    · exact q.elim
  · split at q
    · rename_i ex
      cases ra with
      | tup s d =>
        obtain ⟨v, h1, h2⟩ := atI_dp d ex
        exact .inr (.inl ⟨_, _, _, v, rfl, rb.int, same_t hw_same s, h1, k.d h2 q⟩)
    · exact q.elim
  · obtain ⟨hz, q⟩ := q
    split at q
    · rename_i ex
      exact .inr (.inr ⟨_, _, _, ra.str, rb.int, hz, ex, k.str q⟩)
    · exact q.elim
  · exact q.elim
theorem pdo_none : PDO X none tdNoPart := ⟨_, po_none, fun σ H W A env Q Qd E ht k => k none H W env E .refl ht⟩
theorem pdo_some (h : PD X e ta) : PDO X (some e) (tdPart ta) := by
  obtain ⟨t1, p1, q1⟩ := h
  refine ⟨_, po_some p1, fun σ H W A env Q Qd E ht k => ?_⟩
  refine q1 σ H W A env _ _ E ht fun v H1 W1 env1 rv E1 S1 R1 h1 => ?_
  split at h1
  · rename_i i ei
    exact ⟨i, (Dq.of_rv E1 R1 ei).int, k _ H1 W1 env1 E1 S1 h1⟩
  · exact h1.elim
theorem cut_dp {K : PySem.W.Frag} {H : Hp} {vs : List V} {xs : List PyData} {lo hi : Option Int} (d : DpAll K H vs xs) : DpAll K H (cutV vs lo hi) (cutL xs lo hi) := by
  unfold cutV cutL
  rw [d.len]
  exact (d.drop _).take _
theorem cutL_whole {xs : List PyData} {lo hi : Option Int} (h1 : HT.sIx xs.length 0 lo = 0) (h2 : HT.sIx xs.length xs.length hi = xs.length) : cutL xs lo hi = xs := by
  unfold cutL
  rw [h1, h2]
  simp
theorem pd_slice (ha : PD X e ta) (hl : PDO X lo tl) (hh : PDO X hi th) : PD X (.Subscript e (.Slice lo hi none p2) pos) (tdSl ta tl th) := by
  obtain ⟨t1, p1, q1⟩ := ha
  obtain ⟨t2, p2, q2⟩ := hl
  obtain ⟨t3, p3, q3⟩ := hh
  refine ⟨_, pe_slice (sl_list.or (sl_tupA.or sl_str)) p1 p2 p3, fun σ H W A env Q Qd E ht k => ?_⟩
  refine q1 σ H W A env _ _ E ht fun x H1 W1 env1 rx E1 S1 R1 h1 => ?_
  refine q2 σ H1 W1 A env1 _ _ E1 h1 fun lo H2 W2 env2 E2 S2 h2 => ?_
  refine q3 σ H2 W2 A env2 _ _ E2 h2 fun hi H3 W3 env3 E3 S3 h3 => ?_
  have S := S2.trans S3
  have R := R1.step S E1.ain E.ain
  split at h3
  · rename_i y ey
    have D := Dq.of_rv E3 R ey
    have F := fin_up E3 (S1.trans S) k
    unfold rdSl at h3
    split at h3
    · obtain ⟨p, ws, rfl, s, d⟩ := D
      exact .inl ⟨p, ws, rfl, s, fun l hl => F.lst E3.trk hl (cut_dp d) h3⟩
    · cases D with
      | tup s d =>
        refine .inr (.inl ⟨_, _, rfl, same_t hw_same s, fun ⟨w1, w2⟩ => ?_, fun _ l hl => F.tup E3.trk hl (cut_dp d) h3⟩)
        rw [d.len] at w1 w2
        rw [cutL_whole w1 w2] at h3
        exact F.d (.tup s d) h3
    · exact .inr (.inr ⟨_, D.str, h3.1, F.str h3.2⟩)
    · exact h3.elim
  · exact h3.elim
end
end DL

set_option Elab.async false
set_option linter.all false
set_option maxRecDepth 100000
set_option maxHeartbeats 4000000
set_option autoImplicit false
namespace DL
open PySem PySem.Spec L2

def tdTest (t : TD) : TDT := fun env Q => t env fun x env1 => match res env1 x with
  | some (.bool b) => Q b env1
  | _ => False
def tdAnd (t u : TDT) : TDT := fun env Q => t env fun b env1 => if b = true then u env1 Q else Q false env1
def tdOr (t u : TDT) : TDT := fun env Q => t env fun b env1 => if b = true then Q true env1 else u env1 Q
def tdNot (t : TDT) : TDT := fun env Q => t env fun b env1 => Q (!b) env1
def tdIf (t : TDT) (u v : TD) : TD := fun env Q => t env fun b env1 => if b = true then u env1 Q else v env1 Q
def tdAndV (t u : TD) : TD := fun env Q => t env fun x env1 => match res env1 x with
  | some (.bool b) => if b = true then u env1 Q else Q (.d (.bool false)) env1
  | _ => False
def tdOrV (t u : TD) : TD := fun env Q => t env fun x env1 => match res env1 x with
  | some (.bool b) => if b = true then Q (.d (.bool true)) env1 else u env1 Q
  | _ => False
def tdNotV (t : TD) : TD := fun env Q => t env fun x env1 => match res env1 x with
  | some (.bool b) => Q (.d (.bool (!b))) env1
  | _ => False
def tdNeg (t : TD) : TD := fun env Q => t env fun x env1 => match res env1 x with
  | some (.int i) => Q (.d (.int (-i))) env1
  | _ => False
def tdIsN (t : TD) : TD := fun env Q => t env fun x env1 => match x with
  | .d .none => Q (.d (.bool true)) env1
  | _ => Q (.d (.bool false)) env1
def tdNotN (t : TD) : TD := fun env Q => t env fun x env1 => match x with
  | .d .none => Q (.d (.bool false)) env1
  | _ => Q (.d (.bool true)) env1
def PDW (X : Cx) (e : Expr) (t : TDT) : Prop := ∃ tt, PW X e tt ∧ ∀ (σ : L2.St) (H : Hp) (W : List Addr) (A : List (Option Addr)) (env : En) (Q : Bool → Hp → Prop) (Qd : Bool → En → Prop), EnR X.K H W A env σ → t env Qd →
  (∀ b H' W' env', EnR X.K H' W' A env' σ → Stp A H W H' W' → Qd b env' → Q b H') → tt σ H Q
section
variable {X : Cx} {e a b c : Expr} {rest : List Expr} {ta tb tc : TD} {t u : TDT} {pos p2 : Pos}
theorem test_go {te : TE} {t : TD} {σ : L2.St} {H : Hp} {W : List Addr} {A : List (Option Addr)} {env : En} {Q : Bool → Hp → Prop} {Qd : Bool → En → Prop}
    (q1 : ∀ (σ : L2.St) (H : Hp) (W : List Addr) (A : List (Option Addr)) (env : En) (Q : VK) (Qd : Rv → En → Prop), EnR X.K H W A env σ → t env Qd → (∀ v H' W' env' rv, EnR X.K H' W' A env' σ → Stp A H W H' W' → RvR X.K H W H' W' A rv v → Qd rv env' → Q v H') → te σ H Q)
    (E : EnR X.K H W A env σ) (ht : tdTest t env Qd) (k : ∀ b H' W' env', EnR X.K H' W' A env' σ → Stp A H W H' W' → Qd b env' → Q b H') : te σ H fun x H' => ∃ k, x = .bl k ∧ Q k H' := by
  refine q1 σ H W A env _ _ E ht fun x H1 W1 env1 rx E1 S1 R1 h1 => ?_
  split at h1
  · rename_i b eb
    exact ⟨b, (Dq.of_rv E1 R1 eb).bl, k b H1 W1 env1 E1 S1 h1⟩
  · exact h1.elim
theorem pdt_cmp {op : CmpOp} {r : PyData → PyData → (Rv → Prop) → Prop} (ho : OpD X (compareOp op) r) (ha : PD X a ta) (hb : PD X b tb) (hm : behindInMarks op b = false := by first | exact nomark _ | rfl) : PDT X (.Compare a [op] [b] pos) (tdTest (tdBin r ta tb)) := by
  obtain ⟨rV, h1, h2⟩ := ho
  obtain ⟨t1, p1, q1⟩ := ha
  obtain ⟨t2, p2, q2⟩ := hb
  refine ⟨_, pt_cmpR h1 p1 p2 hm, fun σ H W A env Q Qd E ht k => ?_⟩
  obtain ⟨te, _, qq⟩ := pd_two (e := .Compare a [op] [b] pos) h2 q1 q2 (pe_cmpR h1 p1 p2 hm)
  exact test_go (te := tOp rV t1 t2) (t := tdBin r ta tb) (fun σ H W A env Q Qd E ht k => by
    refine q1 σ H W A env _ _ E ht fun x H1 W1 env1 rx E1 S1 R1 q1 => ?_
    refine q2 σ H1 W1 A env1 _ _ E1 q1 fun y H2 W2 env2 ry E2 S2 R2 q2 => ?_
    have R1' := R1.step S2 E1.ain E.ain
    split at q2
    · rename_i p q ep eq
      exact h2 H2 W2 x y p q Q _ E2.trk (.of_rv E2 R1' ep) (.of_rv E2 R2 eq) q2 (fin_up E2 (S1.trans S2) k)
    · exact q2.elim) E ht k
theorem pdt_val (h : PD X e ta) (he : ∀ whole, isTrue e X.env whole = (do let v ← whole; standAt e.pos; holding [v] (truthy v)) := by intro _; rfl) : PDT X e (tdTest ta) := by
  obtain ⟨t1, p1, q1⟩ := h
  exact ⟨_, pt_val p1 he, fun σ H W A env Q Qd E ht k => test_go q1 E ht k⟩
theorem PDW.pt (h : PDW X e t) : PDT X e t := by
  obtain ⟨t1, p1, q1⟩ := h
  exact ⟨_, p1.pt, q1⟩
theorem pdw_and1 (h : PDT X a t) : PDW X (.BoolOp .And [a] pos) t := by
  obtain ⟨t1, p1, q1⟩ := h
  exact ⟨_, pw_and1 p1, q1⟩
theorem pdw_or1 (h : PDT X a t) : PDW X (.BoolOp .Or [a] pos) t := by
  obtain ⟨t1, p1, q1⟩ := h
  exact ⟨_, pw_or1 p1, q1⟩
theorem pdw_and (h : PDT X a t) (h' : PDW X (.BoolOp .And (b :: rest) pos) u) : PDW X (.BoolOp .And (a :: b :: rest) pos) (tdAnd t u) := by
  obtain ⟨t1, p1, q1⟩ := h
  obtain ⟨t2, p2, q2⟩ := h'
  refine ⟨_, pw_and p1 p2, fun σ H W A env Q Qd E ht k => ?_⟩
  refine q1 σ H W A env _ _ E ht fun c H1 W1 env1 E1 S1 h1 => ?_
  cases c with
  | true => exact q2 σ H1 W1 A env1 Q Qd E1 h1 fun b H2 W2 env2 E2 S2 h2 => k b H2 W2 env2 E2 (S1.trans S2) h2
  | false => exact k false H1 W1 env1 E1 S1 h1
theorem pdw_or (h : PDT X a t) (h' : PDW X (.BoolOp .Or (b :: rest) pos) u) : PDW X (.BoolOp .Or (a :: b :: rest) pos) (tdOr t u) := by
  obtain ⟨t1, p1, q1⟩ := h
  obtain ⟨t2, p2, q2⟩ := h'
  refine ⟨_, pw_or p1 p2, fun σ H W A env Q Qd E ht k => ?_⟩
  refine q1 σ H W A env _ _ E ht fun c H1 W1 env1 E1 S1 h1 => ?_
  cases c with
  | false => exact q2 σ H1 W1 A env1 Q Qd E1 h1 fun b H2 W2 env2 E2 S2 h2 => k b H2 W2 env2 E2 (S1.trans S2) h2
  | true => exact k true H1 W1 env1 E1 S1 h1
theorem pdt_not (h : PDT X a t) : PDT X (.UnaryOp .Not a pos) (tdNot t) := by
  obtain ⟨t1, p1, q1⟩ := h
  exact ⟨_, pt_not p1, fun σ H W A env Q Qd E ht k => q1 σ H W A env _ _ E ht fun b H1 W1 env1 E1 S1 h1 => k (!b) H1 W1 env1 E1 S1 h1⟩
theorem pd_ifExp (h : PDT X c t) (ha : PD X a ta) (hb : PD X b tb) : PD X (.IfExp c a b pos) (tdIf t ta tb) := by
  obtain ⟨t1, p1, q1⟩ := h
  obtain ⟨t2, p2, q2⟩ := ha
  obtain ⟨t3, p3, q3⟩ := hb
  refine ⟨_, pe_ifExp p1 p2 p3, fun σ H W A env Q Qd E ht k => ?_⟩
  refine q1 σ H W A env _ _ E ht fun c H1 W1 env1 E1 S1 h1 => ?_
  cases c with
  | true => exact q2 σ H1 W1 A env1 Q Qd E1 h1 fun v H2 W2 env2 rv E2 S2 R2 h2 => k v H2 W2 env2 rv E2 (S1.trans S2) (R2.from S1) h2
  | false => exact q3 σ H1 W1 A env1 Q Qd E1 h1 fun v H2 W2 env2 rv E2 S2 R2 h2 => k v H2 W2 env2 rv E2 (S1.trans S2) (R2.from S1) h2
theorem pd_one {op : BoolOp} (h : PD X a ta) : PD X (.BoolOp op [a] pos) ta := by
  obtain ⟨t1, p1, q1⟩ := h
  exact ⟨_, pe_one p1, q1⟩
theorem pd_and (h : PD X a ta) (h' : PD X (.BoolOp .And (b :: rest) pos) tb) : PD X (.BoolOp .And (a :: b :: rest) pos) (tdAndV ta tb) := by
  obtain ⟨t1, p1, q1⟩ := h
  obtain ⟨t2, p2, q2⟩ := h'
  refine ⟨_, pe_and p1 p2, fun σ H W A env Q Qd E ht k => ?_⟩
  refine q1 σ H W A env _ _ E ht fun x H1 W1 env1 rx E1 S1 R1 h1 => ?_
  split at h1
  · rename_i c ec
    refine ⟨c, (Dq.of_rv E1 R1 ec).bl, ?_⟩
    cases c with
    | true => exact q2 σ H1 W1 A env1 Q Qd E1 h1 fun v H2 W2 env2 rv E2 S2 R2 h2 => k v H2 W2 env2 rv E2 (S1.trans S2) (R2.from S1) h2
    | false => exact k (.bl false) H1 W1 env1 (.d (.bool false)) E1 S1 (.bl false) h1
  · exact h1.elim
theorem pd_or (h : PD X a ta) (h' : PD X (.BoolOp .Or (b :: rest) pos) tb) : PD X (.BoolOp .Or (a :: b :: rest) pos) (tdOrV ta tb) := by
  obtain ⟨t1, p1, q1⟩ := h
  obtain ⟨t2, p2, q2⟩ := h'
  refine ⟨_, pe_or p1 p2, fun σ H W A env Q Qd E ht k => ?_⟩
  refine q1 σ H W A env _ _ E ht fun x H1 W1 env1 rx E1 S1 R1 h1 => ?_
  split at h1
  · rename_i c ec
    refine ⟨c, (Dq.of_rv E1 R1 ec).bl, ?_⟩
    cases c with
    | false => exact q2 σ H1 W1 A env1 Q Qd E1 h1 fun v H2 W2 env2 rv E2 S2 R2 h2 => k v H2 W2 env2 rv E2 (S1.trans S2) (R2.from S1) h2
    | true => exact k (.bl true) H1 W1 env1 (.d (.bool true)) E1 S1 (.bl true) h1
  · exact h1.elim
theorem pd_not (h : PD X a ta) : PD X (.UnaryOp .Not a pos) (tdNotV ta) := by
  obtain ⟨t1, p1, q1⟩ := h
  refine ⟨_, pe_not p1, fun σ H W A env Q Qd E ht k => ?_⟩
  refine q1 σ H W A env _ _ E ht fun x H1 W1 env1 rx E1 S1 R1 h1 => ?_
  split at h1
  · rename_i c ec
    exact ⟨c, (Dq.of_rv E1 R1 ec).bl, k (.bl (!c)) H1 W1 env1 (.d (.bool (!c))) E1 S1 (.bl _) h1⟩
  · exact h1.elim
theorem pd_neg (h : PD X a ta) : PD X (.UnaryOp .USub a pos) (tdNeg ta) := by
  obtain ⟨t1, p1, q1⟩ := h
  refine ⟨_, pe_un un_neg p1, fun σ H W A env Q Qd E ht k => ?_⟩
  refine q1 σ H W A env _ _ E ht fun x H1 W1 env1 rx E1 S1 R1 h1 => ?_
  split at h1
  · rename_i c ec
    exact ⟨c, (Dq.of_rv E1 R1 ec).int, k (.int (-c)) H1 W1 env1 (.d (.int (-c))) E1 S1 (.int _) h1⟩
  · exact h1.elim
theorem rv_none {K : PySem.W.Frag} {H H0 : Hp} {W W0 : List Addr} {A : List (Option Addr)} {rv : Rv} {v : V} (R : RvR K H0 W0 H W A rv v) : (v = .non ↔ rv = .d .none) := by
  cases rv with
  | d x =>
    have R' : Dp K (HW H W) v x := R
    cases R' <;> simp
  | o i => obtain ⟨a, _, rfl⟩ := R; simp
  | n s => obtain ⟨p, rfl, _⟩ := R; simp
theorem isN_read {t1 : TE} (q1 : ∀ (σ : L2.St) (H : Hp) (W : List Addr) (A : List (Option Addr)) (env : En) (Q : VK) (Qd : Rv → En → Prop), EnR X.K H W A env σ → ta env Qd → (∀ v H' W' env' rv, EnR X.K H' W' A env' σ → Stp A H W H' W' → RvR X.K H W H' W' A rv v → Qd rv env' → Q v H') → t1 σ H Q)
    (σ : L2.St) (H : Hp) (W : List Addr) (A : List (Option Addr)) (env : En) (Q : VK) (Qd : Rv → En → Prop) (E : EnR X.K H W A env σ) (ht : tdIsN ta env Qd) (k : ∀ v H' W' env' rv, EnR X.K H' W' A env' σ → Stp A H W H' W' → RvR X.K H W H' W' A rv v → Qd rv env' → Q v H') :
    tOp (fun x y H Q => y = .non ∧ Q (.bl (decide (x = .non))) H) t1 (tC .non) σ H Q := by
  refine q1 σ H W A env _ _ E ht fun x H1 W1 env1 rx E1 S1 R1 h1 => ?_
  refine ⟨rfl, ?_⟩
  have n := rv_none R1
  split at h1
  · rw [decide_eq_true (n.mpr rfl)]
    exact k (.bl true) H1 W1 env1 (.d (.bool true)) E1 S1 (.bl _) h1
  · rename_i hn
    rw [decide_eq_false fun z => hn (n.mp z)]
    exact k (.bl false) H1 W1 env1 (.d (.bool false)) E1 S1 (.bl _) h1
theorem pd_isN (h : PD X a ta) {j : Nat} {pp : Pos} : PD X (.Compare a [.Is] [.Constant .none j pp] pos) (tdIsN ta) := by
  obtain ⟨t1, p1, q1⟩ := h
  exact ⟨_, pe_cmpR op_isN p1 pe_non (nomark _), isN_read q1⟩
theorem pdt_isN (h : PD X a ta) {j : Nat} {pp : Pos} : PDT X (.Compare a [.Is] [.Constant .none j pp] pos) (tdTest (tdIsN ta)) := by
  obtain ⟨t1, p1, q1⟩ := h
  exact ⟨_, pt_cmpR op_isN p1 pe_non (nomark _), fun σ H W A env Q Qd E ht k => test_go (isN_read q1) E ht k⟩
theorem notN_read {t1 : TE} (q1 : ∀ (σ : L2.St) (H : Hp) (W : List Addr) (A : List (Option Addr)) (env : En) (Q : VK) (Qd : Rv → En → Prop), EnR X.K H W A env σ → ta env Qd → (∀ v H' W' env' rv, EnR X.K H' W' A env' σ → Stp A H W H' W' → RvR X.K H W H' W' A rv v → Qd rv env' → Q v H') → t1 σ H Q)
    (σ : L2.St) (H : Hp) (W : List Addr) (A : List (Option Addr)) (env : En) (Q : VK) (Qd : Rv → En → Prop) (E : EnR X.K H W A env σ) (ht : tdNotN ta env Qd) (k : ∀ v H' W' env' rv, EnR X.K H' W' A env' σ → Stp A H W H' W' → RvR X.K H W H' W' A rv v → Qd rv env' → Q v H') :
    tOp (fun x y H Q => y = .non ∧ Q (.bl (!decide (x = .non))) H) t1 (tC .non) σ H Q := by
  refine q1 σ H W A env _ _ E ht fun x H1 W1 env1 rx E1 S1 R1 h1 => ?_
  refine ⟨rfl, ?_⟩
  have n := rv_none R1
  split at h1
  · rw [decide_eq_true (n.mpr rfl)]
    exact k (.bl false) H1 W1 env1 (.d (.bool false)) E1 S1 (.bl _) h1
  · rename_i hn
    rw [decide_eq_false fun z => hn (n.mp z)]
    exact k (.bl true) H1 W1 env1 (.d (.bool true)) E1 S1 (.bl _) h1
theorem pd_notN (h : PD X a ta) {j : Nat} {pp : Pos} : PD X (.Compare a [.IsNot] [.Constant .none j pp] pos) (tdNotN ta) := by
  obtain ⟨t1, p1, q1⟩ := h
  exact ⟨_, pe_cmpR op_notN p1 pe_non (nomark _), notN_read q1⟩
theorem pdt_notN (h : PD X a ta) {j : Nat} {pp : Pos} : PDT X (.Compare a [.IsNot] [.Constant .none j pp] pos) (tdTest (tdNotN ta)) := by
  obtain ⟨t1, p1, q1⟩ := h
  exact ⟨_, pt_cmpR op_notN p1 pe_non (nomark _), fun σ H W A env Q Qd E ht k => test_go (notN_read q1) E ht k⟩
end
end DL

set_option Elab.async false
set_option linter.all false
set_option maxRecDepth 100000
set_option maxHeartbeats 4000000
set_option autoImplicit false
namespace DL
open PySem PySem.Spec L2

/-- what a def's body leans on: the heap at its entry, what was held alone then, what of it the def holds; G: what has been seen and must stay -/
structure Bs where
  H0 : Hp
  W0 : List Addr
  A0 : List (Option Addr)
  G : Hp
  Mv : List Addr
  Mi : List Nat
  Fz : List (Addr × HO)
structure StR (K : PySem.W.Frag) (B : Bs) (H : Hp) (W : List Addr) (A : List (Option Addr)) (env : En) (σ : L2.St) : Prop where
  en : EnR K H W A env σ
  old : ∀ b o, B.H0 b = some o → some b ∉ B.A0 → b ∉ B.Mv → H b = some o
  there : ∀ b, B.H0 b ≠ none → H b ≠ none
  up : ∀ p, p ∈ B.W0 → p ∈ W
  fr : ∀ p, p ∈ W → p ∈ B.W0 ∨ B.H0 p = none
  own : ∀ a, some a ∈ A → (some a ∈ B.A0 ∨ a ∈ B.Mv) ∨ B.H0 a = none
  par : ∀ (i : Nat) (a : Addr), B.A0[i]? = some (some a) → A[i]? = some (some a)
  mvs : ∀ (i : Nat) (a : Addr), A[i]? = some (some a) → a ∈ B.Mv → i ∈ B.Mi
  fz : ∀ q, q ∈ B.Fz → H q.1 = some q.2 ∧ some q.1 ∉ A ∧ q.1 ∈ W
  seen : Same B.G (HW H W)
structure DE where
  nx : En → Prop
  rt : Sl → En → Prop
  bk : En → Prop := fun _ => False
  ct : En → Prop := fun _ => False
abbrev TDS := DE → En → Prop
/-- what is handed back -/
def RtR (K : PySem.W.Frag) (B : Bs) (H : Hp) (W : List Addr) : Sl → V → Prop
  | .d x, v => Dp K (HW H W) v x
  | s, v => ∃ p, v = .ref p ∧ B.H0 p = none ∧ p ∈ W ∧ OwR K H W p s
structure Out (K : PySem.W.Frag) (B : Bs) (D : Ends) (Dd : DE) : Prop where
  nx : ∀ σ H W A env, StR K B H W A env σ → Dd.nx env → D.nx σ H
  bk : ∀ σ H W A env, StR K B H W A env σ → Dd.bk env → D.bk σ H
  ct : ∀ σ H W A env, StR K B H W A env σ → Dd.ct env → D.ct σ H
  rt : ∀ σ H W A env v s, StR K B H W A env σ → RtR K B H W s v → Dd.rt s env → D.rt v H
/-- the parameters that are held alone are among N -/
structure OkN (B : Bs) (N : List Nat × List Nat) : Prop where
  n : ∀ (i : Nat) (a : Addr), B.A0[i]? = some (some a) → i ∈ N.1
  m : ∀ i, i ∈ B.Mi → i ∈ N.2
  w : ∀ p, p ∈ B.W0 → B.H0 p ≠ none
  v : ∀ p, p ∈ B.Mv → B.H0 p ≠ none
def PSD (X : Cx) (N : List Nat × List Nat) (st : Stmt) (t : TDS) : Prop := ∃ ts, PS X st ts ∧ ∀ (B : Bs) (D : Ends) (Dd : DE) (σ : L2.St) (H : Hp) (W : List Addr) (A : List (Option Addr)) (env : En), OkN B N → StR X.K B H W A env σ → t Dd env → Out X.K B D Dd → ts D σ H
def PSDs (X : Cx) (N : List Nat × List Nat) (sts : List Stmt) (t : TDS) : Prop := ∃ ts, PSs X sts ts ∧ ∀ (B : Bs) (D : Ends) (Dd : DE) (σ : L2.St) (H : Hp) (W : List Addr) (A : List (Option Addr)) (env : En), OkN B N → StR X.K B H W A env σ → t Dd env → Out X.K B D Dd → ts D σ H
section
variable {K : PySem.W.Frag} {H H' : Hp} {W W' : List Addr} {A A' : List (Option Addr)} {env env' : En} {σ σ' : L2.St} {B : Bs}
/-- behind an expression -/
theorem StR.step (R : StR K B H W A env σ) (S : Stp A H W H' W') (E : EnR K H' W' A env' σ) : StR K B H' W' A env' σ := by
  refine ⟨E, fun b o h n m => S.ext b o (R.old b o h n m) fun z => ?_, fun b h => S.there b (R.there b h), fun p h => S.up p (R.up p h), fun p h => ?_, R.own, R.par, R.mvs, fun q hq => ⟨S.ext q.1 q.2 (R.fz q hq).1 (R.fz q hq).2.1, (R.fz q hq).2.1, S.up _ (R.fz q hq).2.2⟩, fun b o h => S.same R.en.ain b o (R.seen b o h)⟩
  · rcases R.own b z with (q | q) | q
    · exact n q
    · exact m q
    · rw [q] at h; cases h
  · rcases S.fr p h with q | q
    · exact R.fr p q
    · refine .inr ?_
      cases e : B.H0 p with
      | none => rfl
      | some o => exact absurd q.1 (R.there p (by rw [e]; simp))
theorem set_get {α : Type} {l : List α} {i j : Nat} {x : α} : (l.set i x)[j]? = if i = j then (if j < l.length then some x else none) else l[j]? := by
  rw [List.getElem?_set]
  split
  · rename_i e; subst e; rfl
  · rfl
/-- a name holds data now -/
theorem EnR.setD (E : EnR K H W A env σ) {i : Nat} (hi : i < env.length) {v : V} {x : PyData} (h : Dp K (HW H W) v x) : EnR K H W (A.set i none) (env.set i (some (.d x))) (σ.set i (some v)) := by
  have lA := E.lenA
  have lS := E.len
  refine ⟨by simp [E.len], by simp [E.lenA], fun j y e => ?_, fun j s e hs => ?_, fun j a e => ?_, fun j k a e1 e2 => ?_, E.trk⟩
  · rw [set_get] at e
    rw [set_get, set_get]
    by_cases c : i = j
    · subst c
      rw [if_pos rfl, if_pos hi] at e
      cases e
      rw [if_pos rfl, if_pos (by omega), if_pos rfl, if_pos (by omega)]
      exact ⟨rfl, v, rfl, h⟩
    · rw [if_neg c] at e
      rw [if_neg c, if_neg c]
      exact E.dat j y e
  · rw [set_get] at e
    rw [set_get, set_get]
    by_cases c : i = j
    · subst c
      rw [if_pos rfl, if_pos hi] at e
      cases e
      cases hs
    · rw [if_neg c] at e
      rw [if_neg c, if_neg c]
      exact E.own j s e hs
  · rw [set_get] at e
    rw [set_get]
    by_cases c : i = j
    · subst c
      rw [if_pos rfl] at e
      split at e <;> cases e
    · rw [if_neg c] at e
      rw [if_neg c]
      exact E.back j a e
  · rw [set_get] at e1 e2
    by_cases c : i = j
    · rw [if_pos c] at e1
      split at e1 <;> cases e1
    · by_cases d : i = k
      · rw [if_pos d] at e2
        split at e2 <;> cases e2
      · rw [if_neg c] at e1
        rw [if_neg d] at e2
        exact E.inj j k a e1 e2
/-- a name holds an object alone now -/
theorem EnR.setO (E : EnR K H W A env σ) {i : Nat} (hi : i < env.length) {p : Addr} {s : Sl} (hp : p ∈ W) (ha : some p ∉ A) (h : OwR K H W p s) (hs : s.isD = false) : EnR K H W (A.set i (some p)) (env.set i (some s)) (σ.set i (some (.ref p))) := by
  have lA := E.lenA
  have lS := E.len
  refine ⟨by simp [E.len], by simp [E.lenA], fun j y e => ?_, fun j z e hz => ?_, fun j a e => ?_, fun j k a e1 e2 => ?_, E.trk⟩
  · rw [set_get] at e
    rw [set_get, set_get]
    by_cases c : i = j
    · subst c
      rw [if_pos rfl, if_pos hi] at e
      cases e
      cases hs
    · rw [if_neg c] at e
      rw [if_neg c, if_neg c]
      exact E.dat j y e
  · rw [set_get] at e
    rw [set_get, set_get]
    by_cases c : i = j
    · subst c
      rw [if_pos rfl, if_pos hi] at e
      cases e
      rw [if_pos rfl, if_pos (by omega), if_pos rfl, if_pos (by omega)]
      exact ⟨p, rfl, rfl, h⟩
    · rw [if_neg c] at e
      rw [if_neg c, if_neg c]
      exact E.own j z e hz
  · rw [set_get] at e
    rw [set_get]
    by_cases c : i = j
    · subst c
      rw [if_pos rfl, if_pos (by omega)] at e
      cases e
      rw [if_pos rfl, if_pos hi]
      exact ⟨hp, s, rfl, hs⟩
    · rw [if_neg c] at e
      rw [if_neg c]
      exact E.back j a e
  · rw [set_get] at e1 e2
    by_cases c : i = j
    · by_cases d : i = k
      · omega
      · rw [if_pos c, if_pos (by omega)] at e1
        cases e1
        rw [if_neg d] at e2
        exact absurd (List.mem_of_getElem? e2) ha
    · by_cases d : i = k
      · rw [if_pos d, if_pos (by omega)] at e2
        cases e2
        rw [if_neg c] at e1
        exact absurd (List.mem_of_getElem? e1) ha
      · rw [if_neg c] at e1
        rw [if_neg d] at e2
        exact E.inj j k a e1 e2
theorem mem_set {i : Nat} {x y : Option Addr} (h : x ∈ A.set i y) : x = y ∨ x ∈ A := by
  rcases List.mem_or_eq_of_mem_set h with q | q
  · exact .inr q
  · exact .inl q
theorem StR.setD (R : StR K B H W A env σ) {N : List Nat × List Nat} {i : Nat} (hB : OkN B N) (hN : i ∉ N.1) (hi : i < env.length) {v : V} {x : PyData} (h : Dp K (HW H W) v x) : StR K B H W (A.set i none) (env.set i (some (.d x))) (σ.set i (some v)) :=
  ⟨R.en.setD hi h, R.old, R.there, R.up, R.fr, fun a z => R.own a ((mem_set z).resolve_left (by simp)), fun j a e => by
    rw [set_get, if_neg (fun c => hN (by rw [c]; exact hB.n j a e))]
    exact R.par j a e, fun j a e m => by
    rw [set_get] at e
    split at e
    · split at e <;> cases e
    · exact R.mvs j a e m, fun q hq => ⟨(R.fz q hq).1, fun z => (R.fz q hq).2.1 ((mem_set z).resolve_left (Option.some_ne_none _)), (R.fz q hq).2.2⟩, R.seen⟩
theorem StR.setO (R : StR K B H W A env σ) {N : List Nat × List Nat} {i : Nat} (hB : OkN B N) (hN : i ∉ N.1) (hi : i < env.length) {p : Addr} {s : Sl} (hp : p ∈ W) (ha : some p ∉ A) (h0 : B.H0 p = none) (h : OwR K H W p s) (hs : s.isD = false) (hz : ∀ q, q ∈ B.Fz → q.1 ≠ p) :
    StR K B H W (A.set i (some p)) (env.set i (some s)) (σ.set i (some (.ref p))) :=
  ⟨R.en.setO hi hp ha h hs, R.old, R.there, R.up, R.fr, fun a z => by
    rcases mem_set z with q | q
    · cases q; exact .inr h0
    · exact R.own a q, fun j a e => by
    rw [set_get, if_neg (fun c => hN (by rw [c]; exact hB.n j a e))]
    exact R.par j a e, fun j a e m => by
    rw [set_get] at e
    split at e
    · split at e
      · cases e
        exact absurd h0 (hB.v p m)
      · cases e
    · exact R.mvs j a e m, fun q hq => ⟨(R.fz q hq).1, fun z => by
      rcases mem_set z with y | y
      · cases y; exact hz q hq rfl
      · exact (R.fz q hq).2.1 y, (R.fz q hq).2.2⟩, R.seen⟩
/-- less is held alone -/
theorem StR.sub (R : StR K B H W A env σ) (h : ∀ q, q ∈ W' → q ∈ W) (ha : AinW A W') (h0 : ∀ q, q ∈ B.W0 → q ∈ W') (hz : ∀ q, q ∈ B.Fz → q.1 ∈ W') : StR K B H W' A env σ :=
  ⟨R.en.sub h ha, R.old, R.there, h0, fun p z => R.fr p (h p z), R.own, R.par, R.mvs, fun q hq => ⟨(R.fz q hq).1, (R.fz q hq).2.1, hz q hq⟩, fun b o e => sub_same h b o (R.seen b o e)⟩
end

/-- as data, for keeping -/
def rvD : Rv → Option PyData
  | .d x => some x
  | .n (.l xs) => some (.list xs)
  | _ => none
theorem rvd_res {rv : Rv} {x : PyData} (h : rvD rv = some x) : resAll [rv] = some [x] := by
  cases rv with
  | d y => cases h; rfl
  | o i => cases h
  | n s => cases s with
    | l xs => cases h; rfl
    | _ => cases h
/-- a value at hand, let go as data -/
theorem RvR.keepD {K : PySem.W.Frag} {H H0 : Hp} {W W0 : List Addr} {A : List (Option Addr)} {rv : Rv} {v : V} {x : PyData} (R : RvR K H0 W0 H W A rv v) (S : Stp A H0 W0 H W) (h : rvD rv = some x) :
    ∃ W', (∀ q, q ∈ W' → q ∈ W) ∧ (∀ q, q ∈ W → q ∈ W0 → q ∈ W') ∧ Dp K (HW H W') v x := by
  obtain ⟨W', h1, h2, d⟩ := RvRs.keep (.cons (H1 := H) (W1 := W) R (fun p s e1 e2 => by
    subst e1
    obtain ⟨q, e3, _, m, _⟩ := R
    rw [e2] at e3; cases e3
    exact m) S .nil) (rvd_res h)
  cases d with
  | cons d _ => exact ⟨W', h1, h2, d⟩

/-! ### statements -/
def tdNext : TDS := fun D env => D.nx env
def tdSeq (t u : TDS) : TDS := fun D env => t { D with nx := u D } env
/-- name = e, what is new is held alone -/
def tdSet (i : Nat) (t : TD) : TDS := fun D env => t env fun rv env1 => match rv with
  | .d x => i < env1.length ∧ D.nx (env1.set i (some (.d x)))
  | .n s => (i < env1.length ∧ s.isD = false) ∧ D.nx (env1.set i (some s))
  | .o _ => False
/-- name = e, as data -/
def tdSetD (i : Nat) (t : TD) : TDS := fun D env => t env fun rv env1 => match rvD rv with
  | some x => i < env1.length ∧ D.nx (env1.set i (some (.d x)))
  | none => False
def tdDrop (t : TD) : TDS := fun D env => t env fun _ env1 => D.nx env1
def tdRet (N : List Nat × List Nat) (t : TD) : TDS := fun D env => t env fun rv env1 => match rv with
  | .d x => D.rt (.d x) env1
  | .n s => s.isD = false ∧ D.rt s env1
  | .o j => (j ∉ N.1 ∧ j ∉ N.2) ∧ match env1[j]? with
    | some (some s) => D.rt s env1
    | _ => False
def tdIfS (c : TDT) (t u : TDS) : TDS := fun D env => c env fun b env1 => if b = true then t D env1 else u D env1
/-- ahead of a statement: what a name holds alone is let go as data -/
def tdFrz (i : Nat) (t : TDS) : TDS := fun D env => match env[i]? with
  | some (some (.l xs)) => t D (env.set i (some (.d (.list xs))))
  | _ => False
section
variable {X : Cx} {N : List Nat × List Nat} {st : Stmt} {rest sts sts' : List Stmt} {t u : TDS} {e c : Expr} {te : TD} {tc : TDT} {pos pos' : Pos}
theorem psds_nil : PSDs X N [] tdNext := ⟨_, pss_nil, fun B D Dd σ H W A env hB R h O => O.nx σ H W A env R h⟩
theorem psds_cons (h1 : PSD X N st t) (h2 : PSDs X N rest u) : PSDs X N (st :: rest) (tdSeq t u) := by
  obtain ⟨t1, p1, q1⟩ := h1
  obtain ⟨t2, p2, q2⟩ := h2
  refine ⟨_, pss_cons p1 p2, fun B D Dd σ H W A env hB R h O => ?_⟩
  exact q1 B _ { Dd with nx := u Dd } σ H W A env hB R h ⟨fun σ H W A env R' h' => q2 B D Dd σ H W A env hB R' h' O, O.bk, O.ct, O.rt⟩
theorem psds_one (h1 : PSD X N st t) : PSDs X N [st] t := by
  obtain ⟨t1, p1, q1⟩ := h1
  exact ⟨_, pss_one p1, q1⟩
theorem psd_pass : PSD X N (.Pass pos) tdNext := ⟨_, ps_pass, fun B D Dd σ H W A env hB R h O => O.nx σ H W A env R h⟩
theorem psd_break : PSD X N (.Break pos) (fun D env => D.bk env) := ⟨_, ps_break, fun B D Dd σ H W A env hB R h O => O.bk σ H W A env R h⟩
theorem psd_continue : PSD X N (.Continue pos) (fun D env => D.ct env) := ⟨_, ps_continue, fun B D Dd σ H W A env hB R h O => O.ct σ H W A env R h⟩
theorem psd_never : PSD X N st (fun _ _ => False) := ⟨_, ps_never, fun B D Dd σ H W A env hB R h O => h⟩
theorem psd_if (h : PDT X c tc) (ha : PSDs X N sts t) (hb : PSDs X N sts' u) : PSD X N (.If c sts sts' pos) (tdIfS tc t u) := by
  obtain ⟨t1, p1, q1⟩ := h
  obtain ⟨t2, p2, q2⟩ := ha
  obtain ⟨t3, p3, q3⟩ := hb
  refine ⟨_, ps_if p1 p2 p3, fun B D Dd σ H W A env hB R h O => ?_⟩
  refine q1 σ H W A env _ _ R.en h fun b H1 W1 env1 E1 S1 h1 => ?_
  cases b with
  | true => exact q2 B D Dd σ H1 W1 A env1 hB (R.step S1 E1) h1 O
  | false => exact q3 B D Dd σ H1 W1 A env1 hB (R.step S1 E1) h1 O
theorem psd_expr (h : PD X e te) (hs : swapsWith e none pos.line X.env = pure false := by rfl) : PSD X N (.Expr e pos) (tdDrop te) := by
  obtain ⟨t1, p1, q1⟩ := h
  exact ⟨_, ps_expr p1 hs, fun B D Dd σ H W A env hB R h O => q1 σ H W A env _ _ R.en h fun v H1 W1 env1 rv E1 S1 R1 h1 => O.nx σ H1 W1 A env1 (R.step S1 E1) h1⟩
theorem back0 {K : PySem.W.Frag} {B : Bs} {H : Hp} {W : List Addr} {A : List (Option Addr)} {env : En} {σ : L2.St} (R : StR K B H W A env σ) {p : Addr} (h : H p = none) : B.H0 p = none := by
  cases e : B.H0 p with
  | none => rfl
  | some o => exact absurd h (R.there p (by rw [e]; simp))
theorem psd_ret (h : PD X e te) : PSD X N (.Return (some e) pos) (tdRet N te) := by
  obtain ⟨t1, p1, q1⟩ := h
  refine ⟨_, ps_ret p1, fun B D Dd σ H W A env hB R h O => ?_⟩
  refine q1 σ H W A env _ _ R.en h fun v H1 W1 env1 rv E1 S1 R1 h1 => ?_
  have R' := R.step S1 E1
  cases rv with
  | d x => exact O.rt σ H1 W1 A env1 v (.d x) R' R1 h1
  | n s =>
    obtain ⟨p, rfl, h2, h3, h4, h5⟩ := R1
    refine O.rt σ H1 W1 A env1 _ s R' ?_ h1.2
    cases s with
    | d x => cases h1.1
    | l _ => exact ⟨p, rfl, back0 R h2, h3, h5⟩
    | m _ => exact ⟨p, rfl, back0 R h2, h3, h5⟩
    | t _ => exact ⟨p, rfl, back0 R h2, h3, h5⟩
  | o j =>
    obtain ⟨a, ha, rfl⟩ := R1
    obtain ⟨hj, h1⟩ := h1
    split at h1
    · rename_i s hs
      obtain ⟨hw, s', hs', hd⟩ := E1.back j a ha
      rw [hs] at hs'; cases hs'
      obtain ⟨a', ha', _, ow⟩ := E1.own j s hs hd
      rw [ha] at ha'; cases ha'
      refine O.rt σ H1 W1 A env1 _ s R' ?_ h1
      have h0 : B.H0 a = none := by
        rcases R.own a (List.mem_of_getElem? ha) with (z | z) | z
        · obtain ⟨i, hi⟩ := List.mem_iff_getElem?.mp z
          have := E1.inj i j a (R.par i a hi) ha
          exact absurd (hB.n i a hi) (by rw [this]; exact hj.1)
        · exact absurd (hB.m j (R.mvs j a ha z)) hj.2
        · exact z
      cases s with
      | d x => cases hd
      | l _ => exact ⟨a, rfl, h0, hw, ow⟩
      | m _ => exact ⟨a, rfl, h0, hw, ow⟩
      | t _ => exact ⟨a, rfl, h0, hw, ow⟩
    · exact h1.elim
/-- name = e -/
theorem psd_set {i : Nat} {x : Str} (hN : X.N.Nodup) (hi : X.N[i]? = some x) (hx : Loc X.env.scope x) (he : PD X e te) (hM : i ∉ N.1 := by decide) (hs : swapsWith e (some (.Name x pos')) pos.line X.env = pure false := by rfl) (hf : X.fn x = true ∨ X.env.scope.names.lookup x = some .local := by first | exact .inl rfl | exact .inr rfl | assumption) :
    PSD X N (.Assign [.Name x pos'] e pos) (tdSet i te) := by
  obtain ⟨t1, p1, q1⟩ := he
  refine ⟨_, ps_set hN hi hx p1 hs hf, fun B D Dd σ H W A env hB R h O => ?_⟩
  refine q1 σ H W A env _ _ R.en h fun v H1 W1 env1 rv E1 S1 R1 h1 => ?_
  have R' := R.step S1 E1
  cases rv with
  | d x => exact O.nx _ H1 W1 _ _ (R'.setD hB hM h1.1 R1) h1.2
  | n s =>
    obtain ⟨p, rfl, h2, h3, h4, h5⟩ := R1
    exact O.nx _ H1 W1 _ _ (R'.setO hB hM h1.1.1 h3 (fun z => h4 (R.en.ain p z)) (back0 R h2) h5 h1.1.2 fun q hq e => by rw [← e, (R.fz q hq).1] at h2; cases h2) h1.2
  | o j => exact h1.elim
theorem set_d {te1 : TE} {B : Bs} {D : Ends} {Dd : DE} {σ : L2.St} {H : Hp} {W : List Addr} {A : List (Option Addr)} {env : En} {i : Nat}
    (q1 : ∀ (σ : L2.St) (H : Hp) (W : List Addr) (A : List (Option Addr)) (env : En) (Q : VK) (Qd : Rv → En → Prop), EnR X.K H W A env σ → te env Qd → (∀ v H' W' env' rv, EnR X.K H' W' A env' σ → Stp A H W H' W' → RvR X.K H W H' W' A rv v → Qd rv env' → Q v H') → te1 σ H Q)
    (hM : i ∉ N.1) (hB : OkN B N) (R : StR X.K B H W A env σ) (h : tdSetD i te Dd env) (O : Out X.K B D Dd) : tAsg te1 (gName i) D σ H := by
  refine q1 σ H W A env _ _ R.en h fun v H1 W1 env1 rv E1 S1 R1 h1 => ?_
  have R' := R.step S1 E1
  split at h1
  · rename_i x ex
    obtain ⟨W', s1, s2, d⟩ := R1.keepD S1 ex
    have R2 := R'.sub s1 (fun a ha => s2 a (E1.ain a ha) (R.en.ain a ha)) (fun q hq => s2 q (R'.up q hq) (R.up q hq)) fun q hq => s2 q.1 (R'.fz q hq).2.2 (R.fz q hq).2.2
    exact O.nx _ H1 W' _ _ (R2.setD hB hM h1.1 d) h1.2
  · exact h1.elim
theorem psd_setD {i : Nat} {x : Str} (hN : X.N.Nodup) (hi : X.N[i]? = some x) (hx : Loc X.env.scope x) (he : PD X e te) (hM : i ∉ N.1 := by decide) (hs : swapsWith e (some (.Name x pos')) pos.line X.env = pure false := by rfl) (hf : X.fn x = true ∨ X.env.scope.names.lookup x = some .local := by first | exact .inl rfl | exact .inr rfl | assumption) :
    PSD X N (.Assign [.Name x pos'] e pos) (tdSetD i te) := by
  obtain ⟨t1, p1, q1⟩ := he
  exact ⟨_, ps_set hN hi hx p1 hs hf, fun B D Dd σ H W A env hB R h O => set_d q1 hM hB R h O⟩
/-- what a name holds alone is let go -/
theorem StR.frz {K : PySem.W.Frag} {B : Bs} {H : Hp} {W : List Addr} {A : List (Option Addr)} {env : En} {σ : L2.St} {i : Nat} {xs : List PyData} (R : StR K B H W A env σ) (hB : OkN B N) (hM : i ∉ N.1) (hM2 : i ∉ N.2) (h : env[i]? = some (some (.l xs))) :
    ∃ W' A', StR K B H W' A' (env.set i (some (.d (.list xs)))) σ := by
  obtain ⟨a, ha, hv, vs, h1, h2⟩ := R.en.own i _ h rfl
  have hi : i < env.length := (List.getElem?_eq_some_iff.mp h).1
  have h0 : B.H0 a = none := by
    rcases R.own a (List.mem_of_getElem? ha) with (z | z) | z
    · obtain ⟨k, hk⟩ := List.mem_iff_getElem?.mp z
      have := R.en.inj k i a (R.par k a hk) ha
      exact absurd (hB.n k a hk) (by rw [this]; exact hM)
    · exact absurd (hB.m i (R.mvs i a ha z)) hM2
    · exact z
  refine ⟨rel W a, A.set i none, ?_⟩
  have hs : ∀ q, q ∈ rel W a → q ∈ W := fun q hq => (mem_rel.mp hq).1
  have d : Dp K (HW H (rel W a)) (.ref a) (.list xs) := .lst (.inl (.inl (hw_of (fun z => (mem_rel.mp z).2 rfl) h1))) (dpa_mono (sub_same hs) _ h2)
  have lA := R.en.lenA
  have eσ : σ.set i (some (.ref a)) = σ := by
    refine List.ext_getElem? fun j => ?_
    rw [set_get]
    by_cases c : i = j
    · subst c
      rw [if_pos rfl, if_pos (by rw [R.en.len]; exact hi), hv]
    · rw [if_neg c]
  -- first the name is told as any data, then less is held alone
  have E2 : EnR K H (rel W a) (A.set i none) (env.set i (some (.d (.list xs)))) σ := by
    refine ⟨by simp [R.en.len], by simp [R.en.lenA], fun j y e => ?_, fun j s e hz => ?_, fun j b e => ?_, fun j k b e1 e2 => ?_, fun p hp => R.en.trk p (hs p hp)⟩
    · rw [set_get] at e
      rw [set_get]
      by_cases c : i = j
      · subst c
        rw [if_pos rfl, if_pos hi] at e
        cases e
        rw [if_pos rfl, if_pos (by omega)]
        exact ⟨rfl, _, hv, d⟩
      · rw [if_neg c] at e
        rw [if_neg c]
        obtain ⟨x1, v, x2, x3⟩ := R.en.dat j y e
        exact ⟨x1, v, x2, dp_mono (sub_same hs) _ x3⟩
    · rw [set_get] at e
      rw [set_get]
      by_cases c : i = j
      · subst c
        rw [if_pos rfl, if_pos hi] at e
        cases e
        cases hz
      · rw [if_neg c] at e
        rw [if_neg c]
        obtain ⟨b, x1, x2, x3⟩ := R.en.own j s e hz
        exact ⟨b, x1, x2, x3.mono (sub_same hs) rfl⟩
    · rw [set_get] at e
      rw [set_get]
      by_cases c : i = j
      · rw [if_pos c] at e
        split at e <;> cases e
      · rw [if_neg c] at e
        rw [if_neg c]
        obtain ⟨x1, x2⟩ := R.en.back j b e
        exact ⟨mem_rel.mpr ⟨x1, fun z => c (R.en.inj i j b (by rw [z]; exact ha) e)⟩, x2⟩
    · rw [set_get] at e1 e2
      by_cases c : i = j
      · rw [if_pos c] at e1
        split at e1 <;> cases e1
      · by_cases d : i = k
        · rw [if_pos d] at e2
          split at e2 <;> cases e2
        · rw [if_neg c] at e1
          rw [if_neg d] at e2
          exact R.en.inj j k b e1 e2
  refine ⟨E2, R.old, R.there, fun p hp => mem_rel.mpr ⟨R.up p hp, fun z => hB.w p hp (by rw [z]; exact h0)⟩, fun p z => R.fr p (hs p z), fun b z => R.own b ((mem_set z).resolve_left (by simp)), fun j b e => ?_, fun j b e m => ?_, fun q hq => ⟨(R.fz q hq).1, fun z => (R.fz q hq).2.1 ((mem_set z).resolve_left (Option.some_ne_none _)), mem_rel.mpr ⟨(R.fz q hq).2.2, fun e => (R.fz q hq).2.1 (by rw [e]; exact List.mem_of_getElem? ha)⟩⟩, fun b o e => sub_same hs b o (R.seen b o e)⟩
  · rw [set_get, if_neg (fun c => hM (by rw [c]; exact hB.n j b e))]
    exact R.par j b e
  · rw [set_get] at e
    split at e
    · split at e <;> cases e
    · exact R.mvs j b e m
theorem psd_frz {i : Nat} (h : PSD X N st t) (hM : i ∉ N.1 := by decide) (hM2 : i ∉ N.2 := by decide) : PSD X N st (tdFrz i t) := by
  obtain ⟨t1, p1, q1⟩ := h
  refine ⟨_, p1, fun B D Dd σ H W A env hB R h O => ?_⟩
  unfold tdFrz at h
  split at h
  · rename_i xs hx
    obtain ⟨W', A', R'⟩ := R.frz hB hM hM2 hx
    exact q1 B D Dd σ H W' A' _ hB R' h O
  · exact h.elim
end
end DL

set_option Elab.async false
set_option linter.all false
set_option maxRecDepth 100000
set_option maxHeartbeats 4000000
set_option autoImplicit false
namespace DL
open PySem PySem.Spec L2

/-! ### what is walked -/
/-- the things that come, one a turn, while what G tells stands -/
def Walk (K : PySem.W.Frag) (J : It) (G : Hp) (xs : List PyData) : Prop := ∀ (H : Hp) (W : List Addr), Same G (HW H W) → (∀ p, p ∈ W → H p ≠ none) →
  ∀ i : Nat, (∀ x, xs[i]? = some x → J.go i H ∧ ∀ v H', J.yld i H v H' → Grow H W H' W ∧ Dp K (HW H' W) v x) ∧ (xs.length ≤ i → J.stop i H)
abbrev TDI := En → (List PyData → En → Prop) → Prop
def PDI (X : Cx) (tg iter : Expr) (t : TDI) : Prop := ∃ wi, PI X tg iter wi ∧ ∀ (σ : L2.St) (H : Hp) (W : List Addr) (A : List (Option Addr)) (env : En) (R : It → Hp → Prop) (Qd : List PyData → En → Prop), EnR X.K H W A env σ → t env Qd →
  (∀ J H' W' env' xs, EnR X.K H' W' A env' σ → Stp A H W H' W' → Walk X.K J (HW H' W') xs → Qd xs env' → R J H') → wi σ H R
def itemsOf : PyData → Option (List PyData)
  | .list xs => some xs
  | .tuple xs => some xs
  | .str z => some (z.cps.toList.map fun c => .str ⟨#[c]⟩)
  | _ => none
def tdIt (t : TD) : TDI := fun env Q => t env fun rv env1 => match rvD rv with
  | some y => match itemsOf y with
    | some xs => Q xs env1
    | none => False
  | none => False
def rngL (lo hi : Int) : List PyData := (List.range (hi - lo).toNat).map fun i => .int (lo + (i : Nat))
def tdRng1 (t : TDA) : TDI := fun env Q => t env fun rvs env1 => match resR env1 rvs with
  | some [.int j] => (-(2 ^ 62) ≤ j ∧ j < 2 ^ 62) ∧ Q (rngL 0 j) env1
  | _ => False
def tdRng2 (t : TDA) : TDI := fun env Q => t env fun rvs env1 => match resR env1 rvs with
  | some [.int i, .int j] => (-(2 ^ 62) ≤ i ∧ i < 2 ^ 62 ∧ -(2 ^ 62) ≤ j ∧ j < 2 ^ 62) ∧ Q (rngL i j) env1
  | _ => False
/-- enumerate(list) -/
def enumL (xs : List PyData) : List PyData := (List.range xs.length).zipWith (fun i x => .tuple [.int (i : Nat), x]) xs
def tdEnum (t : TDA) : TDI := fun env Q => t env fun rvs env1 => match resAll rvs with
  | some [.list xs] => Q (enumL xs) env1
  | _ => False
def tdZip (t : TDA) : TDI := fun env Q => t env fun rvs env1 => match resAll rvs with
  | some [.list xs, .list ys] => Q (xs.zipWith (fun x y => .tuple [x, y]) ys) env1
  | _ => False
section
variable {X : Cx} {tg e a b : Expr} {te : TD} {ta : TDA} {tl : TE} {pos p : Pos}
def iAny (K : PySem.W.Frag) (tl : TE) : TI := fun σ H R => tl σ H fun x H1 => (∃ a, x = .ref a ∧ (∃ xs, SqL K H1 a xs) ∧ R (Itl K a) H1) ∨ (∃ a, x = .ref a ∧ (∃ xs, SqT K H1 a xs) ∧ R (Itt K a) H1) ∨ ∃ z, x = .str z ∧ R (Its z) H1
theorem pi_any (hl : PE X e tl) : PI X tg e (iAny X.K tl) := by
  refine ⟨fun pins s σ H R I h => ?_⟩
  refine thn (hl.run pins s σ H _ I h) fun v s1 ⟨x, H1, I1, r1, q1⟩ => ?_
  have fp : ∀ b : Addr, b ∈ [s1.heap.objs.size] → FpOk X pins H1 b := fun b hb => by
    obtain rfl : b = s1.heap.objs.size := by simpa using hb
    exact I1.fpOk (Nat.le_refl _) (I1.hok.fresh (Nat.le_refl _))
  rcases q1 with ⟨a, rfl, ⟨xs, hq⟩, q⟩ | ⟨a, rfl, ⟨xs, hq⟩, q⟩ | ⟨z, rfl, q⟩
  · cases r1
    obtain ⟨its, rv, pl, _⟩ := I1.list hq
    exact wpAny_pyIter_list pl.isList ⟨_, [s1.heap.objs.size], _, _, H1, rfl, I1.kept (t' := s1.toks) (fun b o e => Heap.get?_push_of_some _ e), turn_list a _, ⟨_, Heap.get?_push_size _ rfl, rfl, rfl⟩, fp, q⟩
  · cases r1
    obtain ⟨its, rv, pl, _⟩ := I1.tuple hq
    exact wpAny_pyIter_tuple (show s1.heap.IsTuple a its.toArray from pl) ⟨_, [s1.heap.objs.size], _, _, H1, rfl, I1.kept (t' := s1.toks) (fun b o e => Heap.get?_push_of_some _ e), turn_tuple a _, ⟨_, Heap.get?_push_size _ rfl, rfl, rfl⟩, fp, q⟩
  · obtain ⟨t, rfl⟩ := r1
    cases ha : z.cps.all (· < 128)
    · exact wpAny_pyIter_wide ha (pi_one (tk := s1.toks) I1 _ (turn_str _ z t "str_iterator" (.inr rfl)) ⟨_, Heap.get?_push_size _ rfl, rfl, rfl⟩ q)
    · exact wpAny_pyIter_ascii ha (pi_one (tk := s1.toks) I1 _ (turn_str _ z t "str_ascii_iterator" (.inl rfl)) ⟨_, Heap.get?_push_size _ rfl, rfl, rfl⟩ q)
theorem sql_inj {K : PySem.W.Frag} {H : Hp} {a : Addr} {xs : List V} (h : SqL K H a xs) : True := True.intro
theorem walk_list {K : PySem.W.Frag} {G : Hp} {a : Addr} {vs : List V} {xs : List PyData} (s : SqL K G a vs) (d : DpAll K G vs xs) : Walk K (Itl K a) G xs := by
  intro H W e hw i
  have s' : SqL K H a vs := hw_same.seq (e.seq s)
  refine ⟨fun x hx => ?_, fun hl => ⟨vs, s', by rw [d.len]; exact hl⟩⟩
  obtain ⟨v, hv, dv⟩ := d.get hx
  refine ⟨⟨vs, v, s', hv⟩, fun u H' y => ?_⟩
  obtain ⟨rfl, y⟩ := y
  have := y vs s'
  rw [hv] at this; cases this
  exact ⟨.refl, dp_mono e _ dv⟩
theorem walk_tup {K : PySem.W.Frag} {G : Hp} {a : Addr} {vs : List V} {xs : List PyData} (s : SqT K G a vs) (d : DpAll K G vs xs) : Walk K (Itt K a) G xs := by
  intro H W e hw i
  have s' : SqT K H a vs := same_t hw_same (same_t e s)
  refine ⟨fun x hx => ?_, fun hl => ⟨vs, s', by rw [d.len]; exact hl⟩⟩
  obtain ⟨v, hv, dv⟩ := d.get hx
  refine ⟨⟨vs, v, s', hv⟩, fun u H' y => ?_⟩
  obtain ⟨rfl, y⟩ := y
  have := y vs s'
  rw [hv] at this; cases this
  exact ⟨.refl, dp_mono e _ dv⟩
theorem walk_str {K : PySem.W.Frag} {G : Hp} {z : Str} : Walk K (Its z) G (z.cps.toList.map fun c => .str ⟨#[c]⟩) := by
  intro H W e hw i
  refine ⟨fun x hx => ?_, fun hl => by
    show z.cps.size ≤ i
    simpa using hl⟩
  rw [List.getElem?_map, Array.getElem?_toList] at hx
  obtain ⟨c, hc, rfl⟩ := Option.map_eq_some_iff.mp hx
  refine ⟨(Array.getElem?_eq_some_iff.mp hc).1, fun u H' y => ?_⟩
  obtain ⟨rfl, c', hc', rfl⟩ := y
  rw [hc] at hc'; cases hc'
  exact ⟨.refl, .str _⟩
theorem walk_rng {K : PySem.W.Frag} {G : Hp} {lo hi : Int} : Walk K (Itr lo (hi - lo).toNat) G (rngL lo hi) := by
  intro H W e hw i
  unfold rngL
  refine ⟨fun x hx => ?_, fun hl => by
    rw [List.length_map, List.length_range] at hl
    exact hl⟩
  rw [List.getElem?_map] at hx
  obtain ⟨j, hj, rfl⟩ := Option.map_eq_some_iff.mp hx
  obtain ⟨h1, h2⟩ := List.getElem?_eq_some_iff.mp hj
  rw [List.getElem_range] at h2
  subst h2
  rw [List.length_range] at h1
  refine ⟨h1, fun u H' y => ?_⟩
  obtain ⟨rfl, rfl⟩ := y
  exact ⟨.refl, .int _⟩
theorem pdi_seq (h : PD X e te) : PDI X tg e (tdIt te) := by
  obtain ⟨t1, p1, q1⟩ := h
  refine ⟨_, pi_any p1, fun σ H W A env R Qd E ht k => ?_⟩
  refine q1 σ H W A env _ _ E ht fun v H1 W1 env1 rv E1 S1 R1 h1 => ?_
  split at h1
  · rename_i y ey
    split at h1
    · rename_i xs ex
      obtain ⟨W', s1, s2, d⟩ := R1.keepD S1 ey
      have E' := E1.sub s1 fun a ha => s2 a (E1.ain a ha) (E.ain a ha)
      have S' := S1.sub s1 s2
      cases y with
      | list ys =>
        cases ex
        cases d with
        | lst s r => exact .inl ⟨_, rfl, ⟨_, hw_same.seq s⟩, k _ H1 W' env1 _ E' S' (walk_list s r) h1⟩
      | tuple ys =>
        cases ex
        cases d with
        | tup s r => exact .inr (.inl ⟨_, rfl, ⟨_, same_t hw_same s⟩, k _ H1 W' env1 _ E' S' (walk_tup s r) h1⟩)
      | str z =>
        cases ex
        cases d
        exact .inr (.inr ⟨_, rfl, k _ H1 W' env1 _ E' S' walk_str h1⟩)
      | _ => cases ex
    · exact h1.elim
  · exact h1.elim
theorem pdi_rng1 (hg : Gl X "range") (hm : X.mg "range" = none) (ha : PDA X [a] ta) (hs : starEach [a] X.env = [(false, eval a X.env)] := by rfl) : PDI X tg (.Call (.Name "range" p) [a] [] pos) (tdRng1 ta) := by
  obtain ⟨t1, p1, q1⟩ := ha
  refine ⟨_, pi_range1 hg hm p1 hs, fun σ H W A env R Qd E ht k => ?_⟩
  refine q1 σ H W A env _ _ E ht fun vs H1 W1 env1 rvs E1 S1 R1 h1 => ?_
  split at h1
  · rename_i j ej
    obtain ⟨v, rfl, d⟩ := dqall1 (R1.read E1 ej)
    refine ⟨j, by rw [d.int], h1.1.1, h1.1.2, ?_⟩
    have w := k (Itr 0 (j - 0).toNat) H1 W1 env1 _ E1 S1 walk_rng h1.2
    rwa [show j - 0 = j by omega] at w
  · exact h1.elim
theorem pdi_rng2 (hg : Gl X "range") (hm : X.mg "range" = none) (ha : PDA X [a, b] ta) (hs : starEach [a, b] X.env = [(false, eval a X.env), (false, eval b X.env)] := by rfl) (hs2 : starEach [b] X.env = [(false, eval b X.env)] := by rfl) :
    PDI X tg (.Call (.Name "range" p) [a, b] [] pos) (tdRng2 ta) := by
  obtain ⟨t1, p1, q1⟩ := ha
  refine ⟨_, pi_range2 hg hm p1 hs hs2, fun σ H W A env R Qd E ht k => ?_⟩
  refine q1 σ H W A env _ _ E ht fun vs H1 W1 env1 rvs E1 S1 R1 h1 => ?_
  split at h1
  · rename_i i j ej
    obtain ⟨v, u, rfl, d, d2⟩ := dqall2 (R1.read E1 ej)
    exact ⟨i, j, by rw [d.int, d2.int], h1.1, k _ H1 W1 env1 _ E1 S1 walk_rng h1.2⟩
  · exact h1.elim
end

/-! ### targets -/
abbrev TDG := PyData → En → (En → Prop) → Prop
abbrev TDGs := List PyData → En → (En → Prop) → Prop
def PDG (X : Cx) (N : List Nat × List Nat) (tg : Expr) (t : TDG) : Prop := ∃ g, PG X tg g ∧ ∀ (B : Bs) (v : V) (x : PyData) (σ : L2.St) (H : Hp) (W : List Addr) (A : List (Option Addr)) (env : En) (Q : L2.St → Hp → Prop) (Qd : En → Prop), OkN B N → StR X.K B H W A env σ → Dp X.K (HW H W) v x → t x env Qd →
  (∀ σ' A' env', StR X.K B H W A' env' σ' → Qd env' → Q σ' H) → g v σ H Q
def PDGs (X : Cx) (N : List Nat × List Nat) (tgs : List Expr) (t : TDGs) : Prop := ∃ g, PGs X tgs g ∧ ∀ (B : Bs) (vs : List V) (xs : List PyData) (σ : L2.St) (H : Hp) (W : List Addr) (A : List (Option Addr)) (env : En) (Q : L2.St → Hp → Prop) (Qd : En → Prop), OkN B N → StR X.K B H W A env σ → DpAll X.K (HW H W) vs xs → t xs env Qd →
  (∀ σ' A' env', StR X.K B H W A' env' σ' → Qd env' → Q σ' H) → g vs σ H Q
def gdName (i : Nat) : TDG := fun x env Q => i < env.length ∧ Q (env.set i (some (.d x)))
def gdNil : TDGs := fun xs env Q => match xs with
  | [] => Q env
  | _ => False
def gdCons (t : TDG) (u : TDGs) : TDGs := fun xs env Q => match xs with
  | x :: r => t x env fun env1 => u r env1 Q
  | [] => False
def gdTup (n : Nat) (t : TDGs) : TDG := fun x env Q => match x with
  | .tuple xs => xs.length = n ∧ t xs env Q
  | _ => False
section
variable {X : Cx} {N : List Nat × List Nat} {tg e : Expr} {es : List Expr} {t : TDG} {u : TDGs} {pos : Pos}
theorem pdg_name {i : Nat} {x : Str} (hN : X.N.Nodup) (hi : X.N[i]? = some x) (hx : Loc X.env.scope x) (hM : i ∉ N.1 := by decide) (hf : X.fn x = true ∨ X.env.scope.names.lookup x = some .local := by first | exact .inl rfl | exact .inr rfl | assumption) : PDG X N (.Name x pos) (gdName i) :=
  ⟨_, pg_name hN hi hx hf, fun B v x σ H W A env Q Qd hB R d h k => k _ _ _ (R.setD hB hM h.1 d) h.2⟩
theorem pdgs_nil : PDGs X N [] gdNil := ⟨_, pgs_nil, fun B vs xs σ H W A env Q Qd hB R d h k => by
  cases xs with
  | nil => cases d; exact ⟨rfl, k _ _ _ R h⟩
  | cons _ _ => exact h.elim⟩
theorem pdgs_cons (h1 : PDG X N e t) (h2 : PDGs X N es u) (hs : (assignEach (e :: es) X.env).map (·.2) = assign e X.env :: (assignEach es X.env).map (·.2) := by rfl) : PDGs X N (e :: es) (gdCons t u) := by
  obtain ⟨g1, p1, q1⟩ := h1
  obtain ⟨g2, p2, q2⟩ := h2
  refine ⟨_, pgs_cons p1 p2 hs, fun B vs xs σ H W A env Q Qd hB R d h k => ?_⟩
  cases d with
  | nil => exact h.elim
  | cons d1 d2 =>
    refine ⟨_, _, rfl, q1 B _ _ σ H W A env _ _ hB R d1 h fun σ' A' env' R' h' => ?_⟩
    exact q2 B _ _ σ' H W A' env' Q Qd hB R' d2 h' k
theorem pdg_tup {k n : Nat} (hc : X.calm = true) (h : PDGs X N es u) (hn : (assignEach es X.env).length = n := by rfl) (hst : (assignEach es X.env).findIdx? (·.1) = none := by rfl) : PDG X N (.Tuple es k pos) (gdTup n u) := by
  obtain ⟨g, p, q⟩ := h
  refine ⟨_, pg_tup hc p hn hst, fun B v x σ H W A env Q Qd hB R d h k => ?_⟩
  cases x with
  | tuple xs =>
    cases d with
    | tup s r => exact ⟨_, _, rfl, same_t hw_same s, r.len.trans h.1, q B _ _ σ H W A env Q Qd hB R r h.2 k⟩
  | _ => exact h.elim
end
/-- target = e: data taken apart -/
def tdAsg (te : TD) (g : TDG) : TDS := fun D env => te env fun rv env1 => match rvD rv with
  | some x => g x env1 D.nx
  | none => False
section
variable {X : Cx} {N : List Nat × List Nat} {tg e iter c : Expr} {body : List Stmt} {te : TD} {g : TDG} {tc : TDT} {ti : TDI} {tb : TDS} {pos : Pos}
theorem psd_asg (he : PD X e te) (hg : PDG X N tg g) (hs : swapsWithSole [tg] e pos.line X.env = pure false := by rfl) (hw : swappedStores [tg] e X.env = pure none := by rfl)
    (h1 : (assignEach [tg] X.env).map (·.2) = [assign tg X.env] := by rfl) : PSD X N (.Assign [tg] e pos) (tdAsg te g) := by
  obtain ⟨t1, p1, q1⟩ := he
  obtain ⟨g1, p2, q2⟩ := hg
  refine ⟨_, ps_asg p1 p2 hs hw h1, fun B D Dd σ H W A env hB R h O => ?_⟩
  refine q1 σ H W A env _ _ R.en h fun v H1 W1 env1 rv E1 S1 R1 h1 => ?_
  have R' := R.step S1 E1
  split at h1
  · rename_i x ex
    obtain ⟨W', s1, s2, d⟩ := R1.keepD S1 ex
    have R2 := R'.sub s1 (fun a ha => s2 a (E1.ain a ha) (R.en.ain a ha)) (fun q hq => s2 q (R'.up q hq) (R.up q hq)) fun q hq => s2 q.1 (R'.fz q hq).2.2 (R.fz q hq).2.2
    exact q2 B v x σ H1 W' A env1 _ _ hB R2 d h1 fun σ' A' env' R3 h3 => O.nx σ' H1 W' A' env' R3 h3
  · exact h1.elim
/-- for: Pv what holds ahead of turn i -/
def tdFor (ti : TDI) (g : TDG) (tb : TDS) : TDS := fun D env => ti env fun xs env1 => ∃ Pv : Nat → En → Prop, Pv 0 env1 ∧
  (∀ i x env, xs[i]? = some x → Pv i env → g x env fun env2 => tb { D with nx := Pv (i + 1), ct := Pv (i + 1), bk := D.nx } env2) ∧ ∀ env, Pv xs.length env → D.nx env
theorem psd_for (hp : PassesOwn (model X.prog X.w) X.A X.env X.xe) (hc : X.calm = true) (hi : PDI X tg iter ti) (hg : PDG X N tg g) (hb : PSDs X N body tb) (hs : ∀ x, foldedSetIterable iter X.env x = pure x := by intro _; rfl) :
    PSD X N (.For tg iter body [] pos) (tdFor ti g tb) := by
  obtain ⟨w1, p1, q1⟩ := hi
  obtain ⟨g1, p2, q2⟩ := hg
  obtain ⟨b1, p3, q3⟩ := hb
  refine ⟨_, ps_for hp hc p1 p2 p3 hs, fun B D Dd σ H W A env hB R h O => ?_⟩
  refine q1 σ H W A env _ _ R.en h fun J H1 W1 env1 xs E1 S1 Wk h1 => ?_
  obtain ⟨Pv, h0, hs, hd⟩ := h1
  have R1 := R.step S1 E1
  -- in the loop what was seen at its start stands
  have up : ∀ {H W A env σ}, StR X.K { B with G := HW H1 W1 } H W A env σ → StR X.K B H W A env σ := fun {H W A env σ} r => ⟨r.en, r.old, r.there, r.up, r.fr, r.own, r.par, r.mvs, r.fz, fun b o e => r.seen b o (R1.seen b o e)⟩
  have hB' : OkN { B with G := HW H1 W1 } N := ⟨hB.n, hB.m, hB.w, hB.v⟩
  refine ⟨fun i m σ H => m = xs.length - i ∧ i ≤ xs.length ∧ ∃ W A env, StR X.K { B with G := HW H1 W1 } H W A env σ ∧ Pv i env,
    ⟨_, rfl, Nat.zero_le _, W1, A, env1, ⟨R1.en, R1.old, R1.there, R1.up, R1.fr, R1.own, R1.par, R1.mvs, R1.fz, Same.refl _⟩, h0⟩, ?_⟩
  rintro i m σ2 H2 ⟨rfl, hle, W2, A2, env2, R2, hP⟩
  obtain ⟨wg, ws⟩ := Wk H2 W2 R2.seen R2.en.trk i
  by_cases hlt : i < xs.length
  · obtain ⟨go, yl⟩ := wg xs[i] (by simp [hlt])
    refine .inr ⟨go, fun σ' H' => ∃ W A env, StR X.K { B with G := HW H1 W1 } H' W A env σ' ∧ Pv (i + 1) env, fun σ' H' q => ⟨xs.length - (i + 1), by omega, rfl, hlt, q⟩, fun v H3 y => ?_⟩
    obtain ⟨gr, dv⟩ := yl v H3 y
    have R3 := R2.step gr.stp (gr.en R2.en)
    refine q2 { B with G := HW H1 W1 } v xs[i] σ2 H3 W2 A2 env2 _ _ hB' R3 dv (hs i _ env2 (by simp [hlt]) hP) fun σ' A' env' R4 h4 => ?_
    exact q3 { B with G := HW H1 W1 } _ { Dd with nx := Pv (i + 1), ct := Pv (i + 1), bk := Dd.nx } σ' H3 W2 A' env' hB' R4 h4
      ⟨fun σ H W A env r q => ⟨W, A, env, r, q⟩, fun σ H W A env r q => O.nx σ H W A env (up r) q, fun σ H W A env r q => ⟨W, A, env, r, q⟩, fun σ H W A env v s r q q' => O.rt σ H W A env v s (up r) q q'⟩
  · have e : i = xs.length := by omega
    subst e
    exact .inl ⟨ws (Nat.le_refl _), O.nx σ2 H2 W2 A2 env2 (up R2) (hd env2 hP)⟩
/-- while: by a word and a measure -/
def tdWhile (c : TDT) (tb : TDS) : TDS := fun D env => ∃ (Pv : Nat → En → Prop), (∃ m, Pv m env) ∧ ∀ m env, Pv m env → c env fun b env1 => if b = true then tb { D with nx := fun env' => ∃ m', m' < m ∧ Pv m' env', ct := fun env' => ∃ m', m' < m ∧ Pv m' env', bk := D.nx } env1 else D.nx env1
theorem psd_while (hp : PassesOwn (model X.prog X.w) X.A X.env X.xe) (hc : PDT X c tc) (hb : PSDs X N body tb) : PSD X N (.While c body [] pos) (tdWhile tc tb) := by
  obtain ⟨t1, p1, q1⟩ := hc
  obtain ⟨b1, p3, q3⟩ := hb
  refine ⟨_, ps_while hp p1 p3, fun B D Dd σ H W A env hB R h O => ?_⟩
  obtain ⟨Pv, ⟨m0, h0⟩, ht⟩ := h
  refine ⟨fun m σ H => ∃ W A env, StR X.K B H W A env σ ∧ Pv m env, ⟨m0, W, A, env, R, h0⟩, ?_⟩
  rintro m σ2 H2 ⟨W2, A2, env2, R2, hP⟩
  refine q1 σ2 H2 W2 A2 env2 _ _ R2.en (ht m env2 hP) fun b H3 W3 env3 E3 S3 h3 => ?_
  have R3 := R2.step S3 E3
  cases b with
  | false => exact O.nx σ2 H3 W3 A2 env3 R3 h3
  | true =>
    refine ⟨fun σ' H' => ∃ m', m' < m ∧ ∃ W A env, StR X.K B H' W A env σ' ∧ Pv m' env, fun σ' H' ⟨m', l, q⟩ => ⟨m', l, q⟩, ?_⟩
    exact q3 B _ { Dd with nx := fun env' => ∃ m', m' < m ∧ Pv m' env', ct := fun env' => ∃ m', m' < m ∧ Pv m' env', bk := Dd.nx } σ2 H3 W3 A2 env3 hB R3 h3
      ⟨fun σ H W A env r ⟨m', l, q⟩ => ⟨m', l, W, A, env, r, q⟩, fun σ H W A env r q => O.nx σ H W A env r q, fun σ H W A env r ⟨m', l, q⟩ => ⟨m', l, W, A, env, r, q⟩, fun σ H W A env v s r q q' => O.rt σ H W A env v s r q q'⟩
end
end DL

set_option Elab.async false
set_option linter.all false
set_option maxRecDepth 100000
set_option maxHeartbeats 4000000
set_option autoImplicit false
namespace DL
open PySem PySem.Spec L2

/-! ### what is held alone is changed -/
section
variable {K : PySem.W.Frag} {H : Hp} {W : List Addr} {A : List (Option Addr)} {env : En} {σ : L2.St} {a : Addr} {o : HO} {i : Nat}
theorem hw_upd (h : a ∈ W) : HW (upd H a o) W = HW H W := by
  funext b
  unfold HW
  by_cases e : b ∈ W
  · rw [if_pos e, if_pos e]
  · rw [if_neg e, if_neg e, upd_ne fun z => e (by rw [z]; exact h)]
theorem EnR.write (E : EnR K H W A env σ) (ha : A[i]? = some (some a)) {s : Sl} (hs : s.isD = false) (h : OwR K (upd H a o) W a s) : EnR K (upd H a o) W A (env.set i (some s)) σ := by
  obtain ⟨hw, s0, hs0, hd0⟩ := E.back i a ha
  have hi : i < env.length := (List.getElem?_eq_some_iff.mp hs0).1
  obtain ⟨a', ha', hv, ow0⟩ := E.own i s0 hs0 hd0
  rw [ha] at ha'; cases ha'
  refine ⟨by simp [E.len], by simp [E.lenA], fun j x e => ?_, fun j z e hz => ?_, fun j b e => ?_, E.inj, fun p hp => ?_⟩
  · rw [set_get] at e
    by_cases c : i = j
    · subst c
      rw [if_pos rfl, if_pos hi] at e
      cases e
      cases hs
    · rw [if_neg c] at e
      obtain ⟨x1, v, x2, x3⟩ := E.dat j x e
      exact ⟨x1, v, x2, by rw [hw_upd hw]; exact x3⟩
  · rw [set_get] at e
    by_cases c : i = j
    · subst c
      rw [if_pos rfl, if_pos hi] at e
      cases e
      exact ⟨a, ha, hv, h⟩
    · rw [if_neg c] at e
      obtain ⟨b, x1, x2, x3⟩ := E.own j z e hz
      refine ⟨b, x1, x2, x3.mono (by rw [hw_upd hw]; exact Same.refl _) (upd_ne fun q => c (E.inj i j a ha (by rw [← q]; exact x1)))⟩
  · obtain ⟨x1, z, x2, x3⟩ := E.back j b e
    refine ⟨x1, ?_⟩
    rw [set_get]
    by_cases c : i = j
    · subst c
      rw [if_pos rfl, if_pos hi]
      exact ⟨s, rfl, hs⟩
    · rw [if_neg c]
      exact ⟨z, x2, x3⟩
  · by_cases c : p = a
    · rw [c, upd_same]; simp
    · rw [upd_ne c]; exact E.trk p hp
theorem stp_write (h : some a ∈ A) : Stp A H W (upd H a o) W := ⟨fun b u e n => by rw [upd_ne fun z => n (by rw [z]; exact h)]; exact e, fun b e => by
  by_cases c : b = a
  · rw [c, upd_same]; simp
  · rw [upd_ne c]; exact e, fun _ h => h, fun _ h => .inl h⟩
theorem EnR.lst (E : EnR K H W A env σ) {xs : List PyData} (h : env[i]? = some (some (.l xs))) : ∃ a vs, A[i]? = some (some a) ∧ a ∈ W ∧ σ[i]? = some (some (.ref a)) ∧ H a = some (.lst vs) ∧ DpAll K (HW H W) vs xs := by
  obtain ⟨a, ha, hv, vs, h1, h2⟩ := E.own i _ h rfl
  exact ⟨a, vs, ha, (E.back i a ha).1, hv, h1, h2⟩
end
def rdIadd : PyData → PyData → (Rv → Prop) → Prop
  | .int i, .int j, Q => Q (.d (.int (i + j)))
  | _, _, _ => False
/-- a method of a list that a name holds alone: its items and the arguments; the answer is data, the items behind it -/
def MD (X : Cx) (id : String) (r : List PyData → List PyData → (PyData → List PyData → Prop) → Prop) : Prop :=
  ∃ rV, MtR X id rV ∧ ∀ (H : Hp) (W : List Addr) (a : Addr) (vs ws : List V) (xs ys : List PyData) (Q : VK) (Qd : PyData → List PyData → Prop), H a = some (.lst vs) → DpAll X.K (HW H W) vs xs → DpAll X.K (HW H W) ws ys → r xs ys Qd →
    (∀ v z vs' xs', Dp X.K (HW H W) v z → DpAll X.K (HW H W) vs' xs' → Qd z xs' → Q v (upd H a (.lst vs'))) → rV (.ref a) ws H Q
def tdM (i : Nat) (r : List PyData → List PyData → (PyData → List PyData → Prop) → Prop) (t : TDA) : TD := fun env Q => match env[i]? with
  | some (some (.l _)) => t env fun rvs env1 => match env1[i]?, resAll rvs with
    | some (some (.l xs)), some ys => r xs ys fun z xs' => Q (.d z) (env1.set i (some (.l xs')))
    | _, _ => False
  | _ => False
def rdAppend : List PyData → List PyData → (PyData → List PyData → Prop) → Prop
  | xs, [y], Q => xs.length < sizeLine ∧ Q .none (xs ++ [y])
  | _, _, _ => False
def rdPop : List PyData → List PyData → (PyData → List PyData → Prop) → Prop
  | xs, [], Q => match xs[xs.length - 1]? with
    | some y => Q y xs.dropLast
    | none => False
  | _, _, _ => False
def rdPopAt : List PyData → List PyData → (PyData → List PyData → Prop) → Prop
  | xs, [.int i], Q => (-(2 ^ 63) ≤ i ∧ i < 2 ^ 63) ∧ match seqIndex? i xs.length with
    | some k => match xs[k]? with
      | some y => Q y (xs.eraseIdx k)
      | none => False
    | none => False
  | _, _, _ => False
section
variable {X : Cx} {N : List Nat × List Nat} {e o f idx value : Expr} {es : List Expr} {te tk : TD} {ta : TDA} {pos pos' apos cpos tpos : Pos} {i : Nat} {x name : Str} {id : String} {r : List PyData → List PyData → (PyData → List PyData → Prop) → Prop}
theorem md_append : MD X "list.append" rdAppend := by
  refine ⟨_, mt_append, fun H W a vs ws xs ys Q Qd h d dw q k => ?_⟩
  unfold rdAppend at q
  split at q
  · cases dw with
    | cons d1 d2 =>
      cases d2
      exact ⟨a, vs, _, rfl, rfl, h, by rw [d.len]; exact q.1, k .non .none _ _ .non (d.app (.cons d1 .nil)) q.2⟩
  · exact q.elim
theorem DpAll.dl {K : PySem.W.Frag} {H : Hp} {vs : List V} {xs : List PyData} (d : DpAll K H vs xs) : DpAll K H vs.dropLast xs.dropLast := by
  rw [List.dropLast_eq_take, List.dropLast_eq_take, d.len]
  exact d.take _
theorem md_pop : MD X "list.pop" rdPop := by
  refine ⟨_, mt_pop, fun H W a vs ws xs ys Q Qd h d dw q k => ?_⟩
  unfold rdPop at q
  split at q
  · cases dw
    split at q
    · rename_i y ey
      obtain ⟨v, hv, dv⟩ := d.get ey
      exact ⟨a, vs, v, rfl, rfl, h, by rw [d.len]; exact hv, k v y _ _ dv (DpAll.dl d) q⟩
    · exact q.elim
  · exact q.elim
theorem md_popAt : MD X "list.pop" rdPopAt := by
  refine ⟨_, mt_popAt, fun H W a vs ws xs ys Q Qd h d dw q k => ?_⟩
  unfold rdPopAt at q
  split at q
  · cases dw with
    | cons d1 d2 =>
      cases d2
      cases d1
      obtain ⟨hb, q⟩ := q
      split at q
      · rename_i k' ek
        split at q
        · rename_i y ey
          obtain ⟨v, hv, dv⟩ := d.get ey
          exact ⟨a, vs, _, k', v, rfl, rfl, h, hb.1, hb.2, by rw [d.len]; exact ek, hv, k v y _ _ dv (d.erase _) q⟩
        · exact q.elim
      · exact q.elim
  · exact q.elim
theorem m_end {a : Addr} {H0 H : Hp} {W0 W : List Addr} {A : List (Option Addr)} {env : En} {σ : L2.St} {vs : List V} {xs : List PyData} {Qd : Rv → En → Prop} {Q : VK} {v : V} {z : PyData} (E : EnR X.K H W A env σ) (S : Stp A H0 W0 H W) (ha : A[i]? = some (some a)) (hw : a ∈ W)
    (k : ∀ v H' W' env' rv, EnR X.K H' W' A env' σ → Stp A H0 W0 H' W' → RvR X.K H0 W0 H' W' A rv v → Qd rv env' → Q v H') (dv : Dp X.K (HW H W) v z) (d : DpAll X.K (HW H W) vs xs) (q : Qd (.d z) (env.set i (some (.l xs)))) : Q v (upd H a (.lst vs)) := by
  refine k v _ W _ (.d z) (E.write (s := .l xs) ha rfl ⟨vs, upd_same, by rw [hw_upd hw]; exact d⟩) (S.trans (stp_write (List.mem_of_getElem? ha))) ?_ q
  show Dp X.K (HW (upd H a (.lst vs)) W) v z
  rw [hw_upd hw]
  exact dv
/-- x.m(e, ..), x a name of the def -/
theorem pd_m (pa : PlainAttrs "list") (slot : Slot "list" name id) (hty : typeOf (.builtin id) = pure (.type "method_descriptor")) (hm : MD X id r) (ho : PE X o (tVar i)) (ha : PDA X (e :: es) ta)
    (hbase : attributeBase o name X.env (eval o X.env) = eval o X.env := by rfl)
    (hfew : ((backTo cpos (starEach (e :: es) X.env)).all (fun x => !x.1) && (backToKw cpos (keywordEach [] X.env)).all (fun x => x.1.isSome)
      && decide ((e :: es).length + ([] : List Keyword).length + (if ([] : List Keyword).isEmpty then 0 else 1) < 30)) = true := by rfl)
    (hline : (apos.endLine == cpos.line) = true := by rfl) (hs : starEach (e :: es) X.env = (false, eval e X.env) :: starEach es X.env := by rfl) (hplain : (backTo cpos (starEach es X.env)).any (·.1) = false := by rfl) :
    PD X (.Call (.Attribute o name apos) (e :: es) [] cpos) (tdM i r ta) := by
  obtain ⟨rV, h1, h2⟩ := hm
  obtain ⟨t1, p1, q1⟩ := ha
  refine ⟨_, pe_bm pa slot hty h1 ho p1 hbase hfew hline hs hplain, fun σ H W A env Q Qd E ht k => ?_⟩
  unfold tdM at ht
  split at ht
  · rename_i xs0 hx0
    obtain ⟨a, vs0, ha, hw, hv, h3, h4⟩ := E.lst hx0
    refine ⟨.ref a, hv, .inl ⟨rfl, vs0, SqL.of h3⟩, ?_⟩
    refine q1 σ H W A env _ _ E ht fun ws H1 W1 env1 rvs E1 S1 R1 q2 => ?_
    split at q2
    · rename_i xs ys hx ey
      obtain ⟨W', s1, s2, dw⟩ := R1.keep ey
      have E' := E1.sub s1 fun a ha => s2 a (E1.ain a ha) (E.ain a ha)
      have S' := S1.sub s1 s2
      obtain ⟨a', vs, ha', hw', hv', h5, h6⟩ := E'.lst hx
      rw [ha] at ha'; cases ha'
      exact h2 H1 W' a vs ws xs ys Q _ h5 h6 dw q2 fun v z vs' xs' dv d' q' => m_end E' S' ha hw' k dv d' q'
    · exact q2.elim
  · exact ht.elim
theorem pd_m0 (pa : PlainAttrs "list") (slot : Slot "list" name id) (hty : typeOf (.builtin id) = pure (.type "method_descriptor")) (hm : MD X id r) (ho : PE X o (tVar i))
    (hbase : attributeBase o name X.env (eval o X.env) = eval o X.env := by rfl) (hline : (apos.endLine == cpos.line) = true := by rfl) : PD X (.Call (.Attribute o name apos) [] [] cpos) (tdM i r tdNil) := by
  obtain ⟨rV, h1, h2⟩ := hm
  refine ⟨_, pe_bm0 pa slot hty h1 ho hbase hline, fun σ H W A env Q Qd E ht k => ?_⟩
  unfold tdM at ht
  split at ht
  · rename_i xs0 hx0
    obtain ⟨a, vs0, ha, hw, hv, h3, h4⟩ := E.lst hx0
    refine ⟨.ref a, hv, .inl ⟨rfl, vs0, SqL.of h3⟩, ?_⟩
    have q2 : r xs0 [] fun z xs' => Qd (.d z) (env.set i (some (.l xs'))) := by
      have q2 := ht
      simp only [tdNil, hx0, resAll] at q2
      exact q2
    exact h2 H W a vs0 [] xs0 [] Q _ h3 h4 .nil q2 fun v z vs' xs' dv d' q' => m_end E .refl ha hw k dv d' q'
  · exact ht.elim
/-- x.remove(e), ints, e is there -/
def rdRemove : List PyData → List PyData → (PyData → List PyData → Prop) → Prop
  | xs, [.int n], Q => ∃ ns : List Int, xs = ns.map PyData.int ∧ n ∈ ns ∧ Q .none ((ns.erase n).map PyData.int)
  | _, _, _ => False
theorem pd_remove (hc : X.calm = true) (ho : PE X o (tVar i)) (ha : PD X e te) (hbase : attributeBase o "remove" X.env (eval o X.env) = eval o X.env := by rfl)
    (hfew : ((backTo cpos (starEach [e] X.env)).all (fun x => !x.1) && (backToKw cpos (keywordEach [] X.env)).all (fun x => x.1.isSome)
      && decide (([e] : List Expr).length + ([] : List Keyword).length + (if ([] : List Keyword).isEmpty then 0 else 1) < 30)) = true := by rfl)
    (hline : (apos.endLine == cpos.line) = true := by rfl) (hs : starEach [e] X.env = (false, eval e X.env) :: starEach [] X.env := by rfl) (hplain : (backTo cpos (starEach [] X.env)).any (·.1) = false := by rfl) :
    PD X (.Call (.Attribute o "remove" apos) [e] [] cpos) (tdM i rdRemove (tdCons te tdNil)) := by
  obtain ⟨t1, p1, q1⟩ := ha
  refine ⟨_, pe_remX hc (takes0 (X := X)) ho p1 hbase hfew hline hs hplain, fun σ H W A env Q Qd E ht k => ?_⟩
  unfold tdM at ht
  split at ht
  · rename_i xs0 hx0
    obtain ⟨a, vs0, ha, hw, hv, h3, h4⟩ := E.lst hx0
    refine ⟨.ref a, hv, .inl ⟨rfl, vs0, SqL.of h3⟩, ?_⟩
    refine q1 σ H W A env _ _ E ht fun v H1 W1 env1 rv E1 S1 R1 q2 => ?_
    simp only [tdNil] at q2
    split at q2
    · rename_i xs ys hx ey
      unfold rdRemove at q2
      split at q2
      · rename_i n
        have er : rv = .d (.int n) := by
          cases rv with
          | d y => simp [resAll] at ey; rw [ey]
          | o j => cases ey
          | n s => cases s <;> simp [resAll] at ey
        subst er
        obtain ⟨ns, rfl, hn, q2⟩ := q2
        obtain ⟨a', vs, ha', hw', hv', h5, h6⟩ := E1.lst hx
        rw [ha] at ha'; cases ha'
        rw [h6.ints] at h5
        refine ⟨a, ns, n, rfl, Dq.int (.of_dp R1), h5, fun _ => ?_, fun z => absurd hn z⟩
        exact m_end E1 S1 ha hw' k .non (.of_ints (ns.erase n)) q2
      · exact q2.elim
    · exact q2.elim
  · exact ht.elim
/-- x[k] = e, x a name of the def -/
def tdSetIx (i : Nat) (tk te : TD) : TDS := fun D env => te env fun rv env1 => match env1[i]? with
  | some (some (.l _)) => tk env1 fun rk env2 => match env2[i]?, res env2 rk, rvD rv with
    | some (some (.l xs)), some (.int k), some x => match ixN xs.length k with
      | some j => D.nx (env2.set i (some (.l (xs.set j x))))
      | none => False
    | _, _, _ => False
  | _ => False
theorem psd_setIx {N : List Nat × List Nat} (ho : PE X o (tVar i)) (hk : PD X idx tk) (he : PD X e te) (ha : ∀ v, assign (.Subscript o idx tpos) X.env v = (do
      let ov ← holding [v] (eval o X.env)
      let iv ← holding [v, ov] (eval idx X.env)
      standAt tpos
      holding [v, ov, iv] (setItem ov iv v)
      release [v, ov, iv] []) := by intro _; rfl)
    (hs : swapsWithSole [.Subscript o idx tpos] e pos.line X.env = pure false := by rfl) (hw : swappedStores [.Subscript o idx tpos] e X.env = pure none := by rfl)
    (h1 : (assignEach [.Subscript o idx tpos] X.env).map (·.2) = [assign (.Subscript o idx tpos) X.env] := by rfl) : PSD X N (.Assign [.Subscript o idx tpos] e pos) (tdSetIx i tk te) := by
  obtain ⟨t1, p1, q1⟩ := he
  obtain ⟨t2, p2, q2⟩ := hk
  refine ⟨_, ps_asg p1 (pg_sub ho p2 set_list ha) hs hw h1, fun B D Dd σ H W A env hB R h O => ?_⟩
  refine q1 σ H W A env _ _ R.en h fun v H1 W1 env1 rv E1 S1 R1 h1 => ?_
  split at h1
  · rename_i xs0 hx0
    obtain ⟨a, vs0, ha, hwa, hv, h3, h4⟩ := E1.lst hx0
    refine ⟨.ref a, hv, ?_⟩
    refine q2 σ H1 W1 A env1 _ _ E1 h1 fun u H2 W2 env2 rk E2 S2 R2 h2 => ?_
    split at h2
    · rename_i xs k x hx ek ex
      split at h2
      · rename_i j ej
        obtain ⟨W', s1, s2, d⟩ := (R1.step S2 E1.ain R.en.ain).keepD (S1.trans S2) ex
        have E' := E2.sub s1 fun a ha => s2 a (E2.ain a ha) (R.en.ain a ha)
        have R' := (R.step (S1.trans S2) E2).sub s1 (fun a ha => s2 a (E2.ain a ha) (R.en.ain a ha)) (fun q hq => s2 q ((S1.trans S2).up q (R.up q hq)) (R.up q hq)) fun q hq => s2 q.1 ((S1.trans S2).up _ (R.fz q hq).2.2) (R.fz q hq).2.2
        obtain ⟨a', vs, ha', hw', hv', h5, h6⟩ := E'.lst hx
        rw [ha] at ha'; cases ha'
        refine ⟨a, vs, k, j, rfl, (Dq.of_rv E2 R2 ek).int, h5, by rw [h6.len]; exact ej, ?_⟩
        have E3 : EnR X.K (upd H2 a (.lst (vs.set j v))) W' A (env2.set i (some (.l (xs.set j x)))) σ := E'.write (s := .l (xs.set j x)) ha rfl ⟨_, upd_same, by rw [hw_upd hw']; exact h6.set d j⟩
        exact O.nx σ _ W' A _ (R'.step (stp_write (List.mem_of_getElem? ha)) E3) h2
      · exact h2.elim
    · exact h2.elim
  · exact h1.elim
/-- x op= e, data -/
def tdAug (i : Nat) (r : PyData → PyData → (Rv → Prop) → Prop) (t : TD) : TDS := fun D env => match env[i]? with
  | some (some (.d _)) => t env fun rv env1 => match env1[i]?, res env1 rv with
    | some (some (.d a)), some b => r a b fun z => match rvD z with
      | some y => i < env1.length ∧ D.nx (env1.set i (some (.d y)))
      | none => False
    | _, _ => False
  | _ => False
theorem psd_aug {N : List Nat × List Nat} {op : Operator} {r : PyData → PyData → (Rv → Prop) → Prop} (hN : X.N.Nodup) (hi : X.N[i]? = some x) (hx : Loc X.env.scope x) (he : PD X e te) (ho : OpD X (inplaceOp op) r) (hM : i ∉ N.1 := by decide) (hf : X.fn x = true ∨ X.env.scope.names.lookup x = some .local := by first | exact .inl rfl | exact .inr rfl | assumption) :
    PSD X N (.AugAssign (.Name x pos') op e pos) (tdAug i r te) := by
  obtain ⟨rV, o1, o2⟩ := ho
  obtain ⟨t1, p1, q1⟩ := he
  refine ⟨_, ps_aug hN hi hx p1 (fun pins s σ H x y v u Q I rx ry h => o1 pins s σ H x y v u Q I rx ry h) hf, fun B D Dd σ H W A env hB R h O => ?_⟩
  unfold tdAug at h
  split at h
  · rename_i a0 ha0
    obtain ⟨_, v0, hv0, d0⟩ := R.en.dat i a0 ha0
    refine ⟨v0, hv0, ?_⟩
    refine q1 σ H W A env _ _ R.en h fun v H1 W1 env1 rv E1 S1 R1 h1 => ?_
    split at h1
    · rename_i a b ea eb
      obtain ⟨_, v1, hv1, d1⟩ := E1.dat i a ea
      rw [hv0] at hv1; cases hv1
      have R' := R.step S1 E1
      refine o2 H1 W1 v0 v a b _ _ E1.trk (.of_dp d1) (.of_rv E1 R1 eb) h1 fun u H2 W2 z g Rz hz => ?_
      split at hz
      · rename_i y ey
        have E2 := g.en E1
        have R2 := R'.step g.stp E2
        have Rz' : RvR X.K H1 W1 H2 W2 A z u := by
          cases z with
          | d x => exact Rz
          | o i => obtain ⟨a, ha, _⟩ := Rz; cases i <;> simp at ha
          | n s => exact Rz
        obtain ⟨W', s1, s2, d⟩ := Rz'.keepD g.stp ey
        have R3 := R2.sub s1 (fun a ha => s2 a (E2.ain a ha) (E1.ain a ha)) (fun q hq => s2 q (R2.up q hq) (R'.up q hq)) fun q hq => s2 q.1 (R2.fz q hq).2.2 (R'.fz q hq).2.2
        exact O.nx _ H2 W' _ _ (R3.setD hB hM hz.1 d) hz.2
      · exact hz.elim
    · exact h1.elim
  · exact h.elim
theorem od_iadd : OpD X (inplaceOp .Add) rdIadd := by
  refine ⟨_, ip_add, fun H W x y a b Q Qd hw ra rb q k => ?_⟩
  unfold rdIadd at q
  split at q
  · exact ⟨_, _, ra.int, rb.int, k.int q⟩
  · exact q.elim
end
end DL

set_option Elab.async false
set_option linter.all false
set_option maxRecDepth 100000
set_option maxHeartbeats 4000000
set_option autoImplicit false
namespace DL
open PySem PySem.Spec L2

/-! ### what a def promises: its arguments, what it hands back, what the lists hold that it was lent -/
abbrev FD := List Sl → (Sl → (Nat → Option Sl) → Prop) → Prop
/-- what is handed back, for the caller -/
def RtC (K : PySem.W.Frag) (H H' : Hp) (W' : List Addr) : Sl → V → Prop
  | .d x, v => Dp K (HW H' W') v x
  | s, v => ∃ p, v = .ref p ∧ H p = none ∧ p ∈ W' ∧ OwR K H' W' p s
structure Back (K : PySem.W.Frag) (N : List Nat × List Nat) (H : Hp) (W : List Addr) (A : List (Option Addr)) (H' : Hp) (W' : List Addr) (os : Nat → Option Sl) : Prop where
  old : ∀ b o, H b = some o → some b ∉ A → H' b = some o
  there : ∀ b, H b ≠ none → H' b ≠ none
  up : ∀ p, p ∈ W → p ∈ W'
  fr : ∀ p, p ∈ W' → p ∈ W ∨ (H p = none ∧ H' p ≠ none)
  io : ∀ i, i ∈ N.1 → ∀ a : Addr, A[i]? = some (some a) → ∃ s : Sl, os i = some s ∧ s.isD = false ∧ OwR K H' W' a s
def spD (K : PySem.W.Frag) (N : List Nat × List Nat) (n : Nat) (f : FD) : Sp := fun vs H Q _ => ∃ (W : List Addr) (A : List (Option Addr)) (args : List Sl) (Q0 : Sl → (Nat → Option Sl) → Prop), args.length = n ∧ EnR K H W A (args.map some) (vs.map some) ∧ (∀ (i : Nat) (a : Addr), A[i]? = some (some a) → i ∈ N.1 ∨ i ∈ N.2) ∧
  f args Q0 ∧ ∀ s os, Q0 s os → ∀ v H' W', Back K N H W A H' W' os → RtC K H H' W' s v → Q v H'
theorem spD_len {K : PySem.W.Frag} {N : List Nat × List Nat} {n : Nat} {f : FD} {vs : List V} {H : Hp} {Q : VK} {E : XK} (h : spD K N n f vs H Q E) : vs.length = n := by
  obtain ⟨W, A, args, Q0, hl, hE, _⟩ := h
  have := hE.len
  rw [List.length_map, List.length_map] at this
  omega
def osOf (env : En) : Nat → Option Sl := fun i => match env[i]? with
  | some (some s) => some s
  | _ => none
def startE (n : Nat) (args : List Sl) : En := args.map some ++ List.replicate (n - args.length) none
def mask (A : List (Option Addr)) (N : List Nat) : List (Option Addr) := A.mapIdx fun i a => if i ∈ N then a else none
theorem mask_get {A : List (Option Addr)} {N : List Nat} {i : Nat} {a : Addr} : (mask A N)[i]? = some (some a) ↔ A[i]? = some (some a) ∧ i ∈ N := by
  unfold mask
  rw [List.getElem?_mapIdx]
  cases e : A[i]? with
  | none => simp
  | some x =>
    by_cases c : i ∈ N
    · simp [c]
    · simp [c]
theorem app_none {α : Type} {l : List α} {m : Nat} {i : Nat} {x : α} : (l.map some ++ List.replicate m (none : Option α))[i]? = some (some x) ↔ l[i]? = some x := by
  by_cases c : i < l.length
  · rw [List.getElem?_append_left (by simpa using c), List.getElem?_map]
    simp
  · rw [List.getElem?_append_right (by simp; omega), List.getElem?_eq_none (l := l) (by omega)]
    constructor
    · intro h
      obtain ⟨_, h⟩ := List.getElem?_eq_some_iff.mp h
      simp at h
    · intro h; cases h
theorem app_noneA {l : List (Option Addr)} {m : Nat} {i : Nat} {x : Addr} : (l ++ List.replicate m (none : Option Addr))[i]? = some (some x) ↔ l[i]? = some (some x) := by
  by_cases c : i < l.length
  · rw [List.getElem?_append_left c]
  · rw [List.getElem?_append_right (by omega), List.getElem?_eq_none (l := l) (by omega)]
    constructor
    · intro h
      obtain ⟨_, h⟩ := List.getElem?_eq_some_iff.mp h
      simp at h
    · intro h; cases h
theorem startR {K : PySem.W.Frag} {H : Hp} {W : List Addr} {A : List (Option Addr)} {args : List Sl} {vs : List V} (E : EnR K H W A (args.map some) (vs.map some)) (m : Nat) :
    EnR K H W (A ++ List.replicate m none) (args.map some ++ List.replicate m none) (vs.map some ++ List.replicate m none) := by
  have l1 := E.len
  have l2 := E.lenA
  simp only [List.length_map] at l1 l2
  refine ⟨by simp [l1], by simp [l2], fun i x h => ?_, fun i s h hs => ?_, fun i a h => ?_, fun i j a h1 h2 => ?_, E.trk⟩
  · have h' := app_none.mp h
    have hi := (List.getElem?_eq_some_iff.mp h').1
    obtain ⟨x1, v, x2, x3⟩ := E.dat i x (by rw [List.getElem?_map, h']; rfl)
    refine ⟨by rw [List.getElem?_append_left (by omega)]; exact x1, v, ?_, x3⟩
    rw [List.getElem?_append_left (by simp; omega)]
    exact x2
  · have h' := app_none.mp h
    have hi := (List.getElem?_eq_some_iff.mp h').1
    obtain ⟨a, x1, x2, x3⟩ := E.own i s (by rw [List.getElem?_map, h']; rfl) hs
    refine ⟨a, app_noneA.mpr x1, ?_, x3⟩
    rw [List.getElem?_append_left (by simp; omega)]
    exact x2
  · obtain ⟨x1, s, x2, x3⟩ := E.back i a (app_noneA.mp h)
    refine ⟨x1, s, ?_, x3⟩
    rw [List.getElem?_append_left (List.getElem?_eq_some_iff.mp x2).1]
    exact x2
  · exact E.inj i j a (app_noneA.mp h1) (app_noneA.mp h2)
/-- a def keeps its promise, by its body -/
theorem body_go {X : Cx} {Ns : List Str} {N : List Nat × List Nat} {n : Nat} {sp : FD} {body : List Stmt} {t : TDS} {vs : List V} {H : Hp} {Q : VK} {E : XK} (hp : PSDs X N body t)
    (ht : ∀ (args : List Sl) (Q : Sl → (Nat → Option Sl) → Prop), args.length = n → sp args Q → t { nx := fun env => Q (.d .none) (osOf env), rt := fun r env => Q r (osOf env) } (startE Ns.length args))
    (h : spD X.K N n sp vs H Q E) : ∃ ts, PSs X body ts ∧ ts { nx := fun _ H' => Q .non H', rt := Q } (L2.start Ns vs) H := by
  obtain ⟨ts, p1, q1⟩ := hp
  obtain ⟨W, Ac, args, Q0, hl, hE, hA, hf, hQ⟩ := h
  have hlv : vs.length = args.length := by
    have := hE.len
    simpa using this
  refine ⟨ts, p1, ?_⟩
  have E0 := startR hE (Ns.length - args.length)
  have eσ : L2.start Ns vs = vs.map some ++ List.replicate (Ns.length - args.length) none := by unfold L2.start; rw [hlv]
  rw [eσ]
  have hmA : ∀ (i : Nat) (a : Addr), (Ac ++ List.replicate (Ns.length - args.length) none)[i]? = some (some a) → Ac[i]? = some (some a) := fun i a h => app_noneA.mp h
  have hmv : ∀ a, a ∈ (N.2.filterMap fun i => (Ac[i]?).join) ↔ ∃ i, i ∈ N.2 ∧ Ac[i]? = some (some a) := fun a => by
    rw [List.mem_filterMap]
    constructor
    · rintro ⟨i, h1, h2⟩
      refine ⟨i, h1, ?_⟩
      cases e : Ac[i]? with
      | none => rw [e] at h2; cases h2
      | some o => rw [e] at h2; exact congrArg some h2
    · rintro ⟨i, h1, h2⟩
      exact ⟨i, h1, by rw [h2]; rfl⟩
  refine q1 ⟨H, W, mask Ac N.1, fun _ => none, N.2.filterMap fun i => (Ac[i]?).join, N.2, []⟩ _ { nx := fun env => Q0 (.d .none) (osOf env), rt := fun r env => Q0 r (osOf env) } _ H W (Ac ++ List.replicate (Ns.length - args.length) none) _ ⟨fun i a h => (mask_get.mp h).2, fun i h => h, hE.trk, fun p hp => ?_⟩ ?_ (ht args _ hl hf) ?_
  · obtain ⟨i, _, h2⟩ := (hmv p).mp hp
    exact hE.trk p (hE.back i p h2).1
  · refine ⟨E0, fun b o h _ _ => h, fun b h => h, fun p h => h, fun p h => .inl h, fun a h => .inl ?_, fun i a h => app_noneA.mpr (mask_get.mp h).1, fun i a h hm => ?_, fun q hq => absurd hq (by simp), fun b o h => by cases h⟩
    · obtain ⟨i, hi⟩ := List.mem_iff_getElem?.mp h
      have hi' := hmA i a hi
      rcases hA i a hi' with c | c
      · exact .inl (List.mem_of_getElem? (mask_get.mpr ⟨hi', c⟩))
      · exact .inr ((hmv a).mpr ⟨i, c, hi'⟩)
    · obtain ⟨j, hj, h2⟩ := (hmv a).mp hm
      have := hE.inj i j a (hmA i a h) h2
      show i ∈ N.2
      rw [this]; exact hj
  · have bk : ∀ {σ' H' W' A' env'}, StR X.K ⟨H, W, mask Ac N.1, fun _ => none, N.2.filterMap fun i => (Ac[i]?).join, N.2, []⟩ H' W' A' env' σ' → Back X.K N H W Ac H' W' (osOf env') := fun {σ' H' W' A' env'} R => by
      refine ⟨fun b o h hb => R.old b o h (fun z => hb ?_) (fun z => hb ?_), R.there, R.up, fun p hp => ?_, fun i hi a ha => ?_⟩
      · obtain ⟨i, hi⟩ := List.mem_iff_getElem?.mp z
        exact List.mem_of_getElem? (mask_get.mp hi).1
      · obtain ⟨i, _, h2⟩ := (hmv b).mp z
        exact List.mem_of_getElem? h2
      · rcases R.fr p hp with z | z
        · exact .inl z
        · exact .inr ⟨z, R.en.trk p hp⟩
      · have ha' := R.par i a (mask_get.mpr ⟨ha, hi⟩)
        obtain ⟨_, s, hs, hd⟩ := R.en.back i a ha'
        obtain ⟨a', h1, _, ow⟩ := R.en.own i s hs hd
        rw [ha'] at h1; cases h1
        exact ⟨s, by unfold osOf; rw [hs], hd, ow⟩
    refine ⟨fun σ' H' W' A' env' R q => hQ _ _ q .non H' W' (bk R) .non, fun σ' H' W' A' env' R q => q.elim, fun σ' H' W' A' env' R q => q.elim, fun σ' H' W' A' env' v r R hr q => hQ _ _ q v H' W' (bk R) ?_⟩
    cases r with
    | d y => exact hr
    | l _ => exact hr
    | m _ => exact hr
    | t _ => exact hr

theorem fnd {P : Program} {w : World} {K : PySem.W.Frag} {mg : Str → Option Value} {base : Heap} {x qual : Str} {st : Stmt} {f : Addr} {fd : FuncData} {Ns ps : List Str} {k : Nat} {N : List Nat × List Nat} {n : Nat} {sp : FD}
    (F : Fun K x qual st f fd) (S : FnScope Ns ps (defScope st)) (hn : ps.length = n)
    (hb : ∀ (cdv : Value) (A : Around) (outer : List Env) (s : Shared) (H : Hp) (E : XK), Room k (A.deeper (PyProof.Rows.envOfC qual (defScope st) s.heap.objs.size f cdv)) →
      ∃ t, PSDs (cxOf CX0 P w K mg base Ns qual (defScope st) f cdv A outer s H E).nox N (defBody st) t ∧ ∀ (args : List Sl) (Q : Sl → (Nat → Option Sl) → Prop), args.length = n → sp args Q → t { nx := fun env => Q (.d .none) (osOf env), rt := fun r env => Q r (osOf env) } (startE Ns.length args)) :
    FnOk P w K mg base CX0 (k + 1) f fd ps (spD K N n sp) := by
  refine F.ok S (fun vs H Q E h => by rw [hn]; exact spD_len h) (fun cdv A outer s H vs Q E hr h => ?_)
  obtain ⟨t, hp, ht⟩ := hb cdv A outer s H E hr
  exact body_go (X := (cxOf CX0 P w K mg base Ns qual (defScope st) f cdv A outer s H E).nox) hp ht h

/-! ### calls -/
def argOf (N : List Nat × List Nat) (env : En) (i : Nat) (rv : Rv) : Option Sl :=
  if i ∈ N.1 then (match rv with
    | .o j => (match env[j]? with
      | some (some s) => if s.isD = true then none else some s
      | _ => none)
    | _ => none)
  else if i ∈ N.2 then (match rv with
    | .n s => if s.isD = true then none else some s
    | _ => none)
  else (rvD rv).map Sl.d
def argsOf (N : List Nat × List Nat) (env : En) : Nat → List Rv → Option (List Sl)
  | _, [] => some []
  | i, rv :: r => match argOf N env i rv with
    | some s => (argsOf N env (i + 1) r).map (s :: ·)
    | none => none
def outE (N : List Nat × List Nat) (rvs : List Rv) (os : Nat → Option Sl) (env : En) : En := match N.1 with
  | [i] => match rvs[i]? with
    | some (.o j) => env.set j (os i)
    | _ => env
  | _ => env
def rvOf : Sl → Rv
  | .d x => .d x
  | s => .n s
def tdCall (N : List Nat × List Nat) (n : Nat) (f : FD) (t : TDA) : TD := fun env Q => t env fun rvs env1 => match argsOf N env1 0 rvs with
  | some args => args.length = n ∧ f args fun s os => Q (rvOf s) (outE N rvs os env1)
  | none => False
inductive ArgR (K : PySem.W.Frag) (H : Hp) (W W0 : List Addr) (env : En) (A : List (Option Addr)) (N : List Nat × List Nat) (i : Nat) : Rv → V → Sl → Option Addr → Prop
  | d {rv : Rv} {v : V} {x : PyData} : i ∉ N.1 → i ∉ N.2 → Dp K (HW H W) v x → ArgR K H W W0 env A N i rv v (.d x) none
  | io {j : Nat} {s : Sl} {a : Addr} : i ∈ N.1 → env[j]? = some (some s) → s.isD = false → A[j]? = some (some a) → OwR K H W a s → ArgR K H W W0 env A N i (.o j) (.ref a) s (some a)
  | mv {s : Sl} {p : Addr} : i ∉ N.1 → i ∈ N.2 → s.isD = false → p ∈ W → p ∉ W0 → OwR K H W p s → ArgR K H W W0 env A N i (.n s) (.ref p) s (some p)
theorem ArgR.sub {K : PySem.W.Frag} {H : Hp} {W W' W0 : List Addr} {env : En} {A : List (Option Addr)} {N : List Nat × List Nat} {i : Nat} {rv : Rv} {v : V} {s : Sl} {oa : Option Addr} (h : ArgR K H W W0 env A N i rv v s oa) (hs : ∀ q, q ∈ W' → q ∈ W) (hp : ∀ p z, rv = .n z → v = .ref p → i ∈ N.2 → p ∈ W') :
    ArgR K H W' W0 env A N i rv v s oa := by
  cases h with
  | d h1 h2 d => exact .d h1 h2 (dp_mono (sub_same hs) _ d)
  | io h1 h2 h3 h4 o => exact .io h1 h2 h3 h4 (o.mono (sub_same hs) rfl)
  | mv h0 h1 h2 h3 h4 o => exact .mv h0 h1 h2 (hp _ _ rfl rfl h1) h4 (o.mono (sub_same hs) rfl)
theorem RvRs.args {K : PySem.W.Frag} {H : Hp} {W : List Addr} {env : En} {A : List (Option Addr)} {σ : L2.St} {N : List Nat × List Nat} (E : EnR K H W A env σ) : ∀ {rvs : List Rv} {vs : List V} {H0 : Hp} {W0 : List Addr} {i : Nat} {args : List Sl}, RvRs K H W A H0 W0 rvs vs → argsOf N env i rvs = some args →
    ∃ (W' : List Addr) (Ac : List (Option Addr)), (∀ q, q ∈ W' → q ∈ W) ∧ (∀ q, q ∈ W → q ∈ W0 → q ∈ W') ∧ args.length = rvs.length ∧ vs.length = rvs.length ∧ Ac.length = rvs.length ∧
      (∀ (k : Nat) (rv : Rv), rvs[k]? = some rv → ∃ v s oa, vs[k]? = some v ∧ args[k]? = some s ∧ Ac[k]? = some oa ∧ ArgR K H W' W0 env A N (i + k) rv v s oa) ∧
      ∀ (k k' : Nat) (p : Addr), i + k ∈ N.2 → i + k' ∈ N.2 → i + k ∉ N.1 → i + k' ∉ N.1 → Ac[k]? = some (some p) → Ac[k']? = some (some p) → k = k' := by
  intro rvs
  induction rvs with
  | nil =>
    intro vs H0 W0 i args r e
    cases r
    cases e
    exact ⟨W, [], fun _ h => h, fun _ h _ => h, rfl, rfl, rfl, fun k rv h => by simp at h, fun k k' p _ _ _ _ h => by simp at h⟩
  | cons rv rvs ih =>
    intro vs H0 W0 i args r e
    cases r with
    | @cons _ _ _ v _ vs H1 W1 r1 m S1 r2 =>
      unfold argsOf at e
      split at e
      · rename_i s es
        obtain ⟨ys, e1, e2⟩ := Option.map_eq_some_iff.mp e
        subst e2
        obtain ⟨W', Ac, h1, h2, l1, l2, l3, h3, h4⟩ := ih r2 e1
        have ix : ∀ k, i + 1 + k = i + (k + 1) := fun k => by omega
        -- the tail, for a lesser W
        have tail : ∀ {W2 : List Addr}, (∀ q, q ∈ W2 → q ∈ W') → (∀ q, q ∈ W' → q ∈ W2 ∨ (i ∉ N.2 ∧ v = .ref q) ∨ q ∈ W1) → (∀ q, q ∈ W2 → True) → (∀ (k : Nat) (rv : Rv), rvs[k]? = some rv → ∃ v s oa, vs[k]? = some v ∧ ys[k]? = some s ∧ Ac[k]? = some oa ∧ (ArgR K H W' W1 env A N (i + 1 + k) rv v s oa)) := fun _ _ _ k rv h => h3 k rv h
        have mvne : ∀ (k : Nat) (p : Addr), i + 1 + k ∈ N.2 → i + 1 + k ∉ N.1 → Ac[k]? = some (some p) → p ∉ W1 := fun k p hk hk1 hp => by
          have hk2 : k < rvs.length := by rw [← l3]; exact (List.getElem?_eq_some_iff.mp hp).1
          obtain ⟨rv2, hrv2⟩ : ∃ rv2, rvs[k]? = some rv2 := ⟨_, List.getElem?_eq_getElem hk2⟩
          obtain ⟨v', s', oa, _, _, h5, h6⟩ := h3 k rv2 hrv2
          rw [hp] at h5; cases h5
          cases h6 with
          | io z => exact absurd z hk1
          | mv _ _ _ _ z => exact z
        -- the head
        have head : ∃ W2 oa, (∀ q, q ∈ W2 → q ∈ W') ∧ (∀ q, q ∈ W' → q ∈ W0 → q ∈ W2) ∧ (∀ q, q ∈ W' → q ∉ W1 → q ∈ W2) ∧ ArgR K H W2 W0 env A N i rv v s oa ∧ (∀ p, oa = some p → i ∈ N.2 → i ∉ N.1 → p ∈ W1) := by
          unfold argOf at es
          split at es
          · rename_i c
            cases rv with
            | o j =>
              dsimp only at es
              split at es
              · rename_i z hz
                split at es
                · cases es
                · rename_i hd
                  cases es
                  have hd' : s.isD = false := by simpa using hd
                  obtain ⟨a, ha, rfl⟩ := r1
                  obtain ⟨a', ha', _, ow⟩ := E.own j s hz hd'
                  rw [ha] at ha'; cases ha'
                  exact ⟨W', some a, fun _ h => h, fun _ h _ => h, fun _ h _ => h, .io c hz hd' ha (ow.mono (sub_same h1) rfl), fun p e hn hn' => absurd c hn'⟩
              · cases es
            | d _ => cases es
            | n _ => cases es
          · rename_i c
            split at es
            · rename_i c2
              cases rv with
              | n z =>
                dsimp only at es
                split at es
                · cases es
                · rename_i hd
                  cases es
                  have hd' : s.isD = false := by simpa using hd
                  have pw := m
                  obtain ⟨p, rfl, _, hp, np, ow⟩ := r1
                  have pW1 := pw p s rfl rfl
                  exact ⟨W', some p, fun _ h => h, fun _ h _ => h, fun _ h _ => h, .mv c c2 hd' (h2 p hp pW1) np (ow.mono (sub_same h1) rfl), fun q e _ _ => by cases e; exact pW1⟩
              | d _ => cases es
              | o _ => cases es
            · rename_i c2
              obtain ⟨x, ex, e4⟩ := Option.map_eq_some_iff.mp es
              subst e4
              cases rv with
              | d y =>
                cases ex
                exact ⟨W', none, fun _ h => h, fun _ h _ => h, fun _ h _ => h, .d c c2 (dp_mono (sub_same h1) _ r1), fun p e => by cases e⟩
              | o j => cases ex
              | n z =>
                cases z with
                | l zs =>
                  cases ex
                  have pw := m
                  obtain ⟨p, rfl, _, hp, np, ws, hpl, dz⟩ := r1
                  have pW1 := pw p _ rfl rfl
                  refine ⟨rel W' p, none, fun q hq => (mem_rel.mp hq).1, fun q hq z => mem_rel.mpr ⟨hq, fun e => np (by rw [← e]; exact z)⟩, fun q hq z => mem_rel.mpr ⟨hq, fun e => z (by rw [e]; exact pW1)⟩, .d c c2 ?_, fun p e => by cases e⟩
                  exact .lst (.inl (.inl (hw_of (fun z => (mem_rel.mp z).2 rfl) hpl))) (dpa_mono (sub_same fun q hq => h1 q (mem_rel.mp hq).1) _ dz)
                | _ => cases ex
        obtain ⟨W2, oa, g1, g2, g3, g4, g5⟩ := head
        refine ⟨W2, oa :: Ac, fun q hq => h1 q (g1 q hq), fun q hq z => g2 q (h2 q hq (S1.up q z)) z, by simp [l1], by simp [l2], by simp [l3], fun k rv' hk => ?_, fun k k' p hk hk' hn hn' e1 e2 => ?_⟩
        · cases k with
          | zero =>
            simp only [List.getElem?_cons_zero, Option.some.injEq] at hk
            subst hk
            exact ⟨v, s, oa, rfl, rfl, rfl, g4⟩
          | succ k =>
            simp only [List.getElem?_cons_succ] at hk
            obtain ⟨v', s', oa', x1, x2, x3, x4⟩ := h3 k rv' hk
            refine ⟨v', s', oa', x1, x2, x3, ?_⟩
            rw [ix] at x4
            have x5 : ArgR K H W2 W1 env A N (i + (k + 1)) rv' v' s' oa' := by
              refine x4.sub g1 fun p z ez ev hN => ?_
              subst ez ev
              cases x4 with
              | d _ c => exact absurd hN c
              | mv c0 c1 c2 c3 c4 _ => exact g3 _ c3 c4
            cases x5 with
            | d a b c => exact .d a b c
            | io a b c d f => exact .io a b c d f
            | mv a0 a b c d f => exact .mv a0 a b c (fun z => d (S1.up _ z)) f
        · cases k with
          | zero =>
            cases k' with
            | zero => rfl
            | succ k' =>
              simp only [List.getElem?_cons_zero, Option.some.injEq] at e1
              simp only [List.getElem?_cons_succ] at e2
              exact absurd (g5 p e1 hk hn) (mvne k' p (by rw [ix]; exact hk') (by rw [ix]; exact hn') e2)
          | succ k =>
            cases k' with
            | zero =>
              simp only [List.getElem?_cons_zero, Option.some.injEq] at e2
              simp only [List.getElem?_cons_succ] at e1
              exact absurd (g5 p e2 hk' hn') (mvne k p (by rw [ix]; exact hk) (by rw [ix]; exact hn) e1)
            | succ k' =>
              simp only [List.getElem?_cons_succ] at e1 e2
              have := h4 k k' p (by rw [ix]; exact hk) (by rw [ix]; exact hk') (by rw [ix]; exact hn) (by rw [ix]; exact hn') e1 e2
              omega
      · cases e
section
variable {X : Cx} {N : List Nat × List Nat} {n k : Nat} {g : FD} {f : Addr} {fd : FuncData} {ps : List Str} {x : Str} {e : Expr} {es : List Expr} {ta : TDA} {p pos : Pos}
theorem pd_callP {E0 : XK} (h : ∀ t : TA, PA X (e :: es) t → PE X (.Call (.Name x p) (e :: es) [] pos) (tCall (spD X.K N n g) [] E0 t)) (ha : PDA X (e :: es) ta) (hN : N.1.length ≤ 1) :
    PD X (.Call (.Name x p) (e :: es) [] pos) (tdCall N n g ta) := by
  obtain ⟨t1, p1, q1⟩ := ha
  refine ⟨_, h _ p1, fun σ H W A env Q Qd E ht kk => ?_⟩
  refine q1 σ H W A env _ _ E ht fun vs H1 W1 env1 rvs E1 S1 R1 q2 => ?_
  split at q2
  · rename_i args ea
    obtain ⟨hln, q2⟩ := q2
    obtain ⟨W', Ac, s1, s2, l1, l2, l3, hA, hI⟩ := R1.args E1 ea
    have one : ∀ i j, i ∈ N.1 → j ∈ N.1 → i = j := fun i j hi hj => by
      cases e1 : N.1 with
      | nil => rw [e1] at hi; cases hi
      | cons a r =>
        cases r with
        | nil => rw [e1] at hi hj; simp at hi hj; omega
        | cons b r => rw [e1] at hN; simp at hN
    have at_ : ∀ (i : Nat), i < rvs.length → ∃ rv v s oa, rvs[i]? = some rv ∧ vs[i]? = some v ∧ args[i]? = some s ∧ Ac[i]? = some oa ∧ ArgR X.K H1 W' W env1 A N i rv v s oa := fun i hi => by
      obtain ⟨v, s, oa, x1, x2, x3, x4⟩ := hA i rvs[i] (by simp [hi])
      rw [Nat.zero_add] at x4
      exact ⟨rvs[i], v, s, oa, by simp [hi], x1, x2, x3, x4⟩
    have ain1 : ∀ a, some a ∈ A → a ∈ W' := fun a ha => s2 a (E1.ain a ha) (E.ain a ha)
    have Ec : EnR X.K H1 W' Ac (args.map some) (vs.map some) := by
      refine ⟨by simp [l1, l2], by simp [l1, l3], fun i x h => ?_, fun i s h hs => ?_, fun i a h => ?_, fun i j a h1 h2 => ?_, fun p hp => E1.trk p (s1 p hp)⟩
      · rw [List.getElem?_map] at h
        obtain ⟨s0, h, e0⟩ := Option.map_eq_some_iff.mp h
        cases e0
        obtain ⟨rv, v, s, oa, x0, x1, x2, x3, x4⟩ := at_ i (by rw [← l1]; exact (List.getElem?_eq_some_iff.mp h).1)
        rw [h] at x2; cases x2
        cases x4 with
        | d _ _ d => exact ⟨x3, v, by rw [List.getElem?_map, x1]; rfl, d⟩
        | io _ _ hd _ _ => cases hd
        | mv _ _ hd _ _ _ => cases hd
      · rw [List.getElem?_map] at h
        obtain ⟨s0, h, e0⟩ := Option.map_eq_some_iff.mp h
        cases e0
        obtain ⟨rv, v, s', oa, x0, x1, x2, x3, x4⟩ := at_ i (by rw [← l1]; exact (List.getElem?_eq_some_iff.mp h).1)
        rw [h] at x2; cases x2
        cases x4 with
        | d _ _ d => cases hs
        | io _ _ hd _ ow => exact ⟨_, x3, by rw [List.getElem?_map, x1]; rfl, ow⟩
        | mv _ _ hd _ _ ow => exact ⟨_, x3, by rw [List.getElem?_map, x1]; rfl, ow⟩
      · obtain ⟨rv, v, s, oa, x0, x1, x2, x3, x4⟩ := at_ i (by rw [← l3]; exact (List.getElem?_eq_some_iff.mp h).1)
        rw [h] at x3; cases x3
        cases x4 with
        | io _ _ hd hA _ => exact ⟨ain1 a (List.mem_of_getElem? hA), s, by rw [List.getElem?_map, x2]; rfl, hd⟩
        | mv _ _ hd hp _ _ => exact ⟨hp, s, by rw [List.getElem?_map, x2]; rfl, hd⟩
      · obtain ⟨rv, v, s, oa, x0, x1, x2, x3, x4⟩ := at_ i (by rw [← l3]; exact (List.getElem?_eq_some_iff.mp h1).1)
        obtain ⟨rv', v', s', oa', y0, y1, y2, y3, y4⟩ := at_ j (by rw [← l3]; exact (List.getElem?_eq_some_iff.mp h2).1)
        have h1' := h1
        have h2' := h2
        rw [h1] at x3; cases x3
        rw [h2] at y3; cases y3
        cases x4 with
        | io hi _ _ hA _ =>
          cases y4 with
          | io hj _ _ _ _ => exact one i j hi hj
          | mv _ _ _ _ hn _ => exact absurd (E.ain a (List.mem_of_getElem? hA)) hn
        | mv hi1 hi2 _ _ hn _ =>
          cases y4 with
          | io hj _ _ hA _ => exact absurd (E.ain a (List.mem_of_getElem? hA)) hn
          | mv hj1 hj2 _ _ _ _ => exact hI i j a (by rw [Nat.zero_add]; exact hi2) (by rw [Nat.zero_add]; exact hj2) (by rw [Nat.zero_add]; exact hi1) (by rw [Nat.zero_add]; exact hj1) h1' h2'
    have hAc : ∀ (i : Nat) (a : Addr), Ac[i]? = some (some a) → (i ∈ N.1 ∧ some a ∈ A) ∨ (i ∈ N.2 ∧ a ∉ W) := fun i a h => by
      obtain ⟨rv, v, s, oa, x0, x1, x2, x3, x4⟩ := at_ i (by rw [← l3]; exact (List.getElem?_eq_some_iff.mp h).1)
      rw [h] at x3; cases x3
      cases x4 with
      | io hi _ _ hA _ => exact .inl ⟨hi, List.mem_of_getElem? hA⟩
      | mv _ hi _ _ hn _ => exact .inr ⟨hi, hn⟩
    have E' := E1.sub s1 ain1
    have S' := S1.sub s1 s2
    refine ⟨W', Ac, args, _, hln, by rw [List.append_nil]; exact Ec, fun i a h => (hAc i a h).imp (·.1) (·.1), q2, fun s os q v H2 W2 bk rt => ?_⟩
    -- behind the call
    have S2 : Stp A H W H2 W2 := by
      refine ⟨fun b o h n => bk.old b o (S'.ext b o h n) fun z => ?_, fun b h => bk.there b (S'.there b h), fun p h => bk.up p (S'.up p h), fun p h => ?_⟩
      · obtain ⟨i, hi⟩ := List.mem_iff_getElem?.mp z
        rcases hAc i b hi with ⟨_, c⟩ | ⟨c1, c2⟩
        · exact n c
        · obtain ⟨rv, v, s, oa, x0, x1, x2, x3, x4⟩ := at_ i (by rw [← l3]; exact (List.getElem?_eq_some_iff.mp hi).1)
          rw [hi] at x3; cases x3
          cases x4 with
          | io _ _ _ hA _ => exact n (List.mem_of_getElem? hA)
          | mv _ _ _ hp hn _ =>
            rcases S'.fr b hp with z | z
            · exact hn z
            · rw [z.1] at h; cases h
      · rcases bk.fr p h with z | z
        · rcases S'.fr p z with y | y
          · exact .inl y
          · exact .inr ⟨y.1, bk.there p y.2⟩
        · exact .inr ⟨S'.back z.1, z.2⟩
    have sm : Same (HW H1 W') (HW H2 W2) := fun b o e => by
      obtain ⟨n, e⟩ := hw_some e
      refine hw_of (fun z => ?_) (bk.old b o e fun z => ?_)
      · rcases bk.fr b z with y | y
        · exact n y
        · rw [y.1] at e; cases e
      · obtain ⟨i, hi⟩ := List.mem_iff_getElem?.mp z
        exact n (Ec.back i b hi).1
    have E2 : EnR X.K H2 W2 A (outE N rvs os env1) σ := by
      have base : (∀ a, some a ∈ A → some a ∉ Ac → H2 a = H1 a) := fun a ha hn => by
        obtain ⟨i, hi⟩ := List.mem_iff_getElem?.mp ha
        obtain ⟨_, s, hs, hd⟩ := E1.back i a hi
        obtain ⟨a', h1, _, ow⟩ := E1.own i s hs hd
        rw [hi] at h1; cases h1
        obtain ⟨o, e⟩ := ow.ex
        rw [e]; exact bk.old a o e hn
      have trk2 : ∀ p, p ∈ W2 → H2 p ≠ none := fun p hp => (bk.fr p hp).elim (fun z => bk.there p (E'.trk p z)) (·.2)
      -- all names but the one that was lent
      have lent : ∀ (j : Nat), (∀ i a, i ∈ N.1 → Ac[i]? = some (some a) → A[j]? ≠ some (some a)) → ∀ (s : Sl), env1[j]? = some (some s) → s.isD = false → ∃ a : Addr, A[j]? = some (some a) ∧ σ[j]? = some (some (.ref a)) ∧ OwR X.K H2 W2 a s := fun j hj s hs hd => by
        obtain ⟨a, x1, x2, x3⟩ := E'.own j s hs hd
        refine ⟨a, x1, x2, x3.mono sm (base a (List.mem_of_getElem? x1) fun z => ?_)⟩
        obtain ⟨i, hi⟩ := List.mem_iff_getElem?.mp z
        rcases hAc i a hi with ⟨c, _⟩ | ⟨_, c⟩
        · exact hj i a c hi x1
        · exact c (E.ain a (List.mem_of_getElem? x1))
      have plain : (∀ i a, i ∈ N.1 → Ac[i]? ≠ some (some a)) → EnR X.K H2 W2 A env1 σ := fun hno =>
        ⟨E1.len, E1.lenA, fun i x h => by
          obtain ⟨x1, v, x2, x3⟩ := E'.dat i x h
          exact ⟨x1, v, x2, dp_mono sm _ x3⟩, fun i s h hs => lent i (fun i' a hi ha => absurd ha (hno i' a hi)) s h hs, fun i a h => by
          obtain ⟨x1, x2⟩ := E'.back i a h
          exact ⟨bk.up a x1, x2⟩, E1.inj, trk2⟩
      cases eN : N.1 with
      | nil =>
        unfold outE
        rw [eN]
        exact plain fun i a hi => by rw [eN] at hi; cases hi
      | cons i0 r =>
        cases r with
        | cons b r => rw [eN] at hN; simp at hN
        | nil =>
          unfold outE
          rw [eN]
          dsimp only
          have hi0 : i0 ∈ N.1 := by rw [eN]; simp
          have only : ∀ i, i ∈ N.1 → i = i0 := fun i hi => one i i0 hi hi0
          cases er : rvs[i0]? with
          | none =>
            exact plain fun i a hi h => by
              rw [only i hi] at h
              have := (List.getElem?_eq_some_iff.mp h).1
              rw [l3] at this
              rw [List.getElem?_eq_none_iff] at er
              omega
          | some rv =>
            obtain ⟨rv', v', s', oa', y0, y1, y2, y3, y4⟩ := at_ i0 (List.getElem?_eq_some_iff.mp er).1
            rw [er] at y0; cases y0
            cases y4 with
            | d c _ _ => exact absurd hi0 c
            | mv c _ _ _ _ _ => exact absurd hi0 c
            | @io j s' a c hs' hd' hA' ow' =>
              obtain ⟨sn, e1, e2, e3⟩ := bk.io i0 hi0 a y3
              rw [e1]
              have hj : j < env1.length := (List.getElem?_eq_some_iff.mp hs').1
              obtain ⟨_, _, vj, _⟩ := E1.own j s' hs' hd'
              refine ⟨by simp [E1.len], by simp [E1.lenA], fun i x h => ?_, fun i s h hs => ?_, fun i b h => ?_, E1.inj, trk2⟩
              · rw [set_get] at h
                by_cases cc : j = i
                · subst cc
                  rw [if_pos rfl, if_pos hj] at h
                  cases h
                  cases e2
                · rw [if_neg cc] at h
                  obtain ⟨x1, v, x2, x3⟩ := E'.dat i x h
                  exact ⟨x1, v, x2, dp_mono sm _ x3⟩
              · rw [set_get] at h
                by_cases cc : j = i
                · subst cc
                  rw [if_pos rfl, if_pos hj] at h
                  cases h
                  obtain ⟨a', z1, z2, _⟩ := E1.own j s' hs' hd'
                  rw [hA'] at z1; cases z1
                  exact ⟨a, hA', z2, e3⟩
                · rw [if_neg cc] at h
                  refine lent i (fun i' b hi hb hz => ?_) s h hs
                  rw [only i' hi, y3] at hb
                  cases hb
                  exact cc (E1.inj j i a hA' hz)
              · obtain ⟨x1, z, x2, x3⟩ := E'.back i b h
                refine ⟨bk.up b x1, ?_⟩
                rw [set_get]
                by_cases cc : j = i
                · subst cc
                  rw [if_pos rfl, if_pos hj]
                  exact ⟨sn, rfl, e2⟩
                · rw [if_neg cc]
                  exact ⟨z, x2, x3⟩
    refine kk v H2 W2 _ (rvOf s) E2 S2 ?_ q
    cases s with
    | d y => exact rt
    | l _ => obtain ⟨p, e1, e2, e3, e4⟩ := rt; exact ⟨p, e1, S'.back e2, e3, fun z => E.trk p z (S'.back e2), e4⟩
    | m _ => obtain ⟨p, e1, e2, e3, e4⟩ := rt; exact ⟨p, e1, S'.back e2, e3, fun z => E.trk p z (S'.back e2), e4⟩
    | t _ => obtain ⟨p, e1, e2, e3, e4⟩ := rt; exact ⟨p, e1, S'.back e2, e3, fun z => E.trk p z (S'.back e2), e4⟩
  · exact q2.elim
theorem pd_call (F : FnOk X.prog X.w X.K X.mg X.base CX0 k f fd ps (spD X.K N n g)) (hr : Room k X.A) (hg : Gl X x) (hm : X.mg x = some (.ref f)) (hk : PySem.W.keepIn X.K (.ref f) = true) (hb : Binds X.K fd ps [])
    (ha : PDA X (e :: es) ta) (hN : N.1.length ≤ 1 := by decide) (hdb : (x == ("__debug__" : Str)) = false := by decide) (he : starEach (e :: es) X.env = (false, eval e X.env) :: starEach es X.env := by rfl) (hpl : (backTo pos (starEach es X.env)).any (·.1) = false := by rfl) :
    PD X (.Call (.Name x p) (e :: es) [] pos) (tdCall N n g ta) := pd_callP (E0 := fun _ _ _ => False) (fun _ p1 => pe_call F hr hg hm hk hb .nil pass0 p1 hdb he hpl) ha hN
end
end DL

set_option Elab.async false
set_option linter.all false
set_option maxRecDepth 100000
set_option maxHeartbeats 4000000
set_option autoImplicit false
namespace DL
open PySem PySem.Spec L2

/-! ### one reading for a family of contexts -/
def upE (K : PySem.W.Frag) (t : TD) : TE := fun σ H Q => ∃ (W : List Addr) (A : List (Option Addr)) (env : En) (Qd : Rv → En → Prop), EnR K H W A env σ ∧ t env Qd ∧ ∀ v H' W' env' rv, EnR K H' W' A env' σ → Stp A H W H' W' → RvR K H W H' W' A rv v → Qd rv env' → Q v H'
def upT (K : PySem.W.Frag) (t : TDT) : TT := fun σ H Q => ∃ (W : List Addr) (A : List (Option Addr)) (env : En) (Qd : Bool → En → Prop), EnR K H W A env σ ∧ t env Qd ∧ ∀ b H' W' env', EnR K H' W' A env' σ → Stp A H W H' W' → Qd b env' → Q b H'
theorem PD.up {X : Cx} {e : Expr} {t : TD} (h : PD X e t) : PE X e (upE X.K t) := by
  obtain ⟨t1, p1, q1⟩ := h
  exact ⟨fun pins s σ H Q I ⟨W, A, env, Qd, E, ht, k⟩ => p1.run pins s σ H Q I (q1 σ H W A env Q Qd E ht k)⟩
def PDTs (X : Cx) (ifs : List Expr) (t : TDT) : Prop := PTs X ifs (upT X.K t)
def tdYes : TDT := fun env Q => Q true env
theorem pdts_nil {X : Cx} : PDTs X [] tdYes := ⟨fun pins s σ H Q I ⟨W, A, env, Qd, E, ht, k⟩ => pts_nil.run pins s σ H Q I (k true H W env E .refl ht)⟩
theorem pdts_one {X : Cx} {c : Expr} {t : TDT} (h : PDT X c t) : PDTs X [c] t := by
  obtain ⟨t1, p1, q1⟩ := h
  exact ⟨fun pins s σ H Q I ⟨W, A, env, Qd, E, ht, k⟩ => (pts_one p1).run pins s σ H Q I (q1 σ H W A env Q Qd E ht k)⟩

/-! ### the target of a comprehension -/
abbrev TDC := PyData → En → (En → Prop) → Prop
abbrev TDCs := List PyData → En → (En → Prop) → Prop
def upG (K : PySem.W.Frag) (T : List Nat) (t : TDC) : TG := fun v σ H Q => ∃ (W : List Addr) (A : List (Option Addr)) (env : En) (x : PyData) (Qd : En → Prop), EnR K H W A env σ ∧ Dp K (HW H W) v x ∧ t x env Qd ∧
  ∀ σ' env', EnR K H W A env' σ' → (∀ vs : List Nat, (∀ i, i ∈ T → i ∈ vs) → wipe σ' vs = wipe σ vs) → Qd env' → Q σ' H
def upGs (K : PySem.W.Frag) (T : List Nat) (t : TDCs) : TGs := fun vs σ H Q => ∃ (W : List Addr) (A : List (Option Addr)) (env : En) (xs : List PyData) (Qd : En → Prop), EnR K H W A env σ ∧ DpAll K (HW H W) vs xs ∧ t xs env Qd ∧
  ∀ σ' env', EnR K H W A env' σ' → (∀ vs : List Nat, (∀ i, i ∈ T → i ∈ vs) → wipe σ' vs = wipe σ vs) → Qd env' → Q σ' H
def PDC (X : Cx) (T : List Nat) (tg : Expr) (t : TDC) : Prop := PG X tg (upG X.K T t)
def PDCs (X : Cx) (T : List Nat) (tgs : List Expr) (t : TDCs) : Prop := PGs X tgs (upGs X.K T t)
def gcName (i : Nat) : TDC := fun x env Q => env[i]? = some none ∧ Q (env.set i (some (.d x)))
def gcNil : TDCs := fun xs env Q => match xs with
  | [] => Q env
  | _ => False
def gcCons (t : TDC) (u : TDCs) : TDCs := fun xs env Q => match xs with
  | x :: r => t x env fun env1 => u r env1 Q
  | [] => False
def gcTup (n : Nat) (t : TDCs) : TDC := fun x env Q => match x with
  | .tuple xs => xs.length = n ∧ t xs env Q
  | _ => False
theorem wipe_get (σ : L2.St) : ∀ (vs : List Nat) (j : Nat), (wipe σ vs)[j]? = if j ∈ vs ∧ j < σ.length then some none else σ[j]?
  | [], j => by simp [wipe]
  | v :: vs, j => by
    show ((wipe σ vs).set v none)[j]? = _
    rw [set_get, wipe_get σ vs j, wipe_length]
    by_cases c : v = j
    · subst c
      by_cases d : v < σ.length
      · simp [d]
      · simp [d]
    · have : j ≠ v := fun e => c e.symm
      simp [c, this]
theorem wipe_eq {σ σ' : L2.St} {vs : List Nat} (h : ∀ j, j ∉ vs → σ'[j]? = σ[j]?) (hl : σ'.length = σ.length) : wipe σ' vs = wipe σ vs := by
  refine List.ext_getElem? fun j => ?_
  rw [wipe_get, wipe_get, hl]
  by_cases c : j ∈ vs ∧ j < σ.length
  · rw [if_pos c, if_pos c]
  · rw [if_neg c, if_neg c]
    by_cases d : j ∈ vs
    · have : ¬ j < σ.length := fun z => c ⟨d, z⟩
      rw [List.getElem?_eq_none (by omega), List.getElem?_eq_none (by omega)]
    · exact h j d
section
variable {K : PySem.W.Frag} {H H' : Hp} {W W' : List Addr} {A : List (Option Addr)} {env env' : En} {σ σ' : L2.St} {vs : List Nat}
theorem EnR.noneA (E : EnR K H W A env σ) {i : Nat} (h : env[i]? = some none) : A.set i none = A := by
  refine List.ext_getElem? fun j => ?_
  rw [set_get]
  by_cases c : i = j
  · subst c
    have hi : i < A.length := by rw [E.lenA]; exact (List.getElem?_eq_some_iff.mp h).1
    rw [if_pos rfl, if_pos hi, List.getElem?_eq_getElem hi]
    cases e : A[i] with
    | none => rfl
    | some a =>
      obtain ⟨_, s, hs, _⟩ := E.back i a (by rw [List.getElem?_eq_getElem hi, e])
      rw [h] at hs; cases hs
  · rw [if_neg c]
end
section
variable {X : Cx} {T T1 T2 : List Nat} {tg e : Expr} {es : List Expr} {t : TDC} {u : TDCs} {pos : Pos}
theorem pdc_name {i : Nat} {x : Str} (h : PG X (.Name x pos) (gName i)) : PDC X [i] (.Name x pos) (gcName i) := by
  refine ⟨fun pins s σ H v w Q I r ⟨W, A, env, y, Qd, E, d, ⟨h1, h2⟩, k⟩ => h.run pins s σ H v w Q I r ?_⟩
  have hi : i < env.length := (List.getElem?_eq_some_iff.mp h1).1
  have E2 := E.setD hi d
  rw [E.noneA h1] at E2
  refine k _ _ E2 (fun vs hv => wipe_eq (fun j hj => ?_) (by simp)) h2
  rw [set_get, if_neg fun c => hj (by rw [← c]; exact hv i (by simp))]
theorem pdcs_nil : PDCs X [] [] gcNil := by
  refine ⟨fun pins s σ H vs us Q I r ⟨W, A, env, xs, Qd, E, d, ht, k⟩ => pgs_nil.run pins s σ H vs us Q I r ?_⟩
  cases d with
  | nil => exact ⟨rfl, k σ env E (fun _ _ => rfl) ht⟩
  | cons _ _ => exact ht.elim
theorem pdcs_cons (h1 : PDC X T1 e t) (h2 : PDCs X T2 es u) (hs : (assignEach (e :: es) X.env).map (·.2) = assign e X.env :: (assignEach es X.env).map (·.2) := by rfl) : PDCs X (T1 ++ T2) (e :: es) (gcCons t u) := by
  refine ⟨fun pins s σ H vs us Q I r ⟨W, A, env, xs, Qd, E, d, ht, k⟩ => (pgs_cons h1 h2 hs).run pins s σ H vs us Q I r ?_⟩
  cases d with
  | nil => exact ht.elim
  | cons d1 d2 =>
    refine ⟨_, _, rfl, W, A, env, _, _, E, d1, ht, fun σ1 env1 E1 w1 h3 => ⟨W, A, env1, _, _, E1, d2, h3, fun σ2 env2 E2 w2 h4 => k σ2 env2 E2 (fun vs hv => ?_) h4⟩⟩
    rw [w2 vs fun i hi => hv i (List.mem_append_right _ hi), w1 vs fun i hi => hv i (List.mem_append_left _ hi)]
theorem pdc_tup {k n : Nat} (hc : X.calm = true) (h : PDCs X T es u) (hn : (assignEach es X.env).length = n := by rfl) (hst : (assignEach es X.env).findIdx? (·.1) = none := by rfl) : PDC X T (.Tuple es k pos) (gcTup n u) := by
  refine ⟨fun pins s σ H v w Q I r ⟨W, A, env, x, Qd, E, d, ht, k⟩ => (pg_tup hc h hn hst).run pins s σ H v w Q I r ?_⟩
  cases x with
  | tuple xs =>
    cases d with
    | tup sq dl => exact ⟨_, _, rfl, same_t hw_same sq, dl.len.trans ht.1, W, A, env, xs, Qd, E, dl, ht.2, k⟩
  | _ => exact ht.elim
end

/-! ### comprehensions -/
def wipeE (env : En) : List Nat → En
  | [] => env
  | v :: vs => (wipeE env vs).set v none
def mergeE (env env' : En) : List Nat → En
  | [] => env'
  | v :: vs => (mergeE env env' vs).set v (match env[v]? with
    | some s => s
    | none => none)
def noOwn (env : En) : List Nat → Prop
  | [] => True
  | v :: vs => (match env[v]? with
    | some (some s) => s.isD = true
    | _ => True) ∧ noOwn env vs
theorem noOwn_at {env : En} {v : Nat} {s : Sl} (e : env[v]? = some (some s)) : ∀ (vs : List Nat), noOwn env vs → v ∈ vs → s.isD = true := by
  intro vs
  induction vs with
  | nil => intro _ h; exact absurd h (by simp)
  | cons w r ih =>
    intro h hv
    by_cases c : v = w
    · subst c
      have h1 := h.1
      simp only [e] at h1
      exact h1
    · exact ih h.2 ((List.mem_cons.mp hv).resolve_left c)
theorem wipeE_get (env : En) : ∀ (vs : List Nat) (j : Nat), (wipeE env vs)[j]? = if j ∈ vs ∧ j < env.length then some none else env[j]?
  | [], j => by simp [wipeE]
  | v :: vs, j => by
    have hl : ∀ vs : List Nat, (wipeE env vs).length = env.length := fun vs => by
      induction vs with
      | nil => rfl
      | cons a r ih => show ((wipeE env r).set a none).length = _; rw [List.length_set, ih]
    show ((wipeE env vs).set v none)[j]? = _
    rw [set_get, wipeE_get env vs j, hl]
    by_cases c : v = j
    · subst c
      by_cases d : v < env.length
      · simp [d]
      · simp [d]
    · have : j ≠ v := fun e => c e.symm
      simp [c, this]
theorem wipeE_len (env : En) : ∀ vs : List Nat, (wipeE env vs).length = env.length
  | [] => rfl
  | v :: vs => by show ((wipeE env vs).set v none).length = _; rw [List.length_set, wipeE_len env vs]
theorem mergeE_len (env env' : En) : ∀ vs : List Nat, (mergeE env env' vs).length = env'.length
  | [] => rfl
  | v :: vs => by unfold mergeE; rw [List.length_set, mergeE_len env env' vs]
theorem mergeE_get (env env' : En) (hl : env'.length = env.length) : ∀ (vs : List Nat) (j : Nat), (mergeE env env' vs)[j]? = if j ∈ vs then env[j]? else env'[j]?
  | [], j => by simp [mergeE]
  | v :: vs, j => by
    unfold mergeE
    rw [set_get, mergeE_get env env' hl vs j, mergeE_len]
    by_cases c : v = j
    · subst c
      simp only [if_true, List.mem_cons, true_or]
      by_cases d : v < env'.length
      · rw [if_pos d, List.getElem?_eq_getElem (show v < env.length by omega)]
      · rw [if_neg d, List.getElem?_eq_none (by omega)]
    · have : j ≠ v := fun e => c e.symm
      simp [c, this]
section
variable {K : PySem.W.Frag} {H H' : Hp} {W W' : List Addr} {A : List (Option Addr)} {env env' : En} {σ σ' : L2.St} {vs : List Nat}
theorem EnR.notA (E : EnR K H W A env σ) (hn : noOwn env vs) {i : Nat} {a : Addr} (hi : i ∈ vs) : A[i]? ≠ some (some a) := fun e => by
  obtain ⟨_, s, hs, hd⟩ := E.back i a e
  rw [noOwn_at hs vs hn hi] at hd; cases hd
theorem EnR.wipe (E : EnR K H W A env σ) (hn : noOwn env vs) : EnR K H W A (wipeE env vs) (L2.wipe σ vs) := by
  refine ⟨by rw [wipeE_len, wipe_length]; exact E.len, by rw [wipeE_len]; exact E.lenA, fun i x h => ?_, fun i s h hs => ?_, fun i a h => ?_, E.inj, E.trk⟩
  · rw [wipeE_get] at h
    split at h
    · cases h
    · rename_i c
      obtain ⟨x1, v, x2, x3⟩ := E.dat i x h
      refine ⟨x1, v, ?_, x3⟩
      rw [wipe_get, E.len, if_neg c]
      exact x2
  · rw [wipeE_get] at h
    split at h
    · cases h
    · rename_i c
      obtain ⟨a, x1, x2, x3⟩ := E.own i s h hs
      refine ⟨a, x1, ?_, x3⟩
      rw [wipe_get, E.len, if_neg c]
      exact x2
  · obtain ⟨x1, s, x2, x3⟩ := E.back i a h
    refine ⟨x1, s, ?_, x3⟩
    rw [wipeE_get, if_neg fun c => E.notA hn c.1 h]
    exact x2
theorem EnR.merge (E : EnR K H W A env σ) (E' : EnR K H' W' A env' σ') (S : Stp A H W H' W') (hw : L2.wipe σ' vs = L2.wipe σ vs) (hn : noOwn env vs) : EnR K H' W' A (mergeE env env' vs) σ := by
  have hl : env'.length = env.length := by rw [← E'.lenA, ← E.lenA]
  have hσ : ∀ j, j ∉ vs → σ'[j]? = σ[j]? := fun j hj => by
    have := congrArg (fun l => l[j]?) hw
    simp only [wipe_get, hj, false_and, if_false] at this
    exact this
  refine ⟨by rw [mergeE_len, hl]; exact E.len, by rw [mergeE_len]; exact E'.lenA, fun i x h => ?_, fun i s h hs => ?_, fun i a h => ?_, E.inj, E'.trk⟩
  · rw [mergeE_get env env' hl] at h
    split at h
    · obtain ⟨x1, v, x2, x3⟩ := E.dat i x h
      exact ⟨x1, v, x2, S.dp E.ain x3⟩
    · rename_i c
      obtain ⟨x1, v, x2, x3⟩ := E'.dat i x h
      exact ⟨x1, v, by rw [← hσ i c]; exact x2, x3⟩
  · rw [mergeE_get env env' hl] at h
    split at h
    · rename_i c
      rw [noOwn_at h vs hn c] at hs; cases hs
    · rename_i c
      obtain ⟨a, x1, x2, x3⟩ := E'.own i s h hs
      exact ⟨a, x1, by rw [← hσ i c]; exact x2, x3⟩
  · obtain ⟨x1, s, x2, x3⟩ := E'.back i a h
    refine ⟨x1, s, ?_, x3⟩
    rw [mergeE_get env env' hl, if_neg fun c => E.notA hn c h]
    exact x2
end
theorem EnR.hid {K : PySem.W.Frag} {H : Hp} {W : List Addr} {A : List (Option Addr)} {env : En} {σ : L2.St} {D : Addr} {o : HO} (E : EnR K H W A env σ) (hD : D ∈ W) (hA : some D ∉ A) : EnR K (upd H D o) W A env σ := by
  refine ⟨E.len, E.lenA, fun i x h => ?_, fun i s h hs => ?_, E.back, E.inj, fun p hp => ?_⟩
  · obtain ⟨x1, v, x2, x3⟩ := E.dat i x h
    exact ⟨x1, v, x2, by rw [hw_upd hD]; exact x3⟩
  · obtain ⟨a, x1, x2, x3⟩ := E.own i s h hs
    exact ⟨a, x1, x2, x3.mono (by rw [hw_upd hD]; exact Same.refl _) (upd_ne fun z => hA (by rw [← z]; exact List.mem_of_getElem? x1))⟩
  · by_cases c : p = D
    · rw [c, upd_same]; simp
    · rw [upd_ne c]; exact E.trk p hp
/-- [elt for target in iter if ..] -/
def tdLc (ti : TDI) (g : TDC) (tt : TDT) (te : TD) (vs : List Nat) : TD := fun env Q => ti env fun xs env1 => ∃ Pv : Nat → List PyData → En → Prop, Pv 0 [] env1 ∧
  (∀ i x acc env, xs[i]? = some x → Pv i acc env → noOwn env vs ∧ g x (wipeE env vs) fun env2 => tt env2 fun b env3 => if b = true then te env3 fun rv env4 => (match rvD rv with
    | some y => acc.length < sizeLine ∧ Pv (i + 1) (acc ++ [y]) (mergeE env env4 vs)
    | none => False) else Pv (i + 1) acc (mergeE env env3 vs)) ∧
  ∀ acc env, Pv xs.length acc env → Q (.n (.l acc)) env
section
variable {X : Cx} {T : List Nat} {tg iter elt : Expr} {ifs : List Expr} {scope : Scope} {own : List (Str × Nat)} {pos spos : Pos} {ti : TDI} {g : TDC} {tt : TDT} {te : TD}
theorem lc_go {wi : TI} {σ : L2.St} {H : Hp} {W : List Addr} {A : List (Option Addr)} {env : En} {Q : VK} {Qd : Rv → En → Prop} {vs : List Nat} (hT : ∀ i, i ∈ T → i ∈ vs)
    (q1 : ∀ (σ : L2.St) (H : Hp) (W : List Addr) (A : List (Option Addr)) (env : En) (R : It → Hp → Prop) (Qd : List PyData → En → Prop), EnR X.K H W A env σ → ti env Qd → (∀ J H' W' env' xs, EnR X.K H' W' A env' σ → Stp A H W H' W' → Walk X.K J (HW H' W') xs → Qd xs env' → R J H') → wi σ H R)
    (E : EnR X.K H W A env σ) (ht : tdLc ti g tt te vs env Qd) (k : ∀ v H' W' env' rv, EnR X.K H' W' A env' σ → Stp A H W H' W' → RvR X.K H W H' W' A rv v → Qd rv env' → Q v H') :
    tLc wi (upG X.K T g) (upT X.K tt) (upE X.K te) vs σ H Q := by
  refine q1 σ H W A env _ _ E ht fun J H1 W1 env1 xs E1 S1 Wk h1 => ?_
  obtain ⟨Pv, h0, hs, hd⟩ := h1
  intro D hD
  have nDA : some D ∉ A := fun z => E1.trk D (E1.ain D z) hD
  have nDW : D ∉ W1 := fun z => E1.trk D z hD
  have g0 : Grow H1 W1 (upd H1 D (.lst [])) (D :: W1) := grow_own hD
  refine ⟨fun i m H2 => m = xs.length - i ∧ i ≤ xs.length ∧ ∃ W2 env2 acc accV, EnR X.K H2 W2 A env2 σ ∧ D ∈ W2 ∧ H2 D = some (.lst accV) ∧ DpAll X.K (HW H2 W2) accV acc ∧ Stp A H1 W1 H2 W2 ∧ Pv i acc env2,
    ⟨_, rfl, Nat.zero_le _, D :: W1, env1, [], [], g0.en E1, List.mem_cons_self, upd_same, .nil, g0.stp, h0⟩, ?_⟩
  rintro i m H2 ⟨rfl, hle, W2, env2, acc, accV, E2, hDW, hDl, dacc, S2, hP⟩
  obtain ⟨wg, ws⟩ := Wk H2 W2 (S2.same E1.ain) E2.trk i
  by_cases hlt : i < xs.length
  · obtain ⟨go, yl⟩ := wg xs[i] (by simp [hlt])
    refine .inr ⟨go, fun H' => ∃ W2 env2 acc accV, EnR X.K H' W2 A env2 σ ∧ D ∈ W2 ∧ H' D = some (.lst accV) ∧ DpAll X.K (HW H' W2) accV acc ∧ Stp A H1 W1 H' W2 ∧ Pv (i + 1) acc env2, fun H' q => ⟨xs.length - (i + 1), by omega, rfl, hlt, q⟩, fun v H3 y => ?_⟩
    obtain ⟨gr, dv⟩ := yl v H3 y
    obtain ⟨hno, hg⟩ := hs i xs[i] acc env2 (by simp [hlt]) hP
    have E3 := (gr.en E2)
    refine ⟨W2, A, wipeE env2 vs, xs[i], _, E3.wipe hno, dv, hg, fun σ4 env4 E4 w4 h4 => ?_⟩
    have hw4 : L2.wipe σ4 vs = L2.wipe σ vs := by
      rw [w4 vs hT]
      exact wipe_eq (fun j hj => by rw [wipe_get]; simp [hj]) (wipe_length _ _)
    refine ⟨hw4, W2, A, env4, _, E4, h4, fun b H5 W5 env5 E5 S5 h5 => ?_⟩
    have Sg : Stp A H2 W2 H5 W5 := gr.stp.trans S5
    have keepD : ∀ {H6 : Hp} {W6 : List Addr}, Stp A H2 W2 H6 W6 → H6 D = some (.lst accV) ∧ D ∈ W6 ∧ DpAll X.K (HW H6 W6) accV acc := fun {H6 W6} S => ⟨S.ext D _ hDl nDA, S.up D hDW, S.dpa E2.ain dacc⟩
    cases b with
    | false =>
      obtain ⟨k1, k2, k3⟩ := keepD Sg
      exact ⟨W5, _, acc, accV, E2.merge E5 Sg hw4 hno, k2, k1, k3, S2.trans Sg, h5⟩
    | true =>
      refine ⟨W5, A, env5, _, E5, h5, fun u H6 W6 env6 rv E6 S6 R6 h6 => ?_⟩
      split at h6
      · rename_i y ey
        have S26 := Sg.trans S6
        obtain ⟨W7, s1, s2, d⟩ := R6.keepD S6 ey
        obtain ⟨k1, k2, k3⟩ := keepD S26
        have hD7 : D ∈ W7 := s2 D k2 (Sg.up D hDW)
        have S7 : Stp A H2 W2 H6 W7 := S26.sub s1 fun q hq hq0 => s2 q hq (Sg.up q hq0)
        have E7 := E6.sub s1 fun a ha => s2 a (E6.ain a ha) (E5.ain a ha)
        have E8 := E2.merge E7 S7 hw4 hno
        refine ⟨accV, k1, by rw [k3.len]; exact h6.1, W7, _, acc ++ [y], accV ++ [u], ?_, hD7, upd_same, ?_, ?_, h6.2⟩
        · exact E8.hid hD7 nDA
        · rw [hw_upd hD7]
          exact (dpa_mono (sub_same s1) _ k3).app (.cons d .nil)
        · have S8 := S2.trans S7
          refine ⟨fun b o h n => ?_, fun b h => ?_, S8.up, fun p hp => ?_⟩
          · have c : b ≠ D := fun z => by rw [z, hD] at h; cases h
            rw [upd_ne c]
            exact S8.ext b o h n
          · by_cases c : b = D
            · rw [c, upd_same]; simp
            · rw [upd_ne c]; exact S8.there b h
          · rcases S8.fr p hp with z | z
            · exact .inl z
            · refine .inr ⟨z.1, ?_⟩
              by_cases c : p = D
              · rw [c, upd_same]; simp
              · rw [upd_ne c]; exact z.2
      · exact h6.elim
  · have e : i = xs.length := by omega
    subst e
    refine .inl ⟨ws (Nat.le_refl _), ?_⟩
    refine k (.ref D) H2 W2 env2 (.n (.l acc)) E2 (S1.trans S2) ⟨D, rfl, S1.back hD, hDW, fun z => nDW (S1.up D z), accV, hDl, dacc⟩ (hd acc env2 hP)
theorem pd_lc (hc : X.calm = true) (hN : X.N.Nodup) (hi : PDI X tg iter ti) (ok : BlkOk X.N X.env.scope scope own) (hT : ∀ i, i ∈ T → i ∈ own.map (·.2))
    (hg : ∀ (s : Shared) (H : Hp) (C : Addr) (cl : List (Str × Addr)) (fp : List Addr), PDC (X.blk s H scope (compEnvC scope cl C X.env) fp) T tg g) (ht : ∀ (s : Shared) (H : Hp) (C : Addr) (cl : List (Str × Addr)) (fp : List Addr), PDTs (X.blk s H scope (compEnvC scope cl C X.env) fp) ifs tt)
    (he : ∀ (s : Shared) (H : Hp) (C : Addr) (cl : List (Str × Addr)) (fp : List Addr), PD (X.blk s H scope (compEnvC scope cl C X.env) fp) elt te) (hs : ∀ x, foldedSetIterable iter X.env x = pure x := by intro _; rfl) :
    PD X (.ListComp elt [⟨tg, iter, ifs, 0⟩] scope pos) (tdLc ti g tt te (own.map (·.2))) := by
  obtain ⟨wi, p1, q1⟩ := hi
  exact ⟨_, pe_lc (g := upG X.K T g) (tt := upT X.K tt) (te := upE X.K te) hc hN p1 ok hg ht (fun s H C cl fp => (he s H C cl fp).up) hs, fun σ H W A env Q Qd E h k => lc_go hT q1 E h k⟩
/-- name = [..] on one line, the name a local -/
theorem psd_setLc {N : List Nat × List Nat} {keep : Bool} {i : Nat} {y : Str} {py : Pos} (hc : X.calm = true) (hN : X.N.Nodup) (hy : X.N[i]? = some y) (hyl : X.env.scope.names.lookup y = some .local)
    (hsw : swapsWith (.ListComp elt [⟨tg, iter, ifs, 0⟩] scope pos) (some (.Name y py)) spos.line X.env = pure true) (hi : PDI X tg iter ti) (ok : BlkOk X.N X.env.scope scope own) (hT : ∀ i, i ∈ T → i ∈ own.map (·.2))
    (hg : ∀ (s : Shared) (H : Hp) (C : Addr) (cl : List (Str × Addr)) (fp : List Addr), PDC (X.blk s H scope (compEnvC scope cl C X.env) fp) T tg g) (ht : ∀ (s : Shared) (H : Hp) (C : Addr) (cl : List (Str × Addr)) (fp : List Addr), PDTs (X.blk s H scope (compEnvC scope cl C X.env) fp) ifs tt)
    (he : ∀ (s : Shared) (H : Hp) (C : Addr) (cl : List (Str × Addr)) (fp : List Addr), PD (X.blk s H scope (compEnvC scope cl C X.env) fp) elt te) (hM : i ∉ N.1 := by decide) (hs : ∀ x, foldedSetIterable iter X.env x = pure x := by intro _; rfl) :
    PSD X N (.Assign [.Name y py] (.ListComp elt [⟨tg, iter, ifs, 0⟩] scope pos) spos) (if keep = true then tdSet i (tdLc ti g tt te (own.map (·.2))) else tdSetD i (tdLc ti g tt te (own.map (·.2)))) := by
  obtain ⟨wi, p1, q1⟩ := hi
  refine ⟨_, ps_setLc (g := upG X.K T g) (tt := upT X.K tt) (te := upE X.K te) hc hN hy hyl hsw p1 ok hg ht (fun s H C cl fp => (he s H C cl fp).up) hs, fun B D Dd σ H W A env hB R h O => ?_⟩
  have q2 : ∀ (σ : L2.St) (H : Hp) (W : List Addr) (A : List (Option Addr)) (env : En) (Q : VK) (Qd : Rv → En → Prop), EnR X.K H W A env σ → tdLc ti g tt te (own.map (·.2)) env Qd → (∀ v H' W' env' rv, EnR X.K H' W' A env' σ → Stp A H W H' W' → RvR X.K H W H' W' A rv v → Qd rv env' → Q v H') → tLc wi (upG X.K T g) (upT X.K tt) (upE X.K te) (own.map (·.2)) σ H Q :=
    fun σ H W A env Q Qd E h k => lc_go hT q1 E h k
  cases keep with
  | false => exact set_d q2 hM hB R h O
  | true =>
    have h : tdSet i (tdLc ti g tt te (own.map (·.2))) Dd env := h
    refine q2 σ H W A env _ _ R.en h fun v H1 W1 env1 rv E1 S1 R1 h1 => ?_
    have R' := R.step S1 E1
    cases rv with
    | d x => exact O.nx _ H1 W1 _ _ (R'.setD hB hM h1.1 R1) h1.2
    | n s =>
      obtain ⟨p, rfl, h2, h3, h4, h5⟩ := R1
      exact O.nx _ H1 W1 _ _ (R'.setO hB hM h1.1.1 h3 (fun z => h4 (R.en.ain p z)) (back0 R h2) h5 h1.1.2 fun q hq e => by rw [← e, (R.fz q hq).1] at h2; cases h2) h1.2
    | o j => exact h1.elim
end
end DL

set_option Elab.async false
set_option linter.all false
set_option maxRecDepth 100000
set_option maxHeartbeats 4000000
set_option autoImplicit false
namespace DL
open PySem PySem.Spec L2

/-! ### dicts whose keys are ints and texts -/
def valD (kvs : List (Key × PyData)) (k : Key) : Option PyData := (kvs.find? fun kv => decide (kv.1 = k)).map (·.2)
def putD (kvs : List (Key × PyData)) (k : Key) (v : PyData) : List (Key × PyData) :=
  if (kvs.any fun kv => decide (kv.1 = k)) = true then kvs.map (fun kv => if kv.1 = k then (kv.1, v) else kv) else kvs ++ [(k, v)]
def keyD : PyData → Option Key
  | .int i => some (.inl i)
  | .str s => some (.inr s)
  | _ => none
def keyOf : Key → PyData
  | .inl i => .int i
  | .inr s => .str s
section
variable {K : PySem.W.Frag} {H : Hp} {W : List Addr} {v : V} {x : PyData} {k : Key}
theorem keyD_v (h : keyD x = some k) (d : Dq K H W v x) : v = kV k := by
  cases x with
  | int i => cases h; exact d.int
  | str s => cases h; exact d.str
  | _ => cases h
theorem key_dp (k : Key) : Dp K H (kV k) (keyOf k) := by
  cases k with
  | inl i => exact .int i
  | inr s => exact .str s
abbrev DP (K : PySem.W.Frag) (H : Hp) : List (Key × V) → List (Key × PyData) → Prop := Paired fun p q => p.1 = q.1 ∧ Dp K H p.2 q.2
theorem dp_in : ∀ {ws : List (Key × V)} {kvs : List (Key × PyData)}, ws.map (·.1) = kvs.map (·.1) → DpAll K H (ws.map (·.2)) (kvs.map (·.2)) → DP K H ws kvs
  | [], [], _, _ => .nil
  | [], _ :: _, e, _ => by simp at e
  | _ :: _, [], e, _ => by simp at e
  | p :: ws, q :: kvs, e, d => by
    simp only [List.map_cons, List.cons.injEq] at e
    rw [List.map_cons, List.map_cons] at d
    cases d with
    | cons d1 d2 => exact .cons ⟨e.1, d1⟩ (dp_in e.2 d2)
theorem dp_out : ∀ {ws : List (Key × V)} {kvs : List (Key × PyData)}, DP K H ws kvs → ws.map (·.1) = kvs.map (·.1) ∧ DpAll K H (ws.map (·.2)) (kvs.map (·.2))
  | _, _, .nil => ⟨rfl, .nil⟩
  | _, _, .cons a b => by
    obtain ⟨h1, h2⟩ := dp_out b
    exact ⟨by simp [a.1, h1], .cons a.2 h2⟩
theorem dp_len {ws : List (Key × V)} {kvs : List (Key × PyData)} (h : DP K H ws kvs) : ws.length = kvs.length := Paired.length h
theorem dp_val (k : Key) {ws : List (Key × V)} {kvs : List (Key × PyData)} (h : DP K H ws kvs) : (valV ws k = none ∧ valD kvs k = none) ∨ ∃ v x, valV ws k = some v ∧ valD kvs k = some x ∧ Dp K H v x := by
  induction h with
  | nil => exact .inl ⟨rfl, rfl⟩
  | @cons p q ws kvs a b ih =>
    by_cases c : p.1 = k
    · refine .inr ⟨p.2, q.2, ?_, ?_, a.2⟩
      · simp [valV, List.find?_cons, c]
      · simp [valD, List.find?_cons, ← a.1, c]
    · have c' : ¬ q.1 = k := by rw [← a.1]; exact c
      have e1 : valV (p :: ws) k = valV ws k := by simp [valV, List.find?_cons, c]
      have e2 : valD (q :: kvs) k = valD kvs k := by simp [valD, List.find?_cons, c']
      rw [e1, e2]
      exact ih
theorem dp_any (k : Key) {ws : List (Key × V)} {kvs : List (Key × PyData)} (h : DP K H ws kvs) : (ws.any fun kv => decide (kv.1 = k)) = kvs.any fun kv => decide (kv.1 = k) := by
  induction h with
  | nil => rfl
  | cons a b ih => rw [List.any_cons, List.any_cons, ih, a.1]
theorem dp_map (k : Key) {v : V} {x : PyData} (d : Dp K H v x) {ws : List (Key × V)} {kvs : List (Key × PyData)} (h : DP K H ws kvs) : DP K H (ws.map fun kv => if kv.1 = k then (kv.1, v) else kv) (kvs.map fun kv => if kv.1 = k then (kv.1, x) else kv) := by
  induction h with
  | nil => exact .nil
  | @cons p q ws kvs a b ih =>
    rw [List.map_cons, List.map_cons]
    refine .cons ?_ ih
    by_cases c : p.1 = k
    · rw [if_pos c, if_pos (by rw [← a.1]; exact c)]
      exact ⟨a.1, d⟩
    · rw [if_neg c, if_neg (by rw [← a.1]; exact c)]
      exact a
theorem dp_snoc {p : Key × V} {q : Key × PyData} (hp : p.1 = q.1 ∧ Dp K H p.2 q.2) {ws : List (Key × V)} {kvs : List (Key × PyData)} (h : DP K H ws kvs) : DP K H (ws ++ [p]) (kvs ++ [q]) := by
  induction h with
  | nil => exact .cons hp .nil
  | cons a b ih => exact .cons a ih
theorem dp_put (k : Key) {v : V} {x : PyData} (d : Dp K H v x) {ws : List (Key × V)} {kvs : List (Key × PyData)} (h : DP K H ws kvs) : DP K H (putK ws k v) (putD kvs k x) := by
  unfold putK putD
  rw [dp_any k h]
  split
  · exact dp_map k d h
  · exact dp_snoc ⟨rfl, d⟩ h
theorem dp_get {i : Nat} {k : Key} {x : PyData} {ws : List (Key × V)} {kvs : List (Key × PyData)} (h : DP K H ws kvs) (e : kvs[i]? = some (k, x)) : ∃ v, ws[i]? = some (k, v) ∧ Dp K H v x := by
  induction h generalizing i with
  | nil => simp at e
  | @cons p q ws kvs a b ih =>
    cases i with
    | zero =>
      simp only [List.getElem?_cons_zero, Option.some.injEq] at e
      refine ⟨p.2, ?_, by rw [show x = q.2 by rw [e]]; exact a.2⟩
      simp only [List.getElem?_cons_zero, Option.some.injEq]
      rw [show k = p.1 by rw [a.1, e]]
    | succ i =>
      simp only [List.getElem?_cons_succ] at e ⊢
      exact ih e
end
/-- {} -/
def tdNew : TD := fun env Q => Q (.n (.m [])) env
/-- d.get(k, x), d a name of the def -/
def tdGet2 (i : Nat) (tk tx : TD) : TD := fun env Q => match env[i]? with
  | some (some (.m _)) => tk env fun rk env1 => tx env1 fun rx env2 => match env2[i]?, res env2 rk, rvD rx with
    | some (some (.m kvs)), some y, some z => match keyD y with
      | some k => Q (.d ((valD kvs k).getD z)) env2
      | none => False
    | _, _, _ => False
  | _ => False
/-- d[k] = e -/
def tdPut (i : Nat) (tk te : TD) : TDS := fun D env => te env fun rv env1 => match env1[i]? with
  | some (some (.m _)) => tk env1 fun rk env2 => match env2[i]?, res env2 rk, rvD rv with
    | some (some (.m kvs)), some y, some x => match keyD y with
      | some k => kvs.length < sizeLine ∧ D.nx (env2.set i (some (.m (putD kvs k x))))
      | none => False
    | _, _, _ => False
  | _ => False
section
variable {X : Cx} {o e f idx : Expr} {te tk tx : TD} {pos pos' apos cpos tpos : Pos} {i : Nat}
theorem EnR.dct {K : PySem.W.Frag} {H : Hp} {W : List Addr} {A : List (Option Addr)} {env : En} {σ : L2.St} {i : Nat} {kvs : List (Key × PyData)} (E : EnR K H W A env σ) (h : env[i]? = some (some (.m kvs))) :
    ∃ a ws, A[i]? = some (some a) ∧ a ∈ W ∧ σ[i]? = some (some (.ref a)) ∧ H a = some (.dK ws) ∧ DP K (HW H W) ws kvs := by
  obtain ⟨a, ha, hv, ws, h1, h2, h3⟩ := E.own i _ h rfl
  exact ⟨a, ws, ha, (E.back i a ha).1, hv, h1, dp_in h2 h3⟩
theorem pd_new : PD X (.Dict [] [] pos) tdNew := by
  refine ⟨_, pe_dnewK, fun σ H W A env Q Qd E ht k => ?_⟩
  intro p hp
  have g : Grow H W (upd H p (.dK [])) (p :: W) := grow_own hp
  exact k (.ref p) _ (p :: W) env (.n (.m [])) (g.en E) g.stp ⟨p, rfl, hp, List.mem_cons_self, fun z => E.trk p z hp, [], upd_same, rfl, .nil⟩ ht
theorem pd_get2 (hu : X.A.units + 1 < cLine) (ho : PE X o (tVar i)) (he : PD X e tk) (hf : PD X f tx) (m : M2 X o "get" apos e f cpos := by exact ⟨rfl, rfl, rfl, rfl⟩) : PD X (.Call (.Attribute o "get" apos) [e, f] [] cpos) (tdGet2 i tk tx) := by
  obtain ⟨t1, p1, q1⟩ := he
  obtain ⟨t2, p2, q2⟩ := hf
  refine ⟨_, pe_dget2 hu ho p1 p2 m, fun σ H W A env Q Qd E ht k => ?_⟩
  unfold tdGet2 at ht
  split at ht
  · rename_i kvs0 h0
    obtain ⟨a, ws0, ha, hw, hv, h3, h4⟩ := E.dct h0
    refine ⟨_, hv, a, rfl, .inl ⟨ws0, .inl h3⟩, ?_⟩
    refine q1 σ H W A env _ _ E ht fun y H1 W1 env1 rk E1 S1 R1 h1 => ?_
    refine q2 σ H1 W1 A env1 _ _ E1 h1 fun z H2 W2 env2 rx E2 S2 R2 h2 => ?_
    split at h2
    · rename_i kvs y' z' hd ey ez
      split at h2
      · rename_i key ek
        obtain ⟨W', s1, s2, d⟩ := R2.keepD S2 ez
        have E' := E2.sub s1 fun a ha => s2 a (E2.ain a ha) (E1.ain a ha)
        have S' := (S1.trans S2).sub s1 fun q hq hq0 => s2 q hq (S1.up q hq0)
        obtain ⟨a', ws, ha', hw', hv', h5, h6⟩ := E'.dct hd
        rw [ha] at ha'; cases ha'
        have hy := keyD_v ek (Dq.of_rv E2 (R1.step S2 E1.ain E.ain) ey)
        subst hy
        refine ⟨valV ws key, DGet.k h5, ?_⟩
        rcases dp_val key h6 with ⟨e1, e2⟩ | ⟨v, x, e1, e2, dv⟩
        · rw [e1]
          rw [e2] at h2
          exact k z H2 W' env2 (.d z') E' S' d h2
        · rw [e1]
          rw [e2] at h2
          exact k v H2 W' env2 (.d x) E' S' dv h2
      · exact h2.elim
    · exact h2.elim
  · exact ht.elim
theorem psd_put {N : List Nat × List Nat} (hu : X.A.units + 1 < cLine) (ho : PE X o (tVar i)) (hk : PD X idx tk) (he : PD X e te) (hs : swapsWith e (some (.Subscript o idx pos')) pos.line X.env = pure false := by rfl) : PSD X N (.Assign [.Subscript o idx pos'] e pos) (tdPut i tk te) := by
  obtain ⟨t1, p1, q1⟩ := he
  obtain ⟨t2, p2, q2⟩ := hk
  refine ⟨_, ps_dput hu ho p2 p1 hs, fun B D Dd σ H W A env hB R h O => ?_⟩
  refine q1 σ H W A env _ _ R.en h fun v H1 W1 env1 rv E1 S1 R1 h1 => ?_
  split at h1
  · rename_i kvs0 h0
    obtain ⟨a, ws0, ha, hw, hv, h3, h4⟩ := E1.dct h0
    refine ⟨_, hv, ?_⟩
    refine q2 σ H1 W1 A env1 _ _ E1 h1 fun y H2 W2 env2 rk E2 S2 R2 h2 => ?_
    split at h2
    · rename_i kvs y' x hd ey ex
      split at h2
      · rename_i key ek
        obtain ⟨W', s1, s2, d⟩ := (R1.step S2 E1.ain R.en.ain).keepD (S1.trans S2) ex
        have E' := E2.sub s1 fun a ha => s2 a (E2.ain a ha) (R.en.ain a ha)
        have R' := (R.step (S1.trans S2) E2).sub s1 (fun a ha => s2 a (E2.ain a ha) (R.en.ain a ha)) (fun q hq => s2 q ((S1.trans S2).up q (R.up q hq)) (R.up q hq)) fun q hq => s2 q.1 ((S1.trans S2).up _ (R.fz q hq).2.2) (R.fz q hq).2.2
        obtain ⟨a', ws, ha', hw', hv', h5, h6⟩ := E'.dct hd
        rw [ha] at ha'; cases ha'
        have hy := keyD_v ek (Dq.of_rv E2 R2 ey)
        subst hy
        refine ⟨a, _, rfl, DPut.k h5 (by rw [dp_len h6]; exact h2.1), ?_⟩
        have dp := dp_out (dp_put key d h6)
        have E3 : EnR X.K (upd H2 a (.dK (putK ws key v))) W' A (env2.set i (some (.m (putD kvs key x)))) σ := E'.write (s := .m (putD kvs key x)) ha rfl ⟨_, upd_same, dp.1, by rw [hw_upd hw']; exact dp.2⟩
        exact O.nx σ _ W' A _ (R'.step (stp_write (List.mem_of_getElem? ha)) E3) h2.2
      · exact h2.elim
    · exact h2.elim
  · exact h1.elim
/-- for k, v in d.items(), d a name of the def; behind it the name is told no more -/
def tdForItems (i : Nat) (g : TDG) (tb : TDS) : TDS := fun D env => match env[i]? with
  | some (some (.m kvs)) => ∃ Pv : Nat → En → Prop, Pv 0 (env.set i none) ∧ (∀ j x env, (kvs.map fun kv => PyData.tuple [keyOf kv.1, kv.2])[j]? = some x → Pv j env → g x env fun env2 => tb { D with nx := Pv (j + 1), ct := Pv (j + 1), bk := D.nx } env2) ∧ ∀ env, Pv kvs.length env → D.nx env
  | _ => False
theorem walk_items {K : PySem.W.Frag} {G : Hp} {d : Addr} {o : Obj} {ws : List (Key × V)} {kvs : List (Key × PyData)} (h : DP K G ws kvs) (H : Hp) (W : List Addr) (hd : H d = some (.frz o (.dK ws))) (e : Same G (HW H W)) (hw : ∀ p, p ∈ W → H p ≠ none) (i : Nat) :
    (∀ x, (kvs.map fun kv => PyData.tuple [keyOf kv.1, kv.2])[i]? = some x → (Iti d o ws).go i H ∧ ∀ v H', (Iti d o ws).yld i H v H' → Grow H W H' W ∧ Dp K (HW H' W) v x) ∧ (kvs.length ≤ i → (Iti d o ws).stop i H) := by
  have hl := dp_len h
  refine ⟨fun x hx => ?_, fun hle => ⟨hd, by omega⟩⟩
  rw [List.getElem?_map] at hx
  obtain ⟨kv, hkv, rfl⟩ := Option.map_eq_some_iff.mp hx
  obtain ⟨k, y⟩ := kv
  obtain ⟨v, hv, dv⟩ := dp_get h hkv
  refine ⟨⟨hd, by rw [hl]; exact (List.getElem?_eq_some_iff.mp hkv).1⟩, fun u H' q => ?_⟩
  obtain ⟨T, k', v', h1, rfl, hT, rfl⟩ := q
  rw [hv] at h1; cases h1
  have g : Grow H W (upd H T (.tup [kV k, v])) W := grow_new hT
  refine ⟨g, .tup (.inl (.inl (hw_of (fun z => hw T z hT) upd_same))) ?_⟩
  refine dpa_mono ((g.stp (A := [])).same fun _ z => absurd z (by simp)) _ (.cons (key_dp k) (.cons (dp_mono e _ dv) .nil))
theorem psd_forItems {N : List Nat × List Nat} {elts : List Expr} {kk : Nat} {g : TDG} {tb : TDS} {body : List Stmt} (hp : PassesOwn (model X.prog X.w) X.A X.env X.xe) (hc : X.calm = true) (ho : PE X o (tVar i)) (hg : PDG X N (.Tuple elts kk tpos) g) (hb : PSDs X N body tb) (hM : i ∉ N.1 := by decide)
    (hbase : attributeBase o "items" X.env (eval o X.env) = eval o X.env := by rfl) (hline : (apos.endLine == cpos.line) = true := by rfl) (hs : ∀ x, foldedSetIterable (.Call (.Attribute o "items" apos) [] [] cpos) X.env x = pure x := by intro _; rfl) :
    PSD X N (.For (.Tuple elts kk tpos) (.Call (.Attribute o "items" apos) [] [] cpos) body [] pos) (tdForItems i g tb) := by
  obtain ⟨g1, p2, q2⟩ := hg
  obtain ⟨b1, p3, q3⟩ := hb
  refine ⟨_, ps_lock (ps_for hp hc (pi_items ho hbase hline) p2 p3 hs), fun B D Dd σ H W A env hB R h O => ?_⟩
  unfold tdForItems at h
  split at h
  · rename_i kvs hkv
    obtain ⟨Pv, h0, hs, hd⟩ := h
    obtain ⟨a, ws, ha, hw, hv, h1, h2⟩ := R.en.dct hkv
    have hi : i < env.length := (List.getElem?_eq_some_iff.mp hkv).1
    refine ⟨a, .dK ws, h1, True.intro, fun od => ?_⟩
    -- in the loop the dict is nobody's
    have notA : some a ∉ A.set i none := fun z => by
      obtain ⟨j, hj⟩ := List.mem_iff_getElem?.mp z
      rw [set_get] at hj
      split at hj
      · split at hj <;> cases hj
      · rename_i c
        exact c (R.en.inj i j a ha hj)
    have E1 : EnR X.K (upd H a (.frz od (.dK ws))) W (A.set i none) (env.set i none) σ := by
      refine ⟨by simp [R.en.len], by simp [R.en.lenA], fun j x e => ?_, fun j s e hz => ?_, fun j b e => ?_, fun j k b e1 e2 => ?_, fun p hp => ?_⟩
      · rw [set_get] at e
        split at e
        · split at e <;> cases e
        · rename_i c
          obtain ⟨x1, v, x2, x3⟩ := R.en.dat j x e
          exact ⟨by rw [set_get, if_neg c]; exact x1, v, x2, by rw [hw_upd hw]; exact x3⟩
      · rw [set_get] at e
        split at e
        · split at e <;> cases e
        · rename_i c
          obtain ⟨b, x1, x2, x3⟩ := R.en.own j s e hz
          exact ⟨b, by rw [set_get, if_neg c]; exact x1, x2, x3.mono (by rw [hw_upd hw]; exact Same.refl _) (upd_ne fun z => c (R.en.inj i j a ha (by rw [← z]; exact x1)))⟩
      · rw [set_get] at e
        split at e
        · split at e <;> cases e
        · rename_i c
          obtain ⟨x1, s, x2, x3⟩ := R.en.back j b e
          exact ⟨x1, s, by rw [set_get, if_neg c]; exact x2, x3⟩
      · rw [set_get] at e1 e2
        split at e1
        · split at e1 <;> cases e1
        · split at e2
          · split at e2 <;> cases e2
          · exact R.en.inj j k b e1 e2
      · by_cases c : p = a
        · rw [c, upd_same]; simp
        · rw [upd_ne c]; exact R.en.trk p hp
    have R1 : StR X.K { B with G := HW H W, Fz := (a, .frz od (.dK ws)) :: B.Fz } (upd H a (.frz od (.dK ws))) W (A.set i none) (env.set i none) σ := by
      refine ⟨E1, fun b o e n m => ?_, fun b e => ?_, R.up, R.fr, fun b z => R.own b ((mem_set z).resolve_left (by simp)), fun j b e => ?_, fun j b e m => ?_, fun q hq => ?_, ?_⟩
      · have c : b ≠ a := fun z => by
          rcases R.own a (List.mem_of_getElem? ha) with (y | y) | y
          · exact n (by rw [z]; exact y)
          · exact m (by rw [z]; exact y)
          · rw [z, y] at e; cases e
        rw [upd_ne c]
        exact R.old b o e n m
      · by_cases c : b = a
        · rw [c, upd_same]; simp
        · rw [upd_ne c]; exact R.there b e
      · rw [set_get, if_neg fun c => hM (by rw [c]; exact hB.n j b e)]
        exact R.par j b e
      · rw [set_get] at e
        split at e
        · split at e <;> cases e
        · exact R.mvs j b e m
      · rcases List.mem_cons.mp hq with rfl | hq
        · exact ⟨upd_same, notA, hw⟩
        · obtain ⟨z1, z2, z3⟩ := R.fz q hq
          exact ⟨by rw [upd_ne fun z => z2 (by rw [z]; exact List.mem_of_getElem? ha)]; exact z1, fun z => z2 ((mem_set z).resolve_left (Option.some_ne_none _)), z3⟩
      · rw [hw_upd hw]; exact Same.refl _
    -- behind the loop: the dict as it was
    have dn : ∀ {σ' H' W' A' env'}, StR X.K { B with G := HW H W, Fz := (a, .frz od (.dK ws)) :: B.Fz } H' W' A' env' σ' → H' a = some (.frz od (.dK ws)) ∧ StR X.K B (upd H' a (.dK ws)) W' A' env' σ' ∧ a ∈ W' := fun {σ' H' W' A' env'} r => by
      obtain ⟨f1, f2, aW⟩ := r.fz (a, .frz od (.dK ws)) List.mem_cons_self
      refine ⟨f1, ⟨r.en.hid aW f2, fun b o e n m => ?_, fun b e => ?_, r.up, r.fr, r.own, r.par, r.mvs, fun q hq => ?_, ?_⟩, aW⟩
      · have c : b ≠ a := fun z => by
          rcases R.own a (List.mem_of_getElem? ha) with (y | y) | y
          · exact n (by rw [z]; exact y)
          · exact m (by rw [z]; exact y)
          · rw [z, y] at e; cases e
        rw [upd_ne c]
        exact r.old b o e n m
      · by_cases c : b = a
        · rw [c, upd_same]; simp
        · rw [upd_ne c]; exact r.there b e
      · obtain ⟨z1, z2, z3⟩ := r.fz q (List.mem_cons_of_mem _ hq)
        have c : q.1 ≠ a := fun z => by
          obtain ⟨y1, y2, _⟩ := R.fz q hq
          exact y2 (by rw [z]; exact List.mem_of_getElem? ha)
        exact ⟨by rw [upd_ne c]; exact z1, z2, z3⟩
      · rw [hw_upd aW]
        exact fun b o e => r.seen b o (R.seen b o e)
    have hB1 : OkN { B with G := HW H W, Fz := (a, .frz od (.dK ws)) :: B.Fz } N := ⟨hB.n, hB.m, hB.w, hB.v⟩
    refine ⟨.ref a, hv, a, od, ws, rfl, upd_same, ?_⟩
    refine ⟨fun j m σ H' => m = kvs.length - j ∧ j ≤ kvs.length ∧ ∃ W' A env, StR X.K { B with G := HW H W, Fz := (a, .frz od (.dK ws)) :: B.Fz } H' W' A env σ ∧ Pv j env, ?_, ?_⟩
    · exact ⟨_, rfl, Nat.zero_le _, W, A.set i none, env.set i none, R1, h0⟩
    · rintro j m σ2 H2 ⟨rfl, hle, W2, A2, env2, R2, hP⟩
      obtain ⟨fd, _, _⟩ := R2.fz (a, .frz od (.dK ws)) List.mem_cons_self
      obtain ⟨wg, wst⟩ := walk_items (G := HW H W) h2 H2 W2 fd R2.seen R2.en.trk j
      by_cases hlt : j < kvs.length
      · obtain ⟨y0, hy0⟩ : ∃ y0, (kvs.map fun kv => PyData.tuple [keyOf kv.1, kv.2])[j]? = some y0 := ⟨_, by rw [List.getElem?_map, List.getElem?_eq_getElem hlt]; rfl⟩
        obtain ⟨go, yl⟩ := wg y0 hy0
        refine .inr ⟨go, fun σ' H' => ∃ W' A env, StR X.K { B with G := HW H W, Fz := (a, .frz od (.dK ws)) :: B.Fz } H' W' A env σ' ∧ Pv (j + 1) env, fun σ' H' q => ⟨kvs.length - (j + 1), by omega, rfl, hlt, ?_⟩, fun v H3 y => ?_⟩
        · exact q
        · obtain ⟨gr, dv⟩ := yl v H3 y
          have R3 := R2.step gr.stp (gr.en R2.en)
          refine q2 _ v y0 σ2 H3 W2 A2 env2 _ _ hB1 R3 dv (hs j _ env2 hy0 hP) fun σ' A' env' R4 h4 => ?_
          refine q3 _ _ { Dd with nx := Pv (j + 1), ct := Pv (j + 1), bk := Dd.nx } σ' H3 W2 A' env' hB1 R4 h4 ⟨fun σ H W A env r q => ⟨W, A, env, r, q⟩, fun σ H W A env r q => ?_, fun σ H W A env r q => ⟨W, A, env, r, q⟩, fun σ H W A env v s r q q' => ?_⟩
          · obtain ⟨f1, r', _⟩ := dn r
            exact ⟨f1, O.nx σ _ W A env r' q⟩
          · obtain ⟨f1, r', aW⟩ := dn r
            refine ⟨f1, O.rt σ _ W A env v s r' ?_ q'⟩
            have ow : ∀ p, OwR X.K H W p s → OwR X.K (upd H a (.dK ws)) W p s := fun p h => by
              have c : p ≠ a := fun z => by
                rw [z] at h
                cases s with
                | d _ => exact h
                | l _ => obtain ⟨_, h, _⟩ := h; rw [f1] at h; cases h
                | m _ => obtain ⟨_, h, _⟩ := h; rw [f1] at h; cases h
                | t _ => obtain ⟨_, h, _⟩ := h; rw [f1] at h; cases h
              exact h.mono (by rw [hw_upd aW]; exact Same.refl _) (upd_ne c)
            cases s with
            | d y => show Dp X.K (HW (upd H a (.dK ws)) W) v y; rw [hw_upd aW]; exact q
            | l _ => obtain ⟨p, e1, e2, e3, e4⟩ := q; exact ⟨p, e1, e2, e3, ow p e4⟩
            | m _ => obtain ⟨p, e1, e2, e3, e4⟩ := q; exact ⟨p, e1, e2, e3, ow p e4⟩
            | t _ => obtain ⟨p, e1, e2, e3, e4⟩ := q; exact ⟨p, e1, e2, e3, ow p e4⟩
      · have ej : j = kvs.length := by omega
        subst ej
        obtain ⟨f1, r', _⟩ := dn R2
        exact .inl ⟨wst (Nat.le_refl _), f1, O.nx σ2 _ W2 A2 env2 r' (hd env2 hP)⟩
  · exact h.elim
end
end DL

set_option Elab.async false
set_option linter.all false
set_option maxRecDepth 100000
set_option maxHeartbeats 4000000
set_option autoImplicit false
namespace DL
open PySem PySem.Spec L2

/-! ### isinstance(x, T), T a built-in class -/
def tyN : PyData → Option String
  | .none => some "NoneType"
  | .bool _ => some "bool"
  | .int _ => some "int"
  | .str _ => some "str"
  | .list _ => some "list"
  | .tuple _ => some "tuple"
  | .dict _ => none
def isT (T : String) (x : PyData) : Bool := match x with
  | .bool _ => T == "bool" || T == "int"
  | .int _ => T == "int"
  | .str _ => T == "str"
  | .list _ => T == "list"
  | .tuple _ => T == "tuple"
  | _ => false
def IsTy (T : String) : Prop := ∀ (x : PyData) (n : String), tyN x = some n → L2.kitB n T = some (isT T x)
theorem isTy_tuple : IsTy "tuple" := fun x n h => by cases x <;> cases h <;> (simp only [isT]; decide +kernel)
theorem isTy_str : IsTy "str" := fun x n h => by cases x <;> cases h <;> (simp only [isT]; decide +kernel)
theorem isTy_int : IsTy "int" := fun x n h => by cases x <;> cases h <;> (simp only [isT]; decide +kernel)
theorem isTy_bool : IsTy "bool" := fun x n h => by cases x <;> cases h <;> (simp only [isT]; decide +kernel)
theorem isTy_list : IsTy "list" := fun x n h => by cases x <;> cases h <;> (simp only [isT]; decide +kernel)
def tdIsi (T : String) (t : TD) : TD := fun env Q => t env fun rv env1 => match res env1 rv with
  | some x => Q (.d (.bool (isT T x))) env1
  | none => False
theorem tyX_of {K : PySem.W.Frag} {H : Hp} {v : V} {x : PyData} (d : Dp K H v x) : ∃ n, tyN x = some n ∧ TyX K H v (.type n) := by
  cases d with
  | non => exact ⟨_, rfl, .base .non⟩
  | bl b => exact ⟨_, rfl, .base (.bl b)⟩
  | int i => exact ⟨_, rfl, .base (.int i)⟩
  | str s => exact ⟨_, rfl, .base (.str s)⟩
  | lst s _ =>
    refine ⟨_, rfl, ?_⟩
    rcases s with (s | ⟨o, s⟩) | ⟨o, its, n, h1, h2, _⟩
    · exact .base (.lst s)
    · exact .base (.frz s)
    · exact .kList h1 h2
  | tup s _ =>
    refine ⟨_, rfl, ?_⟩
    rcases s with (s | ⟨o, s⟩) | ⟨o, its, n, h1, h2, _⟩
    · exact .base (.tup s)
    · exact .fTuple s
    · exact .kTuple h1 h2
section
variable {X : Cx} {e o a : Expr} {te to_ : TD} {p pos q apos : Pos} {T Tn : Str}
theorem pd_isi {ty : String} (hT : IsTy ty) (hg : Gl X "isinstance") (hm : X.mg "isinstance" = none) (hg2 : Gl X Tn) (hm2 : X.mg Tn = none) (hv2 : bootBuiltins Tn = some (.type ty)) (he : PD X e te) (hn : Tn ≠ "__name__" := by decide) (hd : (Tn == ("__debug__" : Str)) = false := by decide)
    (h1 : starEach (e :: [.Name Tn q]) X.env = (false, eval e X.env) :: starEach [.Name Tn q] X.env := by rfl) (h2 : (backTo pos (starEach [.Name Tn q] X.env)).any (·.1) = false := by rfl) (h3 : starEach (.Name Tn q :: []) X.env = (false, eval (.Name Tn q) X.env) :: starEach [] X.env := by rfl) :
    PD X (.Call (.Name "isinstance" p) [e, .Name Tn q] [] pos) (tdIsi ty te) := by
  obtain ⟨t1, p1, q1⟩ := he
  refine ⟨_, pe_callB call_isi hg hm PyProof.Rows.boot_isinstance (pa_cons p1 (pa_cons (pe_bltn (v := .ty ty) hg2 hm2 hv2 rfl hn hd) pa_nil h3) h1) (by decide) (by decide) h1 h2, fun σ H W A env Q Qd E ht k => ?_⟩
  refine q1 σ H W A env _ _ E ht fun v H1 W1 env1 rv E1 S1 R1 h1 => ?_
  split at h1
  · rename_i x ex
    obtain ⟨n, e1, e2⟩ := tyX_of (Dq.of_rv E1 R1 ex).dp
    exact ⟨v, .ty ty, _, _, _, rfl, .ty ty, e2, kit_ty (hT x n e1), k (.bl _) H1 W1 env1 (.d (.bool (isT ty x))) E1 S1 (.bl _) h1⟩
  · exact h1.elim
/-! ### x in a list -/
def rdIn : PyData → PyData → (Rv → Prop) → Prop
  | x, .list ds, Q => SeqAt.shaped x = true ∧ SeqAt.shaped (.list ds) = true ∧ Q (.d (.bool (ds.any fun z => PyData.eqv z x)))
  | _, _, _ => False
theorem od_in (hu : X.A.units + 65 < cLine) : OpD X (compareOp .In) rdIn := by
  refine ⟨_, op_inD hu, fun H W x y a b Q Qd hw ra rb q k => ?_⟩
  unfold rdIn at q
  split at q
  · exact ⟨_, _, ra.dp, rb.dp, q.1, q.2.1, k.bl q.2.2⟩
  · exact q.elim
/-! ### list(range(n)) -/
def tdListRg (t : TD) : TD := fun env Q => t env fun rv env1 => match res env1 rv with
  | some (.int n) => RgOk 0 n ∧ Q (.n (.l (rngL 0 n))) env1
  | _ => False
theorem pd_listRg {pr : Pos} (hc : X.calm = true) (hg : Gl X "list") (hm : X.mg "list" = none) (hg2 : Gl X "range") (hm2 : X.mg "range" = none) (he : PD X a te) (na : starEach [a] X.env = (false, eval a X.env) :: starEach [] X.env := by rfl)
    (na2 : starEach [.Call (.Name "range" q) [a] [] pr] X.env = (false, eval (.Call (.Name "range" q) [a] [] pr) X.env) :: starEach [] X.env := by rfl) : PD X (.Call (.Name "list" p) [.Call (.Name "range" q) [a] [] pr] [] pos) (tdListRg te) := by
  obtain ⟨t1, p1, q1⟩ := he
  refine ⟨_, pe_listRg hc hg hm (prg_1 hg2 hm2 p1 na) na2, fun σ H W A env Q Qd E ht k => ?_⟩
  refine q1 σ H W A env _ _ E ht fun v H1 W1 env1 rv E1 S1 R1 h1 => ?_
  split at h1
  · rename_i n en
    refine ⟨n, (Dq.of_rv E1 R1 en).int, h1.1, fun l hl => ?_⟩
    refine (fin_up E1 S1 k).lst E1.trk hl ?_ h1.2
    unfold rgV rngL
    have : ∀ ns : List Nat, DpAll X.K (HW H1 W1) (ns.map fun i => V.int (0 + (i : Nat))) (ns.map fun i => PyData.int (0 + (i : Nat))) := fun ns => by
      induction ns with
      | nil => exact .nil
      | cons a r ih => exact .cons (.int _) ih
    exact this _
  · exact h1.elim
/-! ### sep.join(texts) -/
def strsOf : List PyData → Option (List Str)
  | [] => some []
  | .str i :: r => (strsOf r).map (i :: ·)
  | _ :: _ => none
def tdJoin (to_ te : TD) : TD := fun env Q => to_ env fun ro env1 => match ro with
  | .d (.str a) => te env1 fun rv env2 => match res env2 rv with
    | some (.list xs) => ∃ ys : List Str, xs = ys.map PyData.str ∧ (ys.map (·.length)).sum + ys.length * a.length ≤ 16777216 ∧ Q (.d (.str (Txt.join a ys))) env2
    | _ => False
  | _ => False
theorem pd_join (ho : PD X o to_) (he : PD X e te) (hs : starEach [e] X.env = [(false, eval e X.env)] := by rfl) (hbase : attributeBase o "join" X.env (eval o X.env) = eval o X.env := by rfl) (hline : (apos.endLine == pos.line) = true := by rfl) :
    PD X (.Call (.Attribute o "join" apos) [e] [] pos) (tdJoin to_ te) := by
  obtain ⟨t1, p1, q1⟩ := ho
  obtain ⟨t2, p2, q2⟩ := he
  refine ⟨_, pe_join p1 p2 hs hbase hline, fun σ H W A env Q Qd E ht k => ?_⟩
  refine q1 σ H W A env _ _ E ht fun v H1 W1 env1 ro E1 S1 R1 h1 => ?_
  split at h1
  · rename_i a
    cases (show Dp X.K (HW H1 W1) v (.str a) from R1)
    refine ⟨⟨a, rfl⟩, ?_⟩
    refine q2 σ H1 W1 A env1 _ _ E1 h1 fun u H2 W2 env2 rv E2 S2 R2 h2 => ?_
    split at h2
    · rename_i xs ex
      obtain ⟨ys, rfl, hz, h2⟩ := h2
      obtain ⟨p, ws, rfl, s, d⟩ := Dq.of_rv E2 R2 ex
      rw [d.strs] at s
      exact ⟨a, p, ys, rfl, rfl, .inl s, hz, k (.str _) H2 W2 env2 (.d (.str _)) E2 (S1.trans S2) (.str _) h2⟩
    · exact h2.elim
  · exact h1.elim
end
/-! ### the law's own end -/
theorem law_sp {K : PySem.W.Frag} {H : Hp} {a : Addr} {ns : List Int} {f : FD} (hS : SqL K H a (ns.map V.int)) (h : f [.d (.list (ns.map PyData.int))] fun s _ => s = .d (.bool true)) : spD K ([], []) 1 f [.ref a] H (fun v _ => v = .bl true) fun _ _ _ => False := by
  refine ⟨[], [none], [.d (.list (ns.map PyData.int))], _, rfl, ⟨rfl, rfl, fun i x e => ?_, fun i s e hs => ?_, fun i b e => ?_, fun i j b e => ?_, fun p hp => absurd hp (List.not_mem_nil)⟩, fun i b e => ?_, h, fun s os e v H' W' bk rt => ?_⟩
  · cases i with
    | zero =>
      cases e
      have eH : HW H [] = H := by funext b; unfold HW; rw [if_neg (List.not_mem_nil)]
      exact ⟨rfl, .ref a, rfl, by rw [eH]; exact .lst hS (.of_ints ns)⟩
    | succ i => cases e
  · cases i with
    | zero => cases e; cases hs
    | succ i => cases e
  · cases i with
    | zero => cases e
    | succ i => cases e
  · cases i with
    | zero => cases e
    | succ i => cases e
  · cases i with
    | zero => cases e
    | succ i => cases e
  · subst e
    cases (show Dp K (HW H' W') v (.bool true) from rt)
    rfl
theorem bt_len : bootBuiltins "len" = some (.builtin "len") := by decide +kernel
theorem bt_int : bootBuiltins "int" = some (.type "int") := by decide +kernel
theorem bt_abs : bootBuiltins "abs" = some (.builtin "abs") := by decide +kernel
theorem bt_max : bootBuiltins "max" = some (.builtin "max") := by decide +kernel
theorem bt_min : bootBuiltins "min" = some (.builtin "min") := by decide +kernel
theorem bt_ord : bootBuiltins "ord" = some (.builtin "ord") := by decide +kernel
theorem bt_tuple : bootBuiltins "tuple" = some (.type "tuple") := by decide +kernel
theorem bt_list : bootBuiltins "list" = some (.type "list") := by decide +kernel
theorem bt_sorted : bootBuiltins "sorted" = some (.builtin "sorted") := by decide +kernel
theorem bt_sum : bootBuiltins "sum" = some (.builtin "sum") := by decide +kernel
theorem bt_all : bootBuiltins "all" = some (.builtin "all") := by decide +kernel
theorem bt_any : bootBuiltins "any" = some (.builtin "any") := by decide +kernel
theorem bt_bool : bootBuiltins "bool" = some (.type "bool") := by decide +kernel
theorem bt_str : bootBuiltins "str" = some (.type "str") := by decide +kernel
end DL
namespace DL
open PySem PySem.Spec L2
theorem u65 {k : Nat} {A : Around} (r : Room k A) : A.units + 65 < cLine := by have := r.un; omega
theorem u64 {k : Nat} {A : Around} (r : Room k A) : A.units + 64 < cLine := r.units
theorem u1 {k : Nat} {A : Around} (r : Room k A) : A.units + 1 < cLine := by have := r.un; omega
end DL

set_option Elab.async false
set_option linter.all false
set_option maxRecDepth 100000
set_option maxHeartbeats 4000000
set_option autoImplicit false
namespace DL
open PySem PySem.Spec L2
section
variable {X : Cx} {T : List Nat} {tg iter elt : Expr} {ifs : List Expr} {scope : Scope} {vs : List Nat} {pos spos : Pos} {ti : TDI} {g : TDC} {tt : TDT} {te : TD}
/-- pd_lc, what it wants told first -/
theorem pd_lcV (own : List (Str × Nat)) (hv : own.map (·.2) = vs) (hc : X.calm = true) (hN : X.N.Nodup) (hi : PDI X tg iter ti) (ok : BlkOk X.N X.env.scope scope own)
    (hg : ∀ (s : Shared) (H : Hp) (C : Addr) (cl : List (Str × Addr)) (fp : List Addr), PDC (X.blk s H scope (compEnvC scope cl C X.env) fp) vs tg g) (ht : ∀ (s : Shared) (H : Hp) (C : Addr) (cl : List (Str × Addr)) (fp : List Addr), PDTs (X.blk s H scope (compEnvC scope cl C X.env) fp) ifs tt)
    (he : ∀ (s : Shared) (H : Hp) (C : Addr) (cl : List (Str × Addr)) (fp : List Addr), PD (X.blk s H scope (compEnvC scope cl C X.env) fp) elt te) (hs : ∀ x, foldedSetIterable iter X.env x = pure x := by intro _; rfl) :
    PD X (.ListComp elt [⟨tg, iter, ifs, 0⟩] scope pos) (tdLc ti g tt te vs) := by
  subst hv
  exact pd_lc hc hN hi ok (fun i h => h) hg ht he hs
theorem psd_setLcO {N : List Nat × List Nat} {i : Nat} {y : Str} {py : Pos} (own : List (Str × Nat)) (hv : own.map (·.2) = vs) (hc : X.calm = true) (hN : X.N.Nodup) (hy : X.N[i]? = some y) (hyl : X.env.scope.names.lookup y = some .local)
    (hsw : swapsWith (.ListComp elt [⟨tg, iter, ifs, 0⟩] scope pos) (some (.Name y py)) spos.line X.env = pure true) (hi : PDI X tg iter ti) (ok : BlkOk X.N X.env.scope scope own)
    (hg : ∀ (s : Shared) (H : Hp) (C : Addr) (cl : List (Str × Addr)) (fp : List Addr), PDC (X.blk s H scope (compEnvC scope cl C X.env) fp) vs tg g) (ht : ∀ (s : Shared) (H : Hp) (C : Addr) (cl : List (Str × Addr)) (fp : List Addr), PDTs (X.blk s H scope (compEnvC scope cl C X.env) fp) ifs tt)
    (he : ∀ (s : Shared) (H : Hp) (C : Addr) (cl : List (Str × Addr)) (fp : List Addr), PD (X.blk s H scope (compEnvC scope cl C X.env) fp) elt te) (hM : i ∉ N.1 := by decide) (hs : ∀ x, foldedSetIterable iter X.env x = pure x := by intro _; rfl) :
    PSD X N (.Assign [.Name y py] (.ListComp elt [⟨tg, iter, ifs, 0⟩] scope pos) spos) (tdSet i (tdLc ti g tt te vs)) := by
  subst hv
  exact psd_setLc (keep := true) hc hN hy hyl hsw hi ok (fun i h => h) hg ht he hM hs
theorem psd_setLcD {N : List Nat × List Nat} {i : Nat} {y : Str} {py : Pos} (own : List (Str × Nat)) (hv : own.map (·.2) = vs) (hc : X.calm = true) (hN : X.N.Nodup) (hy : X.N[i]? = some y) (hyl : X.env.scope.names.lookup y = some .local)
    (hsw : swapsWith (.ListComp elt [⟨tg, iter, ifs, 0⟩] scope pos) (some (.Name y py)) spos.line X.env = pure true) (hi : PDI X tg iter ti) (ok : BlkOk X.N X.env.scope scope own)
    (hg : ∀ (s : Shared) (H : Hp) (C : Addr) (cl : List (Str × Addr)) (fp : List Addr), PDC (X.blk s H scope (compEnvC scope cl C X.env) fp) vs tg g) (ht : ∀ (s : Shared) (H : Hp) (C : Addr) (cl : List (Str × Addr)) (fp : List Addr), PDTs (X.blk s H scope (compEnvC scope cl C X.env) fp) ifs tt)
    (he : ∀ (s : Shared) (H : Hp) (C : Addr) (cl : List (Str × Addr)) (fp : List Addr), PD (X.blk s H scope (compEnvC scope cl C X.env) fp) elt te) (hM : i ∉ N.1 := by decide) (hs : ∀ x, foldedSetIterable iter X.env x = pure x := by intro _; rfl) :
    PSD X N (.Assign [.Name y py] (.ListComp elt [⟨tg, iter, ifs, 0⟩] scope pos) spos) (tdSetD i (tdLc ti g tt te vs)) := by
  subst hv
  exact psd_setLc (keep := false) hc hN hy hyl hsw hi ok (fun i h => h) hg ht he hM hs
end
end DL

set_option Elab.async false
set_option linter.all false
set_option maxRecDepth 100000
set_option maxHeartbeats 4000000
set_option autoImplicit false
namespace DL
open PySem PySem.Spec L2
/-! ### what readings come to -/
theorem ixNat {n j : Nat} (hj : j < n) : ixN n (j : Int) = some j := by
  unfold ixN
  rw [if_pos (Int.natCast_nonneg _), if_pos (by omega), Int.toNat_natCast]
section
variable {α : Type} {a b c d : α} {r : List α}
theorem at0 : atI (a :: r) 0 = some a := atI_nat (j := 0) rfl
theorem at1 : atI (a :: b :: r) 1 = some b := atI_nat (j := 1) rfl
theorem at2 : atI (a :: b :: c :: r) 2 = some c := atI_nat (j := 2) rfl
theorem at3 : atI (a :: b :: c :: d :: r) 3 = some d := atI_nat (j := 3) rfl
theorem ix0 : ixN (a :: r).length 0 = some 0 := ixNat (j := 0) (by simp)
theorem ix1 : ixN (a :: b :: r).length 1 = some 1 := ixNat (j := 1) (by simp)
theorem ix2 : ixN (a :: b :: c :: r).length 2 = some 2 := ixNat (j := 2) (by simp)
theorem ix3 : ixN (a :: b :: c :: d :: r).length 3 = some 3 := ixNat (j := 3) (by simp)
end
theorem ix40 : ixN 4 0 = some 0 := rfl
theorem ix41 : ixN 4 1 = some 1 := rfl
theorem ix42 : ixN 4 2 = some 2 := rfl
theorem ix43 : ixN 4 3 = some 3 := rfl
theorem sh_int {i : Int} : SeqAt.shaped (.int i) = true := by simp [SeqAt.shaped, PyData.canLay0, PyData.depth]
theorem sh_bl {i : Bool} : SeqAt.shaped (.bool i) = true := by simp [SeqAt.shaped, PyData.canLay0, PyData.depth]
theorem sh_non : SeqAt.shaped .none = true := by simp [SeqAt.shaped, PyData.canLay0, PyData.depth]
theorem eqv_int {i j : Int} : PyData.eqv (.int i) (.int j) = decide (i = j) := by simp [PyData.eqv]; rfl
theorem eqv_bl {i j : Bool} : PyData.eqv (.bool i) (.bool j) = decide (i = j) := by simp [PyData.eqv]; rfl
theorem eqv_str {i j : Str} : PyData.eqv (.str i) (.str j) = decide (i = j) := by simp only [PyData.eqv]; by_cases h : i = j <;> simp [h]
/-- for, by an invariant -/
theorem for_use {ti : TDI} {g : TDG} {tb : TDS} {D : DE} {env : En} (Pv : List PyData → Nat → En → Prop) (h : ti env fun xs env1 => Pv xs 0 env1 ∧ (∀ i x env, xs[i]? = some x → Pv xs i env → g x env fun env2 => tb { D with nx := Pv xs (i + 1), ct := Pv xs (i + 1), bk := D.nx } env2) ∧ ∀ env, Pv xs xs.length env → D.nx env)
    (hm : ∀ (P P' : List PyData → En → Prop), (∀ xs env, P xs env → P' xs env) → ti env P → ti env P') : tdFor ti g tb D env := hm _ _ (fun xs env h => ⟨Pv xs, h⟩) h
/-! ### the tape of draws -/
def TapeOk (tp : List PyData) : Prop := ∃ (ns : List Int) (p q m : Int), tp = [.list (ns.map .int), .int p, .int q, .int m] ∧ 0 ≤ p
def spTape : FD := fun args Q => ∃ ns : List Int, args = [.d (.list (ns.map .int))] ∧ ∀ tp os, TapeOk tp → Q (.l tp) os
def spDraw : FD := fun args Q => ∃ (tp : List PyData) (many : Int), args = [.l tp, .d (.int many)] ∧ many < 2 ^ 62 ∧ TapeOk tp ∧ ∀ r tp' os, TapeOk tp' → 0 ≤ r → (1 ≤ many → r < many) → (many < 1 → r = 0) → os 0 = some (.l tp') → Q (.d (.int r)) os
def rTape : TDS := (tdSeq (tdSetD 1 (tdC (.int 7)))
  (tdSeq (tdFor (tdIt (tdV 0)) (gdName 2) (tdSetD 1 (tdBin rdMod (tdB rdInt (tdCons (tdBin rdAdd (tdBin rdMul (tdV 1) (tdC (.int 31))) (tdB rdAbs (tdCons (tdB rdInt (tdCons (tdV 2) tdNil)) tdNil))) tdNil)) (tdC (.int 2147483647)))))
  (tdRet ([], []) (tdLst (tdCons (tdB rdList (tdCons (tdV 0) tdNil)) (tdCons (tdC (.int 0)) (tdCons (tdC (.int 0)) (tdCons (tdV 1) tdNil))))))))
def rDraw : TDS := (tdSeq (tdIfS (tdTest (tdBin rdEq (tdBin rdIx (tdV 0) (tdC (.int 2))) (tdC (.int 0)))) (tdSeq (tdSetD 2 (tdBin rdIx (tdV 0) (tdC (.int 1))))
  (tdSeq (tdSetD 3 (tdC (.int 0)))
  (tdSeq (tdIfS (tdTest (tdBin (rdCmp fun i j => decide (i < j)) (tdV 2) (tdB rdLen (tdCons (tdBin rdIx (tdV 0) (tdC (.int 0))) tdNil)))) (tdSetD 3 (tdB rdAbs (tdCons (tdB rdInt (tdCons (tdBin rdIx (tdBin rdIx (tdV 0) (tdC (.int 0))) (tdV 2)) tdNil)) tdNil))) (tdSeq (tdSetIx 0 (tdC (.int 3)) (tdBin rdMod (tdB rdInt (tdCons (tdBin rdAdd (tdBin rdAdd (tdBin rdMul (tdBin rdIx (tdV 0) (tdC (.int 3))) (tdC (.int 48271))) (tdV 2)) (tdC (.int 1))) tdNil)) (tdC (.int 2147483647))))
  (tdSetD 3 (tdBin rdIx (tdV 0) (tdC (.int 3))))))
  (tdSeq (tdSetIx 0 (tdC (.int 1)) (tdBin rdAdd (tdV 2) (tdC (.int 1))))
  (tdSeq (tdIfS (tdTest (tdBin (rdCmp fun i j => decide (i < j)) (tdV 3) (tdBin rdPow (tdC (.int 10)) (tdC (.int 18))))) (tdSeq (tdSetD 3 (tdBin rdMod (tdB rdInt (tdCons (tdBin rdAdd (tdBin rdAdd (tdBin rdMul (tdV 3) (tdC (.int 48271))) (tdBin rdMul (tdV 2) (tdC (.int 69621)))) (tdC (.int 5))) tdNil)) (tdC (.int 2147483647))))
  (tdSeq (tdSetD 3 (tdBin rdMod (tdB rdInt (tdCons (tdBin rdMul (tdV 3) (tdC (.int 69621))) tdNil)) (tdC (.int 2147483629))))
  (tdRet ([0], []) (tdBin rdMod (tdB rdInt (tdCons (tdV 3) tdNil)) (tdB rdMax2 (tdCons (tdV 1) (tdCons (tdC (.int 1)) tdNil))))))) tdNext)
  (tdSetIx 0 (tdC (.int 2)) (tdV 3))))))) tdNext)
  (tdSeq (tdSetD 3 (tdBin rdIx (tdV 0) (tdC (.int 2))))
  (tdSeq (tdSetIx 0 (tdC (.int 2)) (tdBin rdDiv (tdV 3) (tdB rdMax2 (tdCons (tdV 1) (tdCons (tdC (.int 2)) tdNil)))))
  (tdRet ([0], []) (tdBin rdMod (tdB rdInt (tdCons (tdV 3) tdNil)) (tdB rdMax2 (tdCons (tdV 1) (tdCons (tdC (.int 1)) tdNil))))))))
theorem hDraw (args : List Sl) (Q : Sl → (Nat → Option Sl) → Prop) (hl : args.length = 2) (h : spDraw args Q) : rDraw { nx := fun env => Q (.d .none) (osOf env), rt := fun r env => Q r (osOf env) } (startE 4 args) := by
  obtain ⟨tp, many, rfl, hmany, ⟨ns, p, q, m, rfl, hp⟩, k⟩ := h
  have k' : ∀ (n p q m : Int) x2 x3 M, 0 ≤ p → 0 < M → (1 ≤ many → M = many) → (many < 1 → M = 1) → Q (.d (.int (n % M))) (osOf [some (.l [.list (ns.map .int), .int p, .int q, .int m]), some (.d (.int many)), x2, x3]) := fun n p q m x2 x3 M hp hM h1 h2 =>
    k _ _ _ ⟨ns, p, q, m, rfl, hp⟩ (Int.emod_nonneg _ (by omega)) (fun h => by rw [← h1 h]; exact Int.emod_lt_of_pos _ hM) (fun h => by rw [h2 h]; exact Int.emod_one _) rfl
  have hDv : ∀ {x : Int}, CDivW x (if 2 > many then 2 else many) := fun {x} => by
    have h2 : (if 2 > many then 2 else many) < 2 ^ 62 ∧ 0 < (if 2 > many then 2 else many) := by
      by_cases h : 2 > many
      · rw [if_pos h]; exact ⟨by decide, by decide⟩
      · rw [if_neg h]; exact ⟨hmany, by omega⟩
    refine ⟨h2.2, ?_⟩
    rcases Nat.eq_zero_or_pos (if 2 > many then 2 else many).natAbs with e | e
    · rw [e]; decide
    · exact (Nat.log2_lt (by omega)).mpr (Nat.lt_of_lt_of_le (m := 2 ^ 62) (by omega) (Nat.pow_le_pow_right (by decide) (by decide)))
  have cp : CPow 10 18 := by unfold CPow; decide
  have cm : ∀ (x y : Int), -18446744073709551616 < y → y < 18446744073709551616 → CMul x y := fun x y h1 h2 => .inr ⟨by omega, by omega⟩
  have m1 : 0 < (if 1 > many then 1 else many) ∧ (1 ≤ many → (if 1 > many then 1 else many) = many) ∧ (many < 1 → (if 1 > many then 1 else many) = 1) := by
    by_cases h : 1 > many
    · rw [if_pos h]; exact ⟨by omega, fun h2 => by omega, fun _ => rfl⟩
    · rw [if_neg h]; exact ⟨by omega, fun _ => rfl, fun h2 => by omega⟩
  unfold rDraw
  have fin : ∀ (q p m : Int) (x2 : Option Sl), 0 ≤ p → (0 < (if 1 > many then 1 else many)) ∧ Q (.d (.int (q % (if 1 > many then 1 else many)))) (osOf [some (.l [.list (ns.map .int), .int p, .int (q / if 2 > many then 2 else many), .int m]), some (.d (.int many)), x2, some (.d (.int q))]) := fun q p m x2 hp =>
    ⟨m1.1, k' _ _ _ _ _ _ _ hp m1.1 m1.2.1 m1.2.2⟩
  by_cases hq : q = 0
  · by_cases hp2 : p < ns.length
    · obtain ⟨k0, rfl⟩ : ∃ k : Nat, p = k := ⟨p.toNat, by omega⟩
      have hk : k0 < ns.length := by omega
      have e1 : atI (ns.map PyData.int) (k0 : Int) = some (.int ns[k0]) := atI_nat (by rw [List.getElem?_map, List.getElem?_eq_getElem hk]; rfl)
      generalize ha : (if ns[k0] < 0 then -ns[k0] else ns[k0]) = av
      by_cases h18 : av < (10 : Int) ^ (18 : Int).toNat
      · simp only [hq, hp2, e1, ha, h18, cp, ↓startE, ↓tdSeq, ↓tdSet, ↓tdSetD, ↓tdDrop, ↓tdRet, ↓tdIfS, ↓tdNext, ↓tdAsg, ↓tdV, ↓tdC, ↓tdBin, ↓tdB, ↓tdCons, ↓tdNil, ↓tdTup, ↓tdLst, ↓tdTest, ↓tdAnd, ↓tdOr, ↓tdNot, ↓tdIf, ↓tdAndV, ↓tdOrV, ↓tdNotV, ↓tdNeg, ↓tdIsN, ↓tdNotN, ↓tdSl, ↓tdPart, ↓tdNoPart, ↓tdM, ↓tdSetIx, ↓tdAug, ↓tdPut, ↓tdGet2, ↓tdIsi, ↓tdListRg, ↓gdName, ↓gdNil, ↓gdCons, ↓gdTup, ↓tdIt, ↓tdRng1, ↓tdRng2, ↓tdCall, ↓tdNew, ↓tdJoin, ↓gcName, ↓gcNil, ↓gcCons, ↓gcTup, ↓tdYes, ↓res, ↓resR, ↓resAll, ↓rvD, ↓rdLen, ↓rdInt, ↓rdAbs, ↓rdMax2, ↓rdMin2, ↓rdOrd, ↓rdTuple, ↓rdList, ↓rdIx, ↓rdAdd, ↓rdSub, ↓rdMul, ↓rdMod, ↓rdDiv, ↓rdPow, ↓rdCmp, ↓rdEq, ↓rdNe, ↓rdIadd, ↓rdIn, ↓rdSorted, ↓rdSl, ↓isT, ↓rdAppend, ↓itemsOf, ↓rvOf, ↓argsOf, ↓argOf, Nat.reduceAdd, Nat.reduceLT, Nat.reduceSub, Int.reduceLT, Int.reduceLE, Int.reduceAdd, Int.reduceEq, Int.reduceNeg, Nat.reduceLeDiff, Nat.zero_add, Nat.reduceEqDiff, Nat.reduceBEq, ix41, ix42, ix43, ix40, List.length_cons, List.length_nil, List.map_cons, List.map_nil, List.replicate, List.cons_append, List.nil_append, List.getElem?_cons_zero, List.getElem?_cons_succ, List.set_cons_zero, List.set_cons_succ, Option.map_some, at0, at1, at2, at3, ix0, ix1, ix2, ix3, sh_int, sh_bl, sh_non, eqv_int, eqv_bl, eqv_str, decide_eq_true_eq, Bool.not_eq_true, Bool.not_true, Bool.not_false, Bool.false_eq_true, true_and, and_true, if_true, if_false, ite_true, ite_false, List.length_map, List.length_set, Sl.isD, List.mem_singleton, List.mem_cons, List.not_mem_nil, not_true_eq_false, not_false_eq_true, or_false]
        exact ⟨cm _ _ (by decide) (by decide), cm _ _ (by decide) (by decide), cm _ _ (by decide) (by decide), m1.1, k' _ _ _ _ _ _ _ (by omega) m1.1 m1.2.1 m1.2.2⟩
      · simp only [hq, hp2, e1, ha, h18, cp, ↓startE, ↓tdSeq, ↓tdSet, ↓tdSetD, ↓tdDrop, ↓tdRet, ↓tdIfS, ↓tdNext, ↓tdAsg, ↓tdV, ↓tdC, ↓tdBin, ↓tdB, ↓tdCons, ↓tdNil, ↓tdTup, ↓tdLst, ↓tdTest, ↓tdAnd, ↓tdOr, ↓tdNot, ↓tdIf, ↓tdAndV, ↓tdOrV, ↓tdNotV, ↓tdNeg, ↓tdIsN, ↓tdNotN, ↓tdSl, ↓tdPart, ↓tdNoPart, ↓tdM, ↓tdSetIx, ↓tdAug, ↓tdPut, ↓tdGet2, ↓tdIsi, ↓tdListRg, ↓gdName, ↓gdNil, ↓gdCons, ↓gdTup, ↓tdIt, ↓tdRng1, ↓tdRng2, ↓tdCall, ↓tdNew, ↓tdJoin, ↓gcName, ↓gcNil, ↓gcCons, ↓gcTup, ↓tdYes, ↓res, ↓resR, ↓resAll, ↓rvD, ↓rdLen, ↓rdInt, ↓rdAbs, ↓rdMax2, ↓rdMin2, ↓rdOrd, ↓rdTuple, ↓rdList, ↓rdIx, ↓rdAdd, ↓rdSub, ↓rdMul, ↓rdMod, ↓rdDiv, ↓rdPow, ↓rdCmp, ↓rdEq, ↓rdNe, ↓rdIadd, ↓rdIn, ↓rdSorted, ↓rdSl, ↓isT, ↓rdAppend, ↓itemsOf, ↓rvOf, ↓argsOf, ↓argOf, Nat.reduceAdd, Nat.reduceLT, Nat.reduceSub, Int.reduceLT, Int.reduceLE, Int.reduceAdd, Int.reduceEq, Int.reduceNeg, Nat.reduceLeDiff, Nat.zero_add, Nat.reduceEqDiff, Nat.reduceBEq, ix41, ix42, ix43, ix40, List.length_cons, List.length_nil, List.map_cons, List.map_nil, List.replicate, List.cons_append, List.nil_append, List.getElem?_cons_zero, List.getElem?_cons_succ, List.set_cons_zero, List.set_cons_succ, Option.map_some, at0, at1, at2, at3, ix0, ix1, ix2, ix3, sh_int, sh_bl, sh_non, eqv_int, eqv_bl, eqv_str, decide_eq_true_eq, Bool.not_eq_true, Bool.not_true, Bool.not_false, Bool.false_eq_true, true_and, and_true, if_true, if_false, ite_true, ite_false, List.length_map, List.length_set, Sl.isD, List.mem_singleton, List.mem_cons, List.not_mem_nil, not_true_eq_false, not_false_eq_true, or_false]
        exact ⟨hDv, fin _ _ _ _ (by omega)⟩
    · generalize ha : (m * 48271 + p + 1) % 2147483647 = av
      by_cases h18 : av < (10 : Int) ^ (18 : Int).toNat
      · simp only [hq, hp2, ha, h18, cp, ↓startE, ↓tdSeq, ↓tdSet, ↓tdSetD, ↓tdDrop, ↓tdRet, ↓tdIfS, ↓tdNext, ↓tdAsg, ↓tdV, ↓tdC, ↓tdBin, ↓tdB, ↓tdCons, ↓tdNil, ↓tdTup, ↓tdLst, ↓tdTest, ↓tdAnd, ↓tdOr, ↓tdNot, ↓tdIf, ↓tdAndV, ↓tdOrV, ↓tdNotV, ↓tdNeg, ↓tdIsN, ↓tdNotN, ↓tdSl, ↓tdPart, ↓tdNoPart, ↓tdM, ↓tdSetIx, ↓tdAug, ↓tdPut, ↓tdGet2, ↓tdIsi, ↓tdListRg, ↓gdName, ↓gdNil, ↓gdCons, ↓gdTup, ↓tdIt, ↓tdRng1, ↓tdRng2, ↓tdCall, ↓tdNew, ↓tdJoin, ↓gcName, ↓gcNil, ↓gcCons, ↓gcTup, ↓tdYes, ↓res, ↓resR, ↓resAll, ↓rvD, ↓rdLen, ↓rdInt, ↓rdAbs, ↓rdMax2, ↓rdMin2, ↓rdOrd, ↓rdTuple, ↓rdList, ↓rdIx, ↓rdAdd, ↓rdSub, ↓rdMul, ↓rdMod, ↓rdDiv, ↓rdPow, ↓rdCmp, ↓rdEq, ↓rdNe, ↓rdIadd, ↓rdIn, ↓rdSorted, ↓rdSl, ↓isT, ↓rdAppend, ↓itemsOf, ↓rvOf, ↓argsOf, ↓argOf, Nat.reduceAdd, Nat.reduceLT, Nat.reduceSub, Int.reduceLT, Int.reduceLE, Int.reduceAdd, Int.reduceEq, Int.reduceNeg, Nat.reduceLeDiff, Nat.zero_add, Nat.reduceEqDiff, Nat.reduceBEq, ix41, ix42, ix43, ix40, List.length_cons, List.length_nil, List.map_cons, List.map_nil, List.replicate, List.cons_append, List.nil_append, List.getElem?_cons_zero, List.getElem?_cons_succ, List.set_cons_zero, List.set_cons_succ, Option.map_some, at0, at1, at2, at3, ix0, ix1, ix2, ix3, sh_int, sh_bl, sh_non, eqv_int, eqv_bl, eqv_str, decide_eq_true_eq, Bool.not_eq_true, Bool.not_true, Bool.not_false, Bool.false_eq_true, true_and, and_true, if_true, if_false, ite_true, ite_false, List.length_map, List.length_set, Sl.isD, List.mem_singleton, List.mem_cons, List.not_mem_nil, not_true_eq_false, not_false_eq_true, or_false]
        exact ⟨cm _ _ (by decide) (by decide), cm _ _ (by decide) (by decide), cm _ _ (by decide) (by decide), cm _ _ (by decide) (by decide), m1.1, k' _ _ _ _ _ _ _ (by omega) m1.1 m1.2.1 m1.2.2⟩
      · simp only [hq, hp2, ha, h18, cp, ↓startE, ↓tdSeq, ↓tdSet, ↓tdSetD, ↓tdDrop, ↓tdRet, ↓tdIfS, ↓tdNext, ↓tdAsg, ↓tdV, ↓tdC, ↓tdBin, ↓tdB, ↓tdCons, ↓tdNil, ↓tdTup, ↓tdLst, ↓tdTest, ↓tdAnd, ↓tdOr, ↓tdNot, ↓tdIf, ↓tdAndV, ↓tdOrV, ↓tdNotV, ↓tdNeg, ↓tdIsN, ↓tdNotN, ↓tdSl, ↓tdPart, ↓tdNoPart, ↓tdM, ↓tdSetIx, ↓tdAug, ↓tdPut, ↓tdGet2, ↓tdIsi, ↓tdListRg, ↓gdName, ↓gdNil, ↓gdCons, ↓gdTup, ↓tdIt, ↓tdRng1, ↓tdRng2, ↓tdCall, ↓tdNew, ↓tdJoin, ↓gcName, ↓gcNil, ↓gcCons, ↓gcTup, ↓tdYes, ↓res, ↓resR, ↓resAll, ↓rvD, ↓rdLen, ↓rdInt, ↓rdAbs, ↓rdMax2, ↓rdMin2, ↓rdOrd, ↓rdTuple, ↓rdList, ↓rdIx, ↓rdAdd, ↓rdSub, ↓rdMul, ↓rdMod, ↓rdDiv, ↓rdPow, ↓rdCmp, ↓rdEq, ↓rdNe, ↓rdIadd, ↓rdIn, ↓rdSorted, ↓rdSl, ↓isT, ↓rdAppend, ↓itemsOf, ↓rvOf, ↓argsOf, ↓argOf, Nat.reduceAdd, Nat.reduceLT, Nat.reduceSub, Int.reduceLT, Int.reduceLE, Int.reduceAdd, Int.reduceEq, Int.reduceNeg, Nat.reduceLeDiff, Nat.zero_add, Nat.reduceEqDiff, Nat.reduceBEq, ix41, ix42, ix43, ix40, List.length_cons, List.length_nil, List.map_cons, List.map_nil, List.replicate, List.cons_append, List.nil_append, List.getElem?_cons_zero, List.getElem?_cons_succ, List.set_cons_zero, List.set_cons_succ, Option.map_some, at0, at1, at2, at3, ix0, ix1, ix2, ix3, sh_int, sh_bl, sh_non, eqv_int, eqv_bl, eqv_str, decide_eq_true_eq, Bool.not_eq_true, Bool.not_true, Bool.not_false, Bool.false_eq_true, true_and, and_true, if_true, if_false, ite_true, ite_false, List.length_map, List.length_set, Sl.isD, List.mem_singleton, List.mem_cons, List.not_mem_nil, not_true_eq_false, not_false_eq_true, or_false]
        exact ⟨cm _ _ (by decide) (by decide), hDv, fin _ _ _ _ (by omega)⟩
  · simp only [hq, ↓startE, ↓tdSeq, ↓tdSet, ↓tdSetD, ↓tdDrop, ↓tdRet, ↓tdIfS, ↓tdNext, ↓tdAsg, ↓tdV, ↓tdC, ↓tdBin, ↓tdB, ↓tdCons, ↓tdNil, ↓tdTup, ↓tdLst, ↓tdTest, ↓tdAnd, ↓tdOr, ↓tdNot, ↓tdIf, ↓tdAndV, ↓tdOrV, ↓tdNotV, ↓tdNeg, ↓tdIsN, ↓tdNotN, ↓tdSl, ↓tdPart, ↓tdNoPart, ↓tdM, ↓tdSetIx, ↓tdAug, ↓tdPut, ↓tdGet2, ↓tdIsi, ↓tdListRg, ↓gdName, ↓gdNil, ↓gdCons, ↓gdTup, ↓tdIt, ↓tdRng1, ↓tdRng2, ↓tdCall, ↓tdNew, ↓tdJoin, ↓gcName, ↓gcNil, ↓gcCons, ↓gcTup, ↓tdYes, ↓res, ↓resR, ↓resAll, ↓rvD, ↓rdLen, ↓rdInt, ↓rdAbs, ↓rdMax2, ↓rdMin2, ↓rdOrd, ↓rdTuple, ↓rdList, ↓rdIx, ↓rdAdd, ↓rdSub, ↓rdMul, ↓rdMod, ↓rdDiv, ↓rdPow, ↓rdCmp, ↓rdEq, ↓rdNe, ↓rdIadd, ↓rdIn, ↓rdSorted, ↓rdSl, ↓isT, ↓rdAppend, ↓itemsOf, ↓rvOf, ↓argsOf, ↓argOf, Nat.reduceAdd, Nat.reduceLT, Nat.reduceSub, Int.reduceLT, Int.reduceLE, Int.reduceAdd, Int.reduceEq, Int.reduceNeg, Nat.reduceLeDiff, Nat.zero_add, Nat.reduceEqDiff, Nat.reduceBEq, ix41, ix42, ix43, ix40, List.length_cons, List.length_nil, List.map_cons, List.map_nil, List.replicate, List.cons_append, List.nil_append, List.getElem?_cons_zero, List.getElem?_cons_succ, List.set_cons_zero, List.set_cons_succ, Option.map_some, at0, at1, at2, at3, ix0, ix1, ix2, ix3, sh_int, sh_bl, sh_non, eqv_int, eqv_bl, eqv_str, decide_eq_true_eq, Bool.not_eq_true, Bool.not_true, Bool.not_false, Bool.false_eq_true, true_and, and_true, if_true, if_false, ite_true, ite_false, List.length_map, List.length_set, Sl.isD, List.mem_singleton, List.mem_cons, List.not_mem_nil, not_true_eq_false, not_false_eq_true, or_false]
    exact ⟨hDv, fin _ _ _ _ hp⟩
/-- what the lent list holds behind a call, by its place -/
def ios (s : Sl) (os : Nat → Option Sl) : Nat → Option Sl := fun i => if i = 0 then some s else os i
theorem ios_eq {s : Sl} {os : Nat → Option Sl} (h : os 0 = some s) : ios s os = os := by
  funext i
  unfold ios
  by_cases e : i = 0
  · rw [if_pos e, e, h]
  · rw [if_neg e]
theorem outE_i {j : Nat} {r : List Rv} {s : Sl} {os : Nat → Option Sl} {env : En} : outE ([0], []) (.o j :: r) (ios s os) env = env.set j (some s) := rfl
theorem outE_n {r : List Rv} {os : Nat → Option Sl} {env : En} : outE ([], []) r os env = env := rfl
theorem outE_m {r : List Rv} {m : List Nat} {os : Nat → Option Sl} {env : En} : outE ([], m) r os env = env := rfl
theorem seq_i {t u : TDS} {D : DE} {env : En} (h : ∀ Kc : En → Prop, Kc = u D → t { D with nx := Kc } env) : tdSeq t u D env := h _ rfl
theorem draw_if {tp : List PyData} {many : Int} {Q : Sl → (Nat → Option Sl) → Prop} : spDraw [.l tp, .d (.int many)] Q = (many < 2 ^ 62 ∧ TapeOk tp ∧ ∀ (r : Int) (tp' : List PyData) (os : Nat → Option Sl), TapeOk tp' → 0 ≤ r → (1 ≤ many → r < many) → (many < 1 → r = 0) → Q (.d (.int r)) (ios (.l tp') os)) := by
  refine propext ⟨fun ⟨tp2, m2, e, h1, h2, h3⟩ => ?_, fun ⟨h1, h2, h3⟩ => ⟨tp, many, rfl, h1, h2, fun r tp' os a b c d e => ?_⟩⟩
  · cases e
    exact ⟨h1, h2, fun r tp' os a b c d => h3 r tp' _ a b c d rfl⟩
  · have := h3 r tp' os a b c d
    rwa [ios_eq e] at this
def spPick : FD := fun args Q => ∃ (tp : List PyData) (menu : PyData) (xs : List PyData), args = [.l tp, .d menu] ∧ itemsOf menu = some xs ∧ 1 ≤ xs.length ∧ xs.length ≤ sizeLine ∧ TapeOk tp ∧ ∀ x tp' os, TapeOk tp' → x ∈ xs → os 0 = some (.l tp') → Q (.d x) os
theorem pick_if {tp : List PyData} {menu : PyData} {Q : Sl → (Nat → Option Sl) → Prop} : spPick [.l tp, .d menu] Q = ∃ xs, itemsOf menu = some xs ∧ 1 ≤ xs.length ∧ xs.length ≤ sizeLine ∧ TapeOk tp ∧ ∀ (x : PyData) (tp' : List PyData) (os : Nat → Option Sl), TapeOk tp' → x ∈ xs → Q (.d x) (ios (.l tp') os) := by
  refine propext ⟨fun ⟨tp2, m2, xs, e, h1, h2, h3, h4, h5⟩ => ?_, fun ⟨xs, h1, h2, h3, h4, h5⟩ => ⟨tp, menu, xs, rfl, h1, h2, h3, h4, fun x tp' os a b e => ?_⟩⟩
  · cases e
    exact ⟨xs, h1, h2, h3, h4, fun x tp' os a b => h5 x tp' _ a b rfl⟩
  · have := h5 x tp' os a b
    rwa [ios_eq e] at this
def rPick : TDS := (tdRet ([0], []) (tdBin rdIx (tdV 1) (tdCall ([0], []) 2 spDraw (tdCons (tdV 0) (tdCons (tdB rdLen (tdCons (tdV 1) tdNil)) tdNil)))))
theorem hPick (args : List Sl) (Q : Sl → (Nat → Option Sl) → Prop) (hl : args.length = 2) (h : spPick args Q) : rPick { nx := fun env => Q (.d .none) (osOf env), rt := fun r env => Q r (osOf env) } (startE 2 args) := by
  obtain ⟨tp, menu, xs, rfl, hm, h1, h2, ht, k⟩ := h
  have hz : ((xs.length : Nat) : Int) < 2 ^ 62 := Int.lt_of_le_of_lt (Int.ofNat_le.mpr h2) (by decide)
  have fin : ∀ r : Int, 0 ≤ r → (1 ≤ ((xs.length : Nat) : Int) → r < ((xs.length : Nat) : Int)) → ∃ x, atI xs r = some x ∧ x ∈ xs := fun r a b => by
    obtain ⟨j, rfl⟩ : ∃ j : Nat, r = j := ⟨r.toNat, by omega⟩
    have hj : j < xs.length := by have := b (by omega); omega
    exact ⟨xs[j], atI_nat (by rw [List.getElem?_eq_getElem hj]), List.getElem_mem hj⟩
  unfold rPick
  cases menu with
  | list ys =>
    cases hm
    simp only [↓startE, ↓tdSeq, ↓tdSet, ↓tdSetD, ↓tdDrop, ↓tdRet, ↓tdIfS, ↓tdNext, ↓tdAsg, ↓tdV, ↓tdC, ↓tdBin, ↓tdB, ↓tdCons, ↓tdNil, ↓tdTup, ↓tdLst, ↓tdTest, ↓tdAnd, ↓tdOr, ↓tdNot, ↓tdIf, ↓tdAndV, ↓tdOrV, ↓tdNotV, ↓tdNeg, ↓tdIsN, ↓tdNotN, ↓tdSl, ↓tdPart, ↓tdNoPart, ↓tdM, ↓tdSetIx, ↓tdAug, ↓tdPut, ↓tdGet2, ↓tdIsi, ↓tdListRg, ↓gdName, ↓gdNil, ↓gdCons, ↓gdTup, ↓tdIt, ↓tdRng1, ↓tdRng2, ↓tdCall, ↓tdNew, ↓tdJoin, ↓gcName, ↓gcNil, ↓gcCons, ↓gcTup, ↓tdYes, ↓res, ↓resR, ↓resAll, ↓rvD, ↓rdLen, ↓rdInt, ↓rdAbs, ↓rdMax2, ↓rdMin2, ↓rdOrd, ↓rdTuple, ↓rdList, ↓rdIx, ↓rdAdd, ↓rdSub, ↓rdMul, ↓rdMod, ↓rdDiv, ↓rdPow, ↓rdCmp, ↓rdEq, ↓rdNe, ↓rdIadd, ↓rdIn, ↓rdSorted, ↓rdSl, ↓isT, ↓rdAppend, ↓itemsOf, ↓rvOf, ↓argsOf, ↓argOf, Nat.reduceAdd, Nat.reduceLT, Nat.reduceSub, Int.reduceLT, Int.reduceLE, Int.reduceAdd, Int.reduceEq, Int.reduceNeg, Nat.reduceLeDiff, Nat.zero_add, Nat.reduceEqDiff, Nat.reduceBEq, ix41, ix42, ix43, ix40, List.length_cons, List.length_nil, List.map_cons, List.map_nil, List.replicate, List.cons_append, List.nil_append, List.getElem?_cons_zero, List.getElem?_cons_succ, List.set_cons_zero, List.set_cons_succ, Option.map_some, at0, at1, at2, at3, ix0, ix1, ix2, ix3, sh_int, sh_bl, sh_non, eqv_int, eqv_bl, eqv_str, decide_eq_true_eq, Bool.not_eq_true, Bool.not_true, Bool.not_false, Bool.false_eq_true, true_and, and_true, if_true, if_false, ite_true, ite_false, List.length_map, List.length_set, Sl.isD, List.mem_singleton, List.mem_cons, List.not_mem_nil, not_true_eq_false, not_false_eq_true, or_false, ↓draw_if, outE_i]
    refine ⟨hz, ht, fun r tp' os t1 a b _ => ?_⟩
    obtain ⟨x, e1, e2⟩ := fin r a b
    simp only [e1, ↓startE, ↓tdSeq, ↓tdSet, ↓tdSetD, ↓tdDrop, ↓tdRet, ↓tdIfS, ↓tdNext, ↓tdAsg, ↓tdV, ↓tdC, ↓tdBin, ↓tdB, ↓tdCons, ↓tdNil, ↓tdTup, ↓tdLst, ↓tdTest, ↓tdAnd, ↓tdOr, ↓tdNot, ↓tdIf, ↓tdAndV, ↓tdOrV, ↓tdNotV, ↓tdNeg, ↓tdIsN, ↓tdNotN, ↓tdSl, ↓tdPart, ↓tdNoPart, ↓tdM, ↓tdSetIx, ↓tdAug, ↓tdPut, ↓tdGet2, ↓tdIsi, ↓tdListRg, ↓gdName, ↓gdNil, ↓gdCons, ↓gdTup, ↓tdIt, ↓tdRng1, ↓tdRng2, ↓tdCall, ↓tdNew, ↓tdJoin, ↓gcName, ↓gcNil, ↓gcCons, ↓gcTup, ↓tdYes, ↓res, ↓resR, ↓resAll, ↓rvD, ↓rdLen, ↓rdInt, ↓rdAbs, ↓rdMax2, ↓rdMin2, ↓rdOrd, ↓rdTuple, ↓rdList, ↓rdIx, ↓rdAdd, ↓rdSub, ↓rdMul, ↓rdMod, ↓rdDiv, ↓rdPow, ↓rdCmp, ↓rdEq, ↓rdNe, ↓rdIadd, ↓rdIn, ↓rdSorted, ↓rdSl, ↓isT, ↓rdAppend, ↓itemsOf, ↓rvOf, ↓argsOf, ↓argOf, Nat.reduceAdd, Nat.reduceLT, Nat.reduceSub, Int.reduceLT, Int.reduceLE, Int.reduceAdd, Int.reduceEq, Int.reduceNeg, Nat.reduceLeDiff, Nat.zero_add, Nat.reduceEqDiff, Nat.reduceBEq, ix41, ix42, ix43, ix40, List.length_cons, List.length_nil, List.map_cons, List.map_nil, List.replicate, List.cons_append, List.nil_append, List.getElem?_cons_zero, List.getElem?_cons_succ, List.set_cons_zero, List.set_cons_succ, Option.map_some, at0, at1, at2, at3, ix0, ix1, ix2, ix3, sh_int, sh_bl, sh_non, eqv_int, eqv_bl, eqv_str, decide_eq_true_eq, Bool.not_eq_true, Bool.not_true, Bool.not_false, Bool.false_eq_true, true_and, and_true, if_true, if_false, ite_true, ite_false, List.length_map, List.length_set, Sl.isD, List.mem_singleton, List.mem_cons, List.not_mem_nil, not_true_eq_false, not_false_eq_true, or_false]
    exact k x tp' _ t1 e2 rfl
  | tuple ys =>
    cases hm
    simp only [↓startE, ↓tdSeq, ↓tdSet, ↓tdSetD, ↓tdDrop, ↓tdRet, ↓tdIfS, ↓tdNext, ↓tdAsg, ↓tdV, ↓tdC, ↓tdBin, ↓tdB, ↓tdCons, ↓tdNil, ↓tdTup, ↓tdLst, ↓tdTest, ↓tdAnd, ↓tdOr, ↓tdNot, ↓tdIf, ↓tdAndV, ↓tdOrV, ↓tdNotV, ↓tdNeg, ↓tdIsN, ↓tdNotN, ↓tdSl, ↓tdPart, ↓tdNoPart, ↓tdM, ↓tdSetIx, ↓tdAug, ↓tdPut, ↓tdGet2, ↓tdIsi, ↓tdListRg, ↓gdName, ↓gdNil, ↓gdCons, ↓gdTup, ↓tdIt, ↓tdRng1, ↓tdRng2, ↓tdCall, ↓tdNew, ↓tdJoin, ↓gcName, ↓gcNil, ↓gcCons, ↓gcTup, ↓tdYes, ↓res, ↓resR, ↓resAll, ↓rvD, ↓rdLen, ↓rdInt, ↓rdAbs, ↓rdMax2, ↓rdMin2, ↓rdOrd, ↓rdTuple, ↓rdList, ↓rdIx, ↓rdAdd, ↓rdSub, ↓rdMul, ↓rdMod, ↓rdDiv, ↓rdPow, ↓rdCmp, ↓rdEq, ↓rdNe, ↓rdIadd, ↓rdIn, ↓rdSorted, ↓rdSl, ↓isT, ↓rdAppend, ↓itemsOf, ↓rvOf, ↓argsOf, ↓argOf, Nat.reduceAdd, Nat.reduceLT, Nat.reduceSub, Int.reduceLT, Int.reduceLE, Int.reduceAdd, Int.reduceEq, Int.reduceNeg, Nat.reduceLeDiff, Nat.zero_add, Nat.reduceEqDiff, Nat.reduceBEq, ix41, ix42, ix43, ix40, List.length_cons, List.length_nil, List.map_cons, List.map_nil, List.replicate, List.cons_append, List.nil_append, List.getElem?_cons_zero, List.getElem?_cons_succ, List.set_cons_zero, List.set_cons_succ, Option.map_some, at0, at1, at2, at3, ix0, ix1, ix2, ix3, sh_int, sh_bl, sh_non, eqv_int, eqv_bl, eqv_str, decide_eq_true_eq, Bool.not_eq_true, Bool.not_true, Bool.not_false, Bool.false_eq_true, true_and, and_true, if_true, if_false, ite_true, ite_false, List.length_map, List.length_set, Sl.isD, List.mem_singleton, List.mem_cons, List.not_mem_nil, not_true_eq_false, not_false_eq_true, or_false, ↓draw_if, outE_i]
    refine ⟨hz, ht, fun r tp' os t1 a b _ => ?_⟩
    obtain ⟨x, e1, e2⟩ := fin r a b
    simp only [e1, ↓startE, ↓tdSeq, ↓tdSet, ↓tdSetD, ↓tdDrop, ↓tdRet, ↓tdIfS, ↓tdNext, ↓tdAsg, ↓tdV, ↓tdC, ↓tdBin, ↓tdB, ↓tdCons, ↓tdNil, ↓tdTup, ↓tdLst, ↓tdTest, ↓tdAnd, ↓tdOr, ↓tdNot, ↓tdIf, ↓tdAndV, ↓tdOrV, ↓tdNotV, ↓tdNeg, ↓tdIsN, ↓tdNotN, ↓tdSl, ↓tdPart, ↓tdNoPart, ↓tdM, ↓tdSetIx, ↓tdAug, ↓tdPut, ↓tdGet2, ↓tdIsi, ↓tdListRg, ↓gdName, ↓gdNil, ↓gdCons, ↓gdTup, ↓tdIt, ↓tdRng1, ↓tdRng2, ↓tdCall, ↓tdNew, ↓tdJoin, ↓gcName, ↓gcNil, ↓gcCons, ↓gcTup, ↓tdYes, ↓res, ↓resR, ↓resAll, ↓rvD, ↓rdLen, ↓rdInt, ↓rdAbs, ↓rdMax2, ↓rdMin2, ↓rdOrd, ↓rdTuple, ↓rdList, ↓rdIx, ↓rdAdd, ↓rdSub, ↓rdMul, ↓rdMod, ↓rdDiv, ↓rdPow, ↓rdCmp, ↓rdEq, ↓rdNe, ↓rdIadd, ↓rdIn, ↓rdSorted, ↓rdSl, ↓isT, ↓rdAppend, ↓itemsOf, ↓rvOf, ↓argsOf, ↓argOf, Nat.reduceAdd, Nat.reduceLT, Nat.reduceSub, Int.reduceLT, Int.reduceLE, Int.reduceAdd, Int.reduceEq, Int.reduceNeg, Nat.reduceLeDiff, Nat.zero_add, Nat.reduceEqDiff, Nat.reduceBEq, ix41, ix42, ix43, ix40, List.length_cons, List.length_nil, List.map_cons, List.map_nil, List.replicate, List.cons_append, List.nil_append, List.getElem?_cons_zero, List.getElem?_cons_succ, List.set_cons_zero, List.set_cons_succ, Option.map_some, at0, at1, at2, at3, ix0, ix1, ix2, ix3, sh_int, sh_bl, sh_non, eqv_int, eqv_bl, eqv_str, decide_eq_true_eq, Bool.not_eq_true, Bool.not_true, Bool.not_false, Bool.false_eq_true, true_and, and_true, if_true, if_false, ite_true, ite_false, List.length_map, List.length_set, Sl.isD, List.mem_singleton, List.mem_cons, List.not_mem_nil, not_true_eq_false, not_false_eq_true, or_false]
    exact k x tp' _ t1 e2 rfl
  | str z =>
    cases hm
    rw [List.length_map, Array.length_toList] at hz h2
    simp only [↓startE, ↓tdSeq, ↓tdSet, ↓tdSetD, ↓tdDrop, ↓tdRet, ↓tdIfS, ↓tdNext, ↓tdAsg, ↓tdV, ↓tdC, ↓tdBin, ↓tdB, ↓tdCons, ↓tdNil, ↓tdTup, ↓tdLst, ↓tdTest, ↓tdAnd, ↓tdOr, ↓tdNot, ↓tdIf, ↓tdAndV, ↓tdOrV, ↓tdNotV, ↓tdNeg, ↓tdIsN, ↓tdNotN, ↓tdSl, ↓tdPart, ↓tdNoPart, ↓tdM, ↓tdSetIx, ↓tdAug, ↓tdPut, ↓tdGet2, ↓tdIsi, ↓tdListRg, ↓gdName, ↓gdNil, ↓gdCons, ↓gdTup, ↓tdIt, ↓tdRng1, ↓tdRng2, ↓tdCall, ↓tdNew, ↓tdJoin, ↓gcName, ↓gcNil, ↓gcCons, ↓gcTup, ↓tdYes, ↓res, ↓resR, ↓resAll, ↓rvD, ↓rdLen, ↓rdInt, ↓rdAbs, ↓rdMax2, ↓rdMin2, ↓rdOrd, ↓rdTuple, ↓rdList, ↓rdIx, ↓rdAdd, ↓rdSub, ↓rdMul, ↓rdMod, ↓rdDiv, ↓rdPow, ↓rdCmp, ↓rdEq, ↓rdNe, ↓rdIadd, ↓rdIn, ↓rdSorted, ↓rdSl, ↓isT, ↓rdAppend, ↓itemsOf, ↓rvOf, ↓argsOf, ↓argOf, Nat.reduceAdd, Nat.reduceLT, Nat.reduceSub, Int.reduceLT, Int.reduceLE, Int.reduceAdd, Int.reduceEq, Int.reduceNeg, Nat.reduceLeDiff, Nat.zero_add, Nat.reduceEqDiff, Nat.reduceBEq, ix41, ix42, ix43, ix40, List.length_cons, List.length_nil, List.map_cons, List.map_nil, List.replicate, List.cons_append, List.nil_append, List.getElem?_cons_zero, List.getElem?_cons_succ, List.set_cons_zero, List.set_cons_succ, Option.map_some, at0, at1, at2, at3, ix0, ix1, ix2, ix3, sh_int, sh_bl, sh_non, eqv_int, eqv_bl, eqv_str, decide_eq_true_eq, Bool.not_eq_true, Bool.not_true, Bool.not_false, Bool.false_eq_true, true_and, and_true, if_true, if_false, ite_true, ite_false, List.length_map, List.length_set, Sl.isD, List.mem_singleton, List.mem_cons, List.not_mem_nil, not_true_eq_false, not_false_eq_true, or_false, ↓draw_if, outE_i]
    refine ⟨h2, hz, ht, fun r tp' os t1 a b _ => ⟨h2, ?_⟩⟩
    obtain ⟨x, e1, e2⟩ := fin r a (by rw [List.length_map, Array.length_toList]; exact b)
    have e3 : ∃ c, atI z.cps.toList r = some c ∧ x = .str ⟨#[c]⟩ := by
      unfold atI at e1 ⊢
      rw [List.length_map] at e1
      obtain ⟨j, q1, q2⟩ := Option.bind_eq_some_iff.mp e1
      rw [List.getElem?_map] at q2
      obtain ⟨c, q3, q4⟩ := Option.map_eq_some_iff.mp q2
      exact ⟨c, by rw [q1]; exact q3, q4.symm⟩
    obtain ⟨c, e4, rfl⟩ := e3
    simp only [e4, ↓startE, ↓tdSeq, ↓tdSet, ↓tdSetD, ↓tdDrop, ↓tdRet, ↓tdIfS, ↓tdNext, ↓tdAsg, ↓tdV, ↓tdC, ↓tdBin, ↓tdB, ↓tdCons, ↓tdNil, ↓tdTup, ↓tdLst, ↓tdTest, ↓tdAnd, ↓tdOr, ↓tdNot, ↓tdIf, ↓tdAndV, ↓tdOrV, ↓tdNotV, ↓tdNeg, ↓tdIsN, ↓tdNotN, ↓tdSl, ↓tdPart, ↓tdNoPart, ↓tdM, ↓tdSetIx, ↓tdAug, ↓tdPut, ↓tdGet2, ↓tdIsi, ↓tdListRg, ↓gdName, ↓gdNil, ↓gdCons, ↓gdTup, ↓tdIt, ↓tdRng1, ↓tdRng2, ↓tdCall, ↓tdNew, ↓tdJoin, ↓gcName, ↓gcNil, ↓gcCons, ↓gcTup, ↓tdYes, ↓res, ↓resR, ↓resAll, ↓rvD, ↓rdLen, ↓rdInt, ↓rdAbs, ↓rdMax2, ↓rdMin2, ↓rdOrd, ↓rdTuple, ↓rdList, ↓rdIx, ↓rdAdd, ↓rdSub, ↓rdMul, ↓rdMod, ↓rdDiv, ↓rdPow, ↓rdCmp, ↓rdEq, ↓rdNe, ↓rdIadd, ↓rdIn, ↓rdSorted, ↓rdSl, ↓isT, ↓rdAppend, ↓itemsOf, ↓rvOf, ↓argsOf, ↓argOf, Nat.reduceAdd, Nat.reduceLT, Nat.reduceSub, Int.reduceLT, Int.reduceLE, Int.reduceAdd, Int.reduceEq, Int.reduceNeg, Nat.reduceLeDiff, Nat.zero_add, Nat.reduceEqDiff, Nat.reduceBEq, ix41, ix42, ix43, ix40, List.length_cons, List.length_nil, List.map_cons, List.map_nil, List.replicate, List.cons_append, List.nil_append, List.getElem?_cons_zero, List.getElem?_cons_succ, List.set_cons_zero, List.set_cons_succ, Option.map_some, at0, at1, at2, at3, ix0, ix1, ix2, ix3, sh_int, sh_bl, sh_non, eqv_int, eqv_bl, eqv_str, decide_eq_true_eq, Bool.not_eq_true, Bool.not_true, Bool.not_false, Bool.false_eq_true, true_and, and_true, if_true, if_false, ite_true, ite_false, List.length_map, List.length_set, Sl.isD, List.mem_singleton, List.mem_cons, List.not_mem_nil, not_true_eq_false, not_false_eq_true, or_false]
    exact k _ tp' _ t1 e2 rfl
  | _ => cases hm
theorem hTape (args : List Sl) (Q : Sl → (Nat → Option Sl) → Prop) (hl : args.length = 1) (h : spTape args Q) : rTape { nx := fun env => Q (.d .none) (osOf env), rt := fun r env => Q r (osOf env) } (startE 3 args) := by
  obtain ⟨ns, rfl, k⟩ := h
  unfold rTape
  refine seq_i fun Kc hK => ?_
  simp only [↓startE, ↓tdSeq, ↓tdSet, ↓tdSetD, ↓tdDrop, ↓tdRet, ↓tdIfS, ↓tdNext, ↓tdAsg, ↓tdV, ↓tdC, ↓tdBin, ↓tdB, ↓tdCons, ↓tdNil, ↓tdTup, ↓tdLst, ↓tdTest, ↓tdAnd, ↓tdOr, ↓tdNot, ↓tdIf, ↓tdAndV, ↓tdOrV, ↓tdNotV, ↓tdNeg, ↓tdIsN, ↓tdNotN, ↓tdSl, ↓tdPart, ↓tdNoPart, ↓tdM, ↓tdSetIx, ↓tdAug, ↓tdPut, ↓tdGet2, ↓tdIsi, ↓tdListRg, ↓gdName, ↓gdNil, ↓gdCons, ↓gdTup, ↓tdIt, ↓tdRng1, ↓tdRng2, ↓tdCall, ↓tdNew, ↓tdJoin, ↓gcName, ↓gcNil, ↓gcCons, ↓gcTup, ↓tdYes, ↓res, ↓resR, ↓resAll, ↓rvD, ↓rdLen, ↓rdInt, ↓rdAbs, ↓rdMax2, ↓rdMin2, ↓rdOrd, ↓rdTuple, ↓rdList, ↓rdIx, ↓rdAdd, ↓rdSub, ↓rdMul, ↓rdMod, ↓rdDiv, ↓rdPow, ↓rdCmp, ↓rdEq, ↓rdNe, ↓rdIadd, ↓rdIn, ↓rdSorted, ↓rdSl, ↓isT, ↓rdAppend, ↓itemsOf, ↓rvOf, ↓argsOf, ↓argOf, Nat.reduceAdd, Nat.reduceLT, Nat.reduceSub, Int.reduceLT, Int.reduceLE, Int.reduceAdd, Int.reduceEq, Int.reduceNeg, Nat.reduceLeDiff, Nat.zero_add, Nat.reduceEqDiff, Nat.reduceBEq, ix41, ix42, ix43, ix40, List.length_cons, List.length_nil, List.map_cons, List.map_nil, List.replicate, List.cons_append, List.nil_append, List.getElem?_cons_zero, List.getElem?_cons_succ, List.set_cons_zero, List.set_cons_succ, Option.map_some, at0, at1, at2, at3, ix0, ix1, ix2, ix3, sh_int, sh_bl, sh_non, eqv_int, eqv_bl, eqv_str, decide_eq_true_eq, Bool.not_eq_true, Bool.not_true, Bool.not_false, Bool.false_eq_true, true_and, and_true, if_true, if_false, ite_true, ite_false, List.length_map, List.length_set, Sl.isD, List.mem_singleton, List.mem_cons, List.not_mem_nil, not_true_eq_false, not_false_eq_true, or_false]
  subst hK
  refine seq_i fun Kc hK => ?_
  refine ⟨fun i env => ∃ (m : Int) (x : Option Sl), env = [some (.d (.list (ns.map .int))), some (.d (.int m)), x], ⟨7, none, rfl⟩, fun i x env hx hP => ?_, fun env hP => ?_⟩
  · obtain ⟨m, x2, rfl⟩ := hP
    rw [List.getElem?_map] at hx
    obtain ⟨n, hn, rfl⟩ := Option.map_eq_some_iff.mp hx
    simp only [↓startE, ↓tdSeq, ↓tdSet, ↓tdSetD, ↓tdDrop, ↓tdRet, ↓tdIfS, ↓tdNext, ↓tdAsg, ↓tdV, ↓tdC, ↓tdBin, ↓tdB, ↓tdCons, ↓tdNil, ↓tdTup, ↓tdLst, ↓tdTest, ↓tdAnd, ↓tdOr, ↓tdNot, ↓tdIf, ↓tdAndV, ↓tdOrV, ↓tdNotV, ↓tdNeg, ↓tdIsN, ↓tdNotN, ↓tdSl, ↓tdPart, ↓tdNoPart, ↓tdM, ↓tdSetIx, ↓tdAug, ↓tdPut, ↓tdGet2, ↓tdIsi, ↓tdListRg, ↓gdName, ↓gdNil, ↓gdCons, ↓gdTup, ↓tdIt, ↓tdRng1, ↓tdRng2, ↓tdCall, ↓tdNew, ↓tdJoin, ↓gcName, ↓gcNil, ↓gcCons, ↓gcTup, ↓tdYes, ↓res, ↓resR, ↓resAll, ↓rvD, ↓rdLen, ↓rdInt, ↓rdAbs, ↓rdMax2, ↓rdMin2, ↓rdOrd, ↓rdTuple, ↓rdList, ↓rdIx, ↓rdAdd, ↓rdSub, ↓rdMul, ↓rdMod, ↓rdDiv, ↓rdPow, ↓rdCmp, ↓rdEq, ↓rdNe, ↓rdIadd, ↓rdIn, ↓rdSorted, ↓rdSl, ↓isT, ↓rdAppend, ↓itemsOf, ↓rvOf, ↓argsOf, ↓argOf, Nat.reduceAdd, Nat.reduceLT, Nat.reduceSub, Int.reduceLT, Int.reduceLE, Int.reduceAdd, Int.reduceEq, Int.reduceNeg, Nat.reduceLeDiff, Nat.zero_add, Nat.reduceEqDiff, Nat.reduceBEq, ix41, ix42, ix43, ix40, List.length_cons, List.length_nil, List.map_cons, List.map_nil, List.replicate, List.cons_append, List.nil_append, List.getElem?_cons_zero, List.getElem?_cons_succ, List.set_cons_zero, List.set_cons_succ, Option.map_some, at0, at1, at2, at3, ix0, ix1, ix2, ix3, sh_int, sh_bl, sh_non, eqv_int, eqv_bl, eqv_str, decide_eq_true_eq, Bool.not_eq_true, Bool.not_true, Bool.not_false, Bool.false_eq_true, true_and, and_true, if_true, if_false, ite_true, ite_false, List.length_map, List.length_set, Sl.isD, List.mem_singleton, List.mem_cons, List.not_mem_nil, not_true_eq_false, not_false_eq_true, or_false]
    exact ⟨.inr ⟨by decide, by decide⟩, _, _, rfl⟩
  · obtain ⟨m, x2, rfl⟩ := hP
    subst hK
    simp only [↓startE, ↓tdSeq, ↓tdSet, ↓tdSetD, ↓tdDrop, ↓tdRet, ↓tdIfS, ↓tdNext, ↓tdAsg, ↓tdV, ↓tdC, ↓tdBin, ↓tdB, ↓tdCons, ↓tdNil, ↓tdTup, ↓tdLst, ↓tdTest, ↓tdAnd, ↓tdOr, ↓tdNot, ↓tdIf, ↓tdAndV, ↓tdOrV, ↓tdNotV, ↓tdNeg, ↓tdIsN, ↓tdNotN, ↓tdSl, ↓tdPart, ↓tdNoPart, ↓tdM, ↓tdSetIx, ↓tdAug, ↓tdPut, ↓tdGet2, ↓tdIsi, ↓tdListRg, ↓gdName, ↓gdNil, ↓gdCons, ↓gdTup, ↓tdIt, ↓tdRng1, ↓tdRng2, ↓tdCall, ↓tdNew, ↓tdJoin, ↓gcName, ↓gcNil, ↓gcCons, ↓gcTup, ↓tdYes, ↓res, ↓resR, ↓resAll, ↓rvD, ↓rdLen, ↓rdInt, ↓rdAbs, ↓rdMax2, ↓rdMin2, ↓rdOrd, ↓rdTuple, ↓rdList, ↓rdIx, ↓rdAdd, ↓rdSub, ↓rdMul, ↓rdMod, ↓rdDiv, ↓rdPow, ↓rdCmp, ↓rdEq, ↓rdNe, ↓rdIadd, ↓rdIn, ↓rdSorted, ↓rdSl, ↓isT, ↓rdAppend, ↓itemsOf, ↓rvOf, ↓argsOf, ↓argOf, Nat.reduceAdd, Nat.reduceLT, Nat.reduceSub, Int.reduceLT, Int.reduceLE, Int.reduceAdd, Int.reduceEq, Int.reduceNeg, Nat.reduceLeDiff, Nat.zero_add, Nat.reduceEqDiff, Nat.reduceBEq, ix41, ix42, ix43, ix40, List.length_cons, List.length_nil, List.map_cons, List.map_nil, List.replicate, List.cons_append, List.nil_append, List.getElem?_cons_zero, List.getElem?_cons_succ, List.set_cons_zero, List.set_cons_succ, Option.map_some, at0, at1, at2, at3, ix0, ix1, ix2, ix3, sh_int, sh_bl, sh_non, eqv_int, eqv_bl, eqv_str, decide_eq_true_eq, Bool.not_eq_true, Bool.not_true, Bool.not_false, Bool.false_eq_true, true_and, and_true, if_true, if_false, ite_true, ite_false, List.length_map, List.length_set, Sl.isD, List.mem_singleton, List.mem_cons, List.not_mem_nil, not_true_eq_false, not_false_eq_true, or_false]
    exact ⟨by decide, k _ _ ⟨ns, 0, 0, m, rfl, Int.le_refl 0⟩⟩
end DL

set_option Elab.async false
set_option linter.all false
set_option maxRecDepth 100000
set_option maxHeartbeats 4000000
set_option autoImplicit false
namespace DL
open PySem PySem.Spec L2
theorem cut_mem {xs : List PyData} {lo hi : Option Int} {x : PyData} (h : x ∈ cutL xs lo hi) : x ∈ xs := List.mem_of_mem_drop (List.mem_of_mem_take h)
theorem popAt {xs : List PyData} {r : Int} {Qd : PyData → List PyData → Prop} (h0 : 0 ≤ r) (h1 : r < xs.length) (hs : xs.length ≤ sizeLine) (h : ∀ (k : Nat) (y : PyData), r = k → xs[k]? = some y → Qd y (xs.eraseIdx k)) : rdPopAt xs [.int r] Qd := by
  obtain ⟨k, rfl⟩ : ∃ k : Nat, r = k := ⟨r.toNat, by omega⟩
  have hk : k < xs.length := by omega
  have hz : k < 2 ^ 24 := Nat.lt_of_lt_of_le hk hs
  have e : seqIndex? (k : Int) xs.length = some k := (ixN_seq (ixNat hk)).1
  unfold rdPopAt
  dsimp only
  rw [e]
  refine ⟨⟨by omega, by omega⟩, ?_⟩
  dsimp only
  rw [List.getElem?_eq_getElem hk]
  exact h k _ rfl (List.getElem?_eq_getElem hk)
def spTurns : FD := fun args Q => ∃ (tp : List PyData) (many : Int), args = [.l tp, .d (.int many)] ∧ 0 ≤ many ∧ many ≤ 1000 ∧ TapeOk tp ∧ ∀ (ns : List Int) tp' os, (∀ n ∈ ns, 0 ≤ n ∧ n < many) → TapeOk tp' → os 0 = some (.l tp') → Q (.l (ns.map .int)) os
def rTurns : TDS := (tdSeq (tdSet 2 (tdListRg (tdV 1)))
  (tdSeq (tdSet 3 (tdLst tdNil))
  (tdSeq (tdFor (tdRng1 (tdCons (tdV 1) tdNil)) (gdName 4) (tdDrop (tdM 3 rdAppend (tdCons (tdM 2 rdPopAt (tdCons (tdCall ([0], []) 2 spDraw (tdCons (tdV 0) (tdCons (tdB rdLen (tdCons (tdV 2) tdNil)) tdNil))) tdNil)) tdNil))))
  (tdRet ([0], []) (tdSl (tdV 3) tdNoPart (tdPart (tdBin rdIx (tdLst (tdCons (tdV 1) (tdCons (tdV 1) (tdCons (tdC (.int 1)) tdNil)))) (tdCall ([0], []) 2 spDraw (tdCons (tdV 0) (tdCons (tdC (.int 3)) tdNil))))))))))
theorem hTurns (args : List Sl) (Q : Sl → (Nat → Option Sl) → Prop) (hl : args.length = 2) (h : spTurns args Q) : rTurns { nx := fun env => Q (.d .none) (osOf env), rt := fun r env => Q r (osOf env) } (startE 5 args) := by
  obtain ⟨tp, many, rfl, h0, h1, ht, k⟩ := h
  obtain ⟨m, rfl⟩ : ∃ m : Nat, many = m := ⟨many.toNat, by omega⟩
  unfold rTurns
  refine seq_i fun Kc hK => ?_
  simp only [↓startE, ↓tdSeq, ↓tdSet, ↓tdSetD, ↓tdDrop, ↓tdRet, ↓tdIfS, ↓tdNext, ↓tdAsg, ↓tdV, ↓tdC, ↓tdBin, ↓tdB, ↓tdCons, ↓tdNil, ↓tdTup, ↓tdLst, ↓tdTest, ↓tdAnd, ↓tdOr, ↓tdNot, ↓tdIf, ↓tdAndV, ↓tdOrV, ↓tdNotV, ↓tdNeg, ↓tdIsN, ↓tdNotN, ↓tdSl, ↓tdPart, ↓tdNoPart, ↓tdM, ↓tdSetIx, ↓tdAug, ↓tdPut, ↓tdGet2, ↓tdIsi, ↓tdListRg, ↓gdName, ↓gdNil, ↓gdCons, ↓gdTup, ↓tdIt, ↓tdRng1, ↓tdRng2, ↓tdCall, ↓tdNew, ↓tdJoin, ↓gcName, ↓gcNil, ↓gcCons, ↓gcTup, ↓tdYes, ↓res, ↓resR, ↓resAll, ↓rvD, ↓rdLen, ↓rdInt, ↓rdAbs, ↓rdMax2, ↓rdMin2, ↓rdOrd, ↓rdTuple, ↓rdList, ↓rdIx, ↓rdAdd, ↓rdSub, ↓rdMul, ↓rdMod, ↓rdDiv, ↓rdPow, ↓rdCmp, ↓rdEq, ↓rdNe, ↓rdIadd, ↓rdIn, ↓rdSorted, ↓rdSl, ↓isT, ↓rdAppend, ↓itemsOf, ↓rvOf, ↓argsOf, ↓argOf, Nat.reduceAdd, Nat.reduceLT, Nat.reduceSub, Int.reduceLT, Int.reduceLE, Int.reduceAdd, Int.reduceEq, Int.reduceNeg, Nat.reduceLeDiff, Nat.zero_add, Nat.reduceEqDiff, Nat.reduceBEq, ix41, ix42, ix43, ix40, List.length_cons, List.length_nil, List.map_cons, List.map_nil, List.replicate, List.cons_append, List.nil_append, List.getElem?_cons_zero, List.getElem?_cons_succ, List.set_cons_zero, List.set_cons_succ, Option.map_some, at0, at1, at2, at3, ix0, ix1, ix2, ix3, sh_int, sh_bl, sh_non, eqv_int, eqv_bl, eqv_str, decide_eq_true_eq, Bool.not_eq_true, Bool.not_true, Bool.not_false, Bool.false_eq_true, true_and, and_true, if_true, if_false, ite_true, ite_false, List.length_map, List.length_set, Sl.isD, List.mem_singleton, List.mem_cons, List.not_mem_nil, not_true_eq_false, not_false_eq_true, or_false]
  refine ⟨⟨by omega, by omega⟩, ?_⟩
  subst hK
  refine seq_i fun Kc hK => ?_
  simp only [↓startE, ↓tdSeq, ↓tdSet, ↓tdSetD, ↓tdDrop, ↓tdRet, ↓tdIfS, ↓tdNext, ↓tdAsg, ↓tdV, ↓tdC, ↓tdBin, ↓tdB, ↓tdCons, ↓tdNil, ↓tdTup, ↓tdLst, ↓tdTest, ↓tdAnd, ↓tdOr, ↓tdNot, ↓tdIf, ↓tdAndV, ↓tdOrV, ↓tdNotV, ↓tdNeg, ↓tdIsN, ↓tdNotN, ↓tdSl, ↓tdPart, ↓tdNoPart, ↓tdM, ↓tdSetIx, ↓tdAug, ↓tdPut, ↓tdGet2, ↓tdIsi, ↓tdListRg, ↓gdName, ↓gdNil, ↓gdCons, ↓gdTup, ↓tdIt, ↓tdRng1, ↓tdRng2, ↓tdCall, ↓tdNew, ↓tdJoin, ↓gcName, ↓gcNil, ↓gcCons, ↓gcTup, ↓tdYes, ↓res, ↓resR, ↓resAll, ↓rvD, ↓rdLen, ↓rdInt, ↓rdAbs, ↓rdMax2, ↓rdMin2, ↓rdOrd, ↓rdTuple, ↓rdList, ↓rdIx, ↓rdAdd, ↓rdSub, ↓rdMul, ↓rdMod, ↓rdDiv, ↓rdPow, ↓rdCmp, ↓rdEq, ↓rdNe, ↓rdIadd, ↓rdIn, ↓rdSorted, ↓rdSl, ↓isT, ↓rdAppend, ↓itemsOf, ↓rvOf, ↓argsOf, ↓argOf, Nat.reduceAdd, Nat.reduceLT, Nat.reduceSub, Int.reduceLT, Int.reduceLE, Int.reduceAdd, Int.reduceEq, Int.reduceNeg, Nat.reduceLeDiff, Nat.zero_add, Nat.reduceEqDiff, Nat.reduceBEq, ix41, ix42, ix43, ix40, List.length_cons, List.length_nil, List.map_cons, List.map_nil, List.replicate, List.cons_append, List.nil_append, List.getElem?_cons_zero, List.getElem?_cons_succ, List.set_cons_zero, List.set_cons_succ, Option.map_some, at0, at1, at2, at3, ix0, ix1, ix2, ix3, sh_int, sh_bl, sh_non, eqv_int, eqv_bl, eqv_str, decide_eq_true_eq, Bool.not_eq_true, Bool.not_true, Bool.not_false, Bool.false_eq_true, true_and, and_true, if_true, if_false, ite_true, ite_false, List.length_map, List.length_set, Sl.isD, List.mem_singleton, List.mem_cons, List.not_mem_nil, not_true_eq_false, not_false_eq_true, or_false]
  subst hK
  refine ⟨by decide, ?_⟩
  refine seq_i fun Kc hK => ?_
  refine ⟨⟨by omega, by omega⟩, fun i env => ∃ (tp : List PyData) (hs ts : List Int) (x : Option Sl), env = [some (.l tp), some (.d (.int m)), some (.l (hs.map .int)), some (.l (ts.map .int)), x] ∧ TapeOk tp ∧ hs.length + i = m ∧ ts.length = i ∧ (∀ n ∈ hs, 0 ≤ n ∧ n < (m : Int)) ∧ ∀ n ∈ ts, 0 ≤ n ∧ n < (m : Int), ?_, fun i x env hx hP => ?_, fun env hP => ?_⟩
  · refine ⟨tp, (List.range m).map fun i => ((i : Nat) : Int), [], none, ?_, ht, by simp, rfl, fun n hn => ?_, fun n hn => by cases hn⟩
    · show _ = _
      unfold rngL
      simp
    · obtain ⟨a, ha, rfl⟩ := List.mem_map.mp hn
      have := List.mem_range.mp ha
      exact ⟨by omega, by omega⟩
  · obtain ⟨tp, hs, ts, x0, rfl, ht, e1, e2, hh, ht2⟩ := hP
    have hi : i < m := by
      have := (List.getElem?_eq_some_iff.mp hx).1
      unfold rngL at this
      simp at this
      omega
    simp only [↓startE, ↓tdSeq, ↓tdSet, ↓tdSetD, ↓tdDrop, ↓tdRet, ↓tdIfS, ↓tdNext, ↓tdAsg, ↓tdV, ↓tdC, ↓tdBin, ↓tdB, ↓tdCons, ↓tdNil, ↓tdTup, ↓tdLst, ↓tdTest, ↓tdAnd, ↓tdOr, ↓tdNot, ↓tdIf, ↓tdAndV, ↓tdOrV, ↓tdNotV, ↓tdNeg, ↓tdIsN, ↓tdNotN, ↓tdSl, ↓tdPart, ↓tdNoPart, ↓tdM, ↓tdSetIx, ↓tdAug, ↓tdPut, ↓tdGet2, ↓tdIsi, ↓tdListRg, ↓gdName, ↓gdNil, ↓gdCons, ↓gdTup, ↓tdIt, ↓tdRng1, ↓tdRng2, ↓tdCall, ↓tdNew, ↓tdJoin, ↓gcName, ↓gcNil, ↓gcCons, ↓gcTup, ↓tdYes, ↓res, ↓resR, ↓resAll, ↓rvD, ↓rdLen, ↓rdInt, ↓rdAbs, ↓rdMax2, ↓rdMin2, ↓rdOrd, ↓rdTuple, ↓rdList, ↓rdIx, ↓rdAdd, ↓rdSub, ↓rdMul, ↓rdMod, ↓rdDiv, ↓rdPow, ↓rdCmp, ↓rdEq, ↓rdNe, ↓rdIadd, ↓rdIn, ↓rdSorted, ↓rdSl, ↓isT, ↓rdAppend, ↓itemsOf, ↓rvOf, ↓argsOf, ↓argOf, Nat.reduceAdd, Nat.reduceLT, Nat.reduceSub, Int.reduceLT, Int.reduceLE, Int.reduceAdd, Int.reduceEq, Int.reduceNeg, Nat.reduceLeDiff, Nat.zero_add, Nat.reduceEqDiff, Nat.reduceBEq, ix41, ix42, ix43, ix40, List.length_cons, List.length_nil, List.map_cons, List.map_nil, List.replicate, List.cons_append, List.nil_append, List.getElem?_cons_zero, List.getElem?_cons_succ, List.set_cons_zero, List.set_cons_succ, Option.map_some, at0, at1, at2, at3, ix0, ix1, ix2, ix3, sh_int, sh_bl, sh_non, eqv_int, eqv_bl, eqv_str, decide_eq_true_eq, Bool.not_eq_true, Bool.not_true, Bool.not_false, Bool.false_eq_true, true_and, and_true, if_true, if_false, ite_true, ite_false, List.length_map, List.length_set, Sl.isD, List.mem_singleton, List.mem_cons, List.not_mem_nil, not_true_eq_false, not_false_eq_true, or_false]
    rw [draw_if]
    refine ⟨by omega, ht, fun r tp' os t1 a b _ => ?_⟩
    have hr := b (by omega)
    simp only [outE_i, ↓startE, ↓tdSeq, ↓tdSet, ↓tdSetD, ↓tdDrop, ↓tdRet, ↓tdIfS, ↓tdNext, ↓tdAsg, ↓tdV, ↓tdC, ↓tdBin, ↓tdB, ↓tdCons, ↓tdNil, ↓tdTup, ↓tdLst, ↓tdTest, ↓tdAnd, ↓tdOr, ↓tdNot, ↓tdIf, ↓tdAndV, ↓tdOrV, ↓tdNotV, ↓tdNeg, ↓tdIsN, ↓tdNotN, ↓tdSl, ↓tdPart, ↓tdNoPart, ↓tdM, ↓tdSetIx, ↓tdAug, ↓tdPut, ↓tdGet2, ↓tdIsi, ↓tdListRg, ↓gdName, ↓gdNil, ↓gdCons, ↓gdTup, ↓tdIt, ↓tdRng1, ↓tdRng2, ↓tdCall, ↓tdNew, ↓tdJoin, ↓gcName, ↓gcNil, ↓gcCons, ↓gcTup, ↓tdYes, ↓res, ↓resR, ↓resAll, ↓rvD, ↓rdLen, ↓rdInt, ↓rdAbs, ↓rdMax2, ↓rdMin2, ↓rdOrd, ↓rdTuple, ↓rdList, ↓rdIx, ↓rdAdd, ↓rdSub, ↓rdMul, ↓rdMod, ↓rdDiv, ↓rdPow, ↓rdCmp, ↓rdEq, ↓rdNe, ↓rdIadd, ↓rdIn, ↓rdSorted, ↓rdSl, ↓isT, ↓rdAppend, ↓itemsOf, ↓rvOf, ↓argsOf, ↓argOf, Nat.reduceAdd, Nat.reduceLT, Nat.reduceSub, Int.reduceLT, Int.reduceLE, Int.reduceAdd, Int.reduceEq, Int.reduceNeg, Nat.reduceLeDiff, Nat.zero_add, Nat.reduceEqDiff, Nat.reduceBEq, ix41, ix42, ix43, ix40, List.length_cons, List.length_nil, List.map_cons, List.map_nil, List.replicate, List.cons_append, List.nil_append, List.getElem?_cons_zero, List.getElem?_cons_succ, List.set_cons_zero, List.set_cons_succ, Option.map_some, at0, at1, at2, at3, ix0, ix1, ix2, ix3, sh_int, sh_bl, sh_non, eqv_int, eqv_bl, eqv_str, decide_eq_true_eq, Bool.not_eq_true, Bool.not_true, Bool.not_false, Bool.false_eq_true, true_and, and_true, if_true, if_false, ite_true, ite_false, List.length_map, List.length_set, Sl.isD, List.mem_singleton, List.mem_cons, List.not_mem_nil, not_true_eq_false, not_false_eq_true, or_false]
    refine popAt a (by rw [List.length_map]; exact hr) (by rw [List.length_map]; exact Nat.le_trans (by omega) (show 1000 ≤ sizeLine by decide)) fun j y ej hj => ?_
    rw [List.getElem?_map] at hj
    obtain ⟨n, hn, rfl⟩ := Option.map_eq_some_iff.mp hj
    refine ⟨Nat.lt_of_lt_of_le (show ts.length < 1001 by omega) (by decide), tp', hs.eraseIdx j, ts ++ [n], some (.d x), ?_, t1, ?_, by simp [e2], fun n hn => hh n (List.mem_of_mem_eraseIdx hn), fun n' hn' => ?_⟩
    · have ee : (hs.map PyData.int).eraseIdx j = (hs.eraseIdx j).map PyData.int := by
        rw [List.eraseIdx_eq_take_drop_succ, List.eraseIdx_eq_take_drop_succ, List.map_append, List.map_take, List.map_drop]
      rw [List.map_append, ee]; rfl
    · rw [List.length_eraseIdx, if_pos (by omega)]; omega
    · rcases List.mem_append.mp hn' with q | q
      · exact ht2 n' q
      · rw [List.mem_singleton.mp q]; exact hh n (List.mem_of_getElem? hn)
  · obtain ⟨tp, hs, ts, x0, rfl, ht, e1, e2, hh, ht2⟩ := hP
    subst hK
    simp only [↓draw_if, outE_i, ↓startE, ↓tdSeq, ↓tdSet, ↓tdSetD, ↓tdDrop, ↓tdRet, ↓tdIfS, ↓tdNext, ↓tdAsg, ↓tdV, ↓tdC, ↓tdBin, ↓tdB, ↓tdCons, ↓tdNil, ↓tdTup, ↓tdLst, ↓tdTest, ↓tdAnd, ↓tdOr, ↓tdNot, ↓tdIf, ↓tdAndV, ↓tdOrV, ↓tdNotV, ↓tdNeg, ↓tdIsN, ↓tdNotN, ↓tdSl, ↓tdPart, ↓tdNoPart, ↓tdM, ↓tdSetIx, ↓tdAug, ↓tdPut, ↓tdGet2, ↓tdIsi, ↓tdListRg, ↓gdName, ↓gdNil, ↓gdCons, ↓gdTup, ↓tdIt, ↓tdRng1, ↓tdRng2, ↓tdCall, ↓tdNew, ↓tdJoin, ↓gcName, ↓gcNil, ↓gcCons, ↓gcTup, ↓tdYes, ↓res, ↓resR, ↓resAll, ↓rvD, ↓rdLen, ↓rdInt, ↓rdAbs, ↓rdMax2, ↓rdMin2, ↓rdOrd, ↓rdTuple, ↓rdList, ↓rdIx, ↓rdAdd, ↓rdSub, ↓rdMul, ↓rdMod, ↓rdDiv, ↓rdPow, ↓rdCmp, ↓rdEq, ↓rdNe, ↓rdIadd, ↓rdIn, ↓rdSorted, ↓rdSl, ↓isT, ↓rdAppend, ↓itemsOf, ↓rvOf, ↓argsOf, ↓argOf, Nat.reduceAdd, Nat.reduceLT, Nat.reduceSub, Int.reduceLT, Int.reduceLE, Int.reduceAdd, Int.reduceEq, Int.reduceNeg, Nat.reduceLeDiff, Nat.zero_add, Nat.reduceEqDiff, Nat.reduceBEq, ix41, ix42, ix43, ix40, List.length_cons, List.length_nil, List.map_cons, List.map_nil, List.replicate, List.cons_append, List.nil_append, List.getElem?_cons_zero, List.getElem?_cons_succ, List.set_cons_zero, List.set_cons_succ, Option.map_some, at0, at1, at2, at3, ix0, ix1, ix2, ix3, sh_int, sh_bl, sh_non, eqv_int, eqv_bl, eqv_str, decide_eq_true_eq, Bool.not_eq_true, Bool.not_true, Bool.not_false, Bool.false_eq_true, true_and, and_true, if_true, if_false, ite_true, ite_false, List.length_map, List.length_set, Sl.isD, List.mem_singleton, List.mem_cons, List.not_mem_nil, not_true_eq_false, not_false_eq_true, or_false]
    refine ⟨by decide, by decide, ht, fun r tp' os t1 a b _ => ?_⟩
    have hr := b (by decide)
    have fin : ∀ z : Int, Q (.l (cutL (ts.map .int) none (some z))) (osOf [some (.l tp'), some (.d (.int m)), some (.l (hs.map .int)), some (.l (ts.map .int)), x0]) := fun z => by
      have := k (((ts.drop (HT.sIx ts.length 0 none)).take (HT.sIx ts.length ts.length (some z) - HT.sIx ts.length 0 none))) tp' (osOf [some (.l tp'), some (.d (.int m)), some (.l (hs.map .int)), some (.l (ts.map .int)), x0]) (fun n hn => ht2 n (List.mem_of_mem_drop (List.mem_of_mem_take hn))) t1 rfl
      unfold cutL
      rwa [List.length_map, ← List.map_drop, ← List.map_take]
    rcases (show r = 0 ∨ r = 1 ∨ r = 2 by omega) with rfl | rfl | rfl
    · simp only [↓startE, ↓tdSeq, ↓tdSet, ↓tdSetD, ↓tdDrop, ↓tdRet, ↓tdIfS, ↓tdNext, ↓tdAsg, ↓tdV, ↓tdC, ↓tdBin, ↓tdB, ↓tdCons, ↓tdNil, ↓tdTup, ↓tdLst, ↓tdTest, ↓tdAnd, ↓tdOr, ↓tdNot, ↓tdIf, ↓tdAndV, ↓tdOrV, ↓tdNotV, ↓tdNeg, ↓tdIsN, ↓tdNotN, ↓tdSl, ↓tdPart, ↓tdNoPart, ↓tdM, ↓tdSetIx, ↓tdAug, ↓tdPut, ↓tdGet2, ↓tdIsi, ↓tdListRg, ↓gdName, ↓gdNil, ↓gdCons, ↓gdTup, ↓tdIt, ↓tdRng1, ↓tdRng2, ↓tdCall, ↓tdNew, ↓tdJoin, ↓gcName, ↓gcNil, ↓gcCons, ↓gcTup, ↓tdYes, ↓res, ↓resR, ↓resAll, ↓rvD, ↓rdLen, ↓rdInt, ↓rdAbs, ↓rdMax2, ↓rdMin2, ↓rdOrd, ↓rdTuple, ↓rdList, ↓rdIx, ↓rdAdd, ↓rdSub, ↓rdMul, ↓rdMod, ↓rdDiv, ↓rdPow, ↓rdCmp, ↓rdEq, ↓rdNe, ↓rdIadd, ↓rdIn, ↓rdSorted, ↓rdSl, ↓isT, ↓rdAppend, ↓itemsOf, ↓rvOf, ↓argsOf, ↓argOf, Nat.reduceAdd, Nat.reduceLT, Nat.reduceSub, Int.reduceLT, Int.reduceLE, Int.reduceAdd, Int.reduceEq, Int.reduceNeg, Nat.reduceLeDiff, Nat.zero_add, Nat.reduceEqDiff, Nat.reduceBEq, ix41, ix42, ix43, ix40, List.length_cons, List.length_nil, List.map_cons, List.map_nil, List.replicate, List.cons_append, List.nil_append, List.getElem?_cons_zero, List.getElem?_cons_succ, List.set_cons_zero, List.set_cons_succ, Option.map_some, at0, at1, at2, at3, ix0, ix1, ix2, ix3, sh_int, sh_bl, sh_non, eqv_int, eqv_bl, eqv_str, decide_eq_true_eq, Bool.not_eq_true, Bool.not_true, Bool.not_false, Bool.false_eq_true, true_and, and_true, if_true, if_false, ite_true, ite_false, List.length_map, List.length_set, Sl.isD, List.mem_singleton, List.mem_cons, List.not_mem_nil, not_true_eq_false, not_false_eq_true, or_false]; exact fin _
    · simp only [↓startE, ↓tdSeq, ↓tdSet, ↓tdSetD, ↓tdDrop, ↓tdRet, ↓tdIfS, ↓tdNext, ↓tdAsg, ↓tdV, ↓tdC, ↓tdBin, ↓tdB, ↓tdCons, ↓tdNil, ↓tdTup, ↓tdLst, ↓tdTest, ↓tdAnd, ↓tdOr, ↓tdNot, ↓tdIf, ↓tdAndV, ↓tdOrV, ↓tdNotV, ↓tdNeg, ↓tdIsN, ↓tdNotN, ↓tdSl, ↓tdPart, ↓tdNoPart, ↓tdM, ↓tdSetIx, ↓tdAug, ↓tdPut, ↓tdGet2, ↓tdIsi, ↓tdListRg, ↓gdName, ↓gdNil, ↓gdCons, ↓gdTup, ↓tdIt, ↓tdRng1, ↓tdRng2, ↓tdCall, ↓tdNew, ↓tdJoin, ↓gcName, ↓gcNil, ↓gcCons, ↓gcTup, ↓tdYes, ↓res, ↓resR, ↓resAll, ↓rvD, ↓rdLen, ↓rdInt, ↓rdAbs, ↓rdMax2, ↓rdMin2, ↓rdOrd, ↓rdTuple, ↓rdList, ↓rdIx, ↓rdAdd, ↓rdSub, ↓rdMul, ↓rdMod, ↓rdDiv, ↓rdPow, ↓rdCmp, ↓rdEq, ↓rdNe, ↓rdIadd, ↓rdIn, ↓rdSorted, ↓rdSl, ↓isT, ↓rdAppend, ↓itemsOf, ↓rvOf, ↓argsOf, ↓argOf, Nat.reduceAdd, Nat.reduceLT, Nat.reduceSub, Int.reduceLT, Int.reduceLE, Int.reduceAdd, Int.reduceEq, Int.reduceNeg, Nat.reduceLeDiff, Nat.zero_add, Nat.reduceEqDiff, Nat.reduceBEq, ix41, ix42, ix43, ix40, List.length_cons, List.length_nil, List.map_cons, List.map_nil, List.replicate, List.cons_append, List.nil_append, List.getElem?_cons_zero, List.getElem?_cons_succ, List.set_cons_zero, List.set_cons_succ, Option.map_some, at0, at1, at2, at3, ix0, ix1, ix2, ix3, sh_int, sh_bl, sh_non, eqv_int, eqv_bl, eqv_str, decide_eq_true_eq, Bool.not_eq_true, Bool.not_true, Bool.not_false, Bool.false_eq_true, true_and, and_true, if_true, if_false, ite_true, ite_false, List.length_map, List.length_set, Sl.isD, List.mem_singleton, List.mem_cons, List.not_mem_nil, not_true_eq_false, not_false_eq_true, or_false]; exact fin _
    · simp only [↓startE, ↓tdSeq, ↓tdSet, ↓tdSetD, ↓tdDrop, ↓tdRet, ↓tdIfS, ↓tdNext, ↓tdAsg, ↓tdV, ↓tdC, ↓tdBin, ↓tdB, ↓tdCons, ↓tdNil, ↓tdTup, ↓tdLst, ↓tdTest, ↓tdAnd, ↓tdOr, ↓tdNot, ↓tdIf, ↓tdAndV, ↓tdOrV, ↓tdNotV, ↓tdNeg, ↓tdIsN, ↓tdNotN, ↓tdSl, ↓tdPart, ↓tdNoPart, ↓tdM, ↓tdSetIx, ↓tdAug, ↓tdPut, ↓tdGet2, ↓tdIsi, ↓tdListRg, ↓gdName, ↓gdNil, ↓gdCons, ↓gdTup, ↓tdIt, ↓tdRng1, ↓tdRng2, ↓tdCall, ↓tdNew, ↓tdJoin, ↓gcName, ↓gcNil, ↓gcCons, ↓gcTup, ↓tdYes, ↓res, ↓resR, ↓resAll, ↓rvD, ↓rdLen, ↓rdInt, ↓rdAbs, ↓rdMax2, ↓rdMin2, ↓rdOrd, ↓rdTuple, ↓rdList, ↓rdIx, ↓rdAdd, ↓rdSub, ↓rdMul, ↓rdMod, ↓rdDiv, ↓rdPow, ↓rdCmp, ↓rdEq, ↓rdNe, ↓rdIadd, ↓rdIn, ↓rdSorted, ↓rdSl, ↓isT, ↓rdAppend, ↓itemsOf, ↓rvOf, ↓argsOf, ↓argOf, Nat.reduceAdd, Nat.reduceLT, Nat.reduceSub, Int.reduceLT, Int.reduceLE, Int.reduceAdd, Int.reduceEq, Int.reduceNeg, Nat.reduceLeDiff, Nat.zero_add, Nat.reduceEqDiff, Nat.reduceBEq, ix41, ix42, ix43, ix40, List.length_cons, List.length_nil, List.map_cons, List.map_nil, List.replicate, List.cons_append, List.nil_append, List.getElem?_cons_zero, List.getElem?_cons_succ, List.set_cons_zero, List.set_cons_succ, Option.map_some, at0, at1, at2, at3, ix0, ix1, ix2, ix3, sh_int, sh_bl, sh_non, eqv_int, eqv_bl, eqv_str, decide_eq_true_eq, Bool.not_eq_true, Bool.not_true, Bool.not_false, Bool.false_eq_true, true_and, and_true, if_true, if_false, ite_true, ite_false, List.length_map, List.length_set, Sl.isD, List.mem_singleton, List.mem_cons, List.not_mem_nil, not_true_eq_false, not_false_eq_true, or_false]; exact fin _
/-! ### the law's own test of two values -/
def sameB : Nat → PyData → Bool
  | _, .none => true
  | _, .bool _ => true
  | _, .int _ => true
  | _, .str z => z.cps.all (· < 0x110000)
  | d + 1, .tuple xs => decide (xs.length ≤ sizeLine) && xs.all (sameB d)
  | _, _ => false
def spSameD : Nat → FD
  | 0 => fun _ _ => False
  | d + 1 => fun args Q => ∃ x, args = [.d x, .d x] ∧ sameB d x = true ∧ ∀ os, Q (.d (.bool true)) os
def rSame (sp_law_same : FD) : TDS := (tdSeq (tdIfS (tdTest (tdIsi "tuple" (tdV 1))) (tdSeq (tdIfS (tdOr (tdNot (tdTest (tdIsi "tuple" (tdV 0)))) (tdTest (tdBin rdNe (tdB rdLen (tdCons (tdV 0) tdNil)) (tdB rdLen (tdCons (tdV 1) tdNil))))) (tdRet ([], []) (tdC (.bool false))) tdNext)
  (tdSeq (tdFor (tdRng1 (tdCons (tdB rdLen (tdCons (tdV 1) tdNil)) tdNil)) (gdName 2) (tdIfS (tdNot (tdTest (tdCall ([], []) 2 sp_law_same (tdCons (tdBin rdIx (tdV 0) (tdV 2)) (tdCons (tdBin rdIx (tdV 1) (tdV 2)) tdNil))))) (tdRet ([], []) (tdC (.bool false))) tdNext))
  (tdRet ([], []) (tdC (.bool true))))) tdNext)
  (tdSeq (tdIfS (tdOr (tdTest (tdIsN (tdV 1))) (tdTest (tdIsN (tdV 0)))) (tdRet ([], []) (tdAndV (tdIsN (tdV 1)) (tdIsN (tdV 0)))) tdNext)
  (tdSeq (tdIfS (tdTest (tdIsi "str" (tdV 1))) (tdRet ([], []) (tdAndV (tdIsi "str" (tdV 0)) (tdBin rdEq (tdV 0) (tdV 1)))) tdNext)
  (tdSeq (tdIfS (tdOr (tdTest (tdBin rdNe (tdIsi "bool" (tdV 0)) (tdIsi "bool" (tdV 1)))) (tdNot (tdTest (tdIsi "int" (tdV 0))))) (tdRet ([], []) (tdC (.bool false))) tdNext)
  (tdRet ([], []) (tdBin rdEq (tdV 0) (tdV 1)))))))
theorem hSame (j : Nat) (args : List Sl) (Q : Sl → (Nat → Option Sl) → Prop) (hl : args.length = 2) (h : spSameD (j + 1) args Q) : rSame (spSameD j) { nx := fun env => Q (.d .none) (osOf env), rt := fun r env => Q r (osOf env) } (startE 3 args) := by
  obtain ⟨x, rfl, hx, k⟩ := h
  unfold rSame
  cases x with
  | none => simp only [↓startE, ↓tdSeq, ↓tdSet, ↓tdSetD, ↓tdDrop, ↓tdRet, ↓tdIfS, ↓tdNext, ↓tdAsg, ↓tdV, ↓tdC, ↓tdBin, ↓tdB, ↓tdCons, ↓tdNil, ↓tdTup, ↓tdLst, ↓tdTest, ↓tdAnd, ↓tdOr, ↓tdNot, ↓tdIf, ↓tdAndV, ↓tdOrV, ↓tdNotV, ↓tdNeg, ↓tdIsN, ↓tdNotN, ↓tdSl, ↓tdPart, ↓tdNoPart, ↓tdM, ↓tdSetIx, ↓tdAug, ↓tdPut, ↓tdGet2, ↓tdIsi, ↓tdListRg, ↓gdName, ↓gdNil, ↓gdCons, ↓gdTup, ↓tdIt, ↓tdRng1, ↓tdRng2, ↓tdCall, ↓tdNew, ↓tdJoin, ↓gcName, ↓gcNil, ↓gcCons, ↓gcTup, ↓tdYes, ↓res, ↓resR, ↓resAll, ↓rvD, ↓rdLen, ↓rdInt, ↓rdAbs, ↓rdMax2, ↓rdMin2, ↓rdOrd, ↓rdTuple, ↓rdList, ↓rdIx, ↓rdAdd, ↓rdSub, ↓rdMul, ↓rdMod, ↓rdDiv, ↓rdPow, ↓rdCmp, ↓rdEq, ↓rdNe, ↓rdIadd, ↓rdIn, ↓rdSorted, ↓rdSl, ↓isT, ↓rdAppend, ↓itemsOf, ↓rvOf, ↓argsOf, ↓argOf, Nat.reduceAdd, Nat.reduceLT, Nat.reduceSub, Int.reduceLT, Int.reduceLE, Int.reduceAdd, Int.reduceEq, Int.reduceNeg, Nat.reduceLeDiff, Nat.zero_add, Nat.reduceEqDiff, Nat.reduceBEq, ix41, ix42, ix43, ix40, List.length_cons, List.length_nil, List.map_cons, List.map_nil, List.replicate, List.cons_append, List.nil_append, List.getElem?_cons_zero, List.getElem?_cons_succ, List.set_cons_zero, List.set_cons_succ, Option.map_some, at0, at1, at2, at3, ix0, ix1, ix2, ix3, sh_int, sh_bl, sh_non, eqv_int, eqv_bl, eqv_str, decide_eq_true_eq, Bool.not_eq_true, Bool.not_true, Bool.not_false, Bool.false_eq_true, true_and, and_true, if_true, if_false, ite_true, ite_false, List.length_map, List.length_set, Sl.isD, List.mem_singleton, List.mem_cons, List.not_mem_nil, not_true_eq_false, not_false_eq_true, or_false]; exact k _
  | bool b => cases b <;> (simp (config := { decide := true }) only [↓startE, ↓tdSeq, ↓tdSet, ↓tdSetD, ↓tdDrop, ↓tdRet, ↓tdIfS, ↓tdNext, ↓tdAsg, ↓tdV, ↓tdC, ↓tdBin, ↓tdB, ↓tdCons, ↓tdNil, ↓tdTup, ↓tdLst, ↓tdTest, ↓tdAnd, ↓tdOr, ↓tdNot, ↓tdIf, ↓tdAndV, ↓tdOrV, ↓tdNotV, ↓tdNeg, ↓tdIsN, ↓tdNotN, ↓tdSl, ↓tdPart, ↓tdNoPart, ↓tdM, ↓tdSetIx, ↓tdAug, ↓tdPut, ↓tdGet2, ↓tdIsi, ↓tdListRg, ↓gdName, ↓gdNil, ↓gdCons, ↓gdTup, ↓tdIt, ↓tdRng1, ↓tdRng2, ↓tdCall, ↓tdNew, ↓tdJoin, ↓gcName, ↓gcNil, ↓gcCons, ↓gcTup, ↓tdYes, ↓res, ↓resR, ↓resAll, ↓rvD, ↓rdLen, ↓rdInt, ↓rdAbs, ↓rdMax2, ↓rdMin2, ↓rdOrd, ↓rdTuple, ↓rdList, ↓rdIx, ↓rdAdd, ↓rdSub, ↓rdMul, ↓rdMod, ↓rdDiv, ↓rdPow, ↓rdCmp, ↓rdEq, ↓rdNe, ↓rdIadd, ↓rdIn, ↓rdSorted, ↓rdSl, ↓isT, ↓rdAppend, ↓itemsOf, ↓rvOf, ↓argsOf, ↓argOf, Nat.reduceAdd, Nat.reduceLT, Nat.reduceSub, Int.reduceLT, Int.reduceLE, Int.reduceAdd, Int.reduceEq, Int.reduceNeg, Nat.reduceLeDiff, Nat.zero_add, Nat.reduceEqDiff, Nat.reduceBEq, ix41, ix42, ix43, ix40, List.length_cons, List.length_nil, List.map_cons, List.map_nil, List.replicate, List.cons_append, List.nil_append, List.getElem?_cons_zero, List.getElem?_cons_succ, List.set_cons_zero, List.set_cons_succ, Option.map_some, at0, at1, at2, at3, ix0, ix1, ix2, ix3, sh_int, sh_bl, sh_non, eqv_int, eqv_bl, eqv_str, decide_eq_true_eq, Bool.not_eq_true, Bool.not_true, Bool.not_false, Bool.false_eq_true, true_and, and_true, if_true, if_false, ite_true, ite_false, List.length_map, List.length_set, Sl.isD, List.mem_singleton, List.mem_cons, List.not_mem_nil, not_true_eq_false, not_false_eq_true, or_false]; exact k _)
  | int i => simp (config := { decide := true }) only [↓startE, ↓tdSeq, ↓tdSet, ↓tdSetD, ↓tdDrop, ↓tdRet, ↓tdIfS, ↓tdNext, ↓tdAsg, ↓tdV, ↓tdC, ↓tdBin, ↓tdB, ↓tdCons, ↓tdNil, ↓tdTup, ↓tdLst, ↓tdTest, ↓tdAnd, ↓tdOr, ↓tdNot, ↓tdIf, ↓tdAndV, ↓tdOrV, ↓tdNotV, ↓tdNeg, ↓tdIsN, ↓tdNotN, ↓tdSl, ↓tdPart, ↓tdNoPart, ↓tdM, ↓tdSetIx, ↓tdAug, ↓tdPut, ↓tdGet2, ↓tdIsi, ↓tdListRg, ↓gdName, ↓gdNil, ↓gdCons, ↓gdTup, ↓tdIt, ↓tdRng1, ↓tdRng2, ↓tdCall, ↓tdNew, ↓tdJoin, ↓gcName, ↓gcNil, ↓gcCons, ↓gcTup, ↓tdYes, ↓res, ↓resR, ↓resAll, ↓rvD, ↓rdLen, ↓rdInt, ↓rdAbs, ↓rdMax2, ↓rdMin2, ↓rdOrd, ↓rdTuple, ↓rdList, ↓rdIx, ↓rdAdd, ↓rdSub, ↓rdMul, ↓rdMod, ↓rdDiv, ↓rdPow, ↓rdCmp, ↓rdEq, ↓rdNe, ↓rdIadd, ↓rdIn, ↓rdSorted, ↓rdSl, ↓isT, ↓rdAppend, ↓itemsOf, ↓rvOf, ↓argsOf, ↓argOf, Nat.reduceAdd, Nat.reduceLT, Nat.reduceSub, Int.reduceLT, Int.reduceLE, Int.reduceAdd, Int.reduceEq, Int.reduceNeg, Nat.reduceLeDiff, Nat.zero_add, Nat.reduceEqDiff, Nat.reduceBEq, ix41, ix42, ix43, ix40, List.length_cons, List.length_nil, List.map_cons, List.map_nil, List.replicate, List.cons_append, List.nil_append, List.getElem?_cons_zero, List.getElem?_cons_succ, List.set_cons_zero, List.set_cons_succ, Option.map_some, at0, at1, at2, at3, ix0, ix1, ix2, ix3, sh_int, sh_bl, sh_non, eqv_int, eqv_bl, eqv_str, decide_eq_true_eq, Bool.not_eq_true, Bool.not_true, Bool.not_false, Bool.false_eq_true, true_and, and_true, if_true, if_false, ite_true, ite_false, List.length_map, List.length_set, Sl.isD, List.mem_singleton, List.mem_cons, List.not_mem_nil, not_true_eq_false, not_false_eq_true, or_false]; exact k _
  | str z =>
    have hz : SeqAt.shaped (.str z) = true := by
      simp only [SeqAt.shaped, PyData.canLay0, PyData.depth, Bool.and_eq_true]
      exact ⟨by cases j <;> exact hx, decide_eq_true (Nat.zero_le _)⟩
    simp (config := { decide := true }) only [hz, ↓startE, ↓tdSeq, ↓tdSet, ↓tdSetD, ↓tdDrop, ↓tdRet, ↓tdIfS, ↓tdNext, ↓tdAsg, ↓tdV, ↓tdC, ↓tdBin, ↓tdB, ↓tdCons, ↓tdNil, ↓tdTup, ↓tdLst, ↓tdTest, ↓tdAnd, ↓tdOr, ↓tdNot, ↓tdIf, ↓tdAndV, ↓tdOrV, ↓tdNotV, ↓tdNeg, ↓tdIsN, ↓tdNotN, ↓tdSl, ↓tdPart, ↓tdNoPart, ↓tdM, ↓tdSetIx, ↓tdAug, ↓tdPut, ↓tdGet2, ↓tdIsi, ↓tdListRg, ↓gdName, ↓gdNil, ↓gdCons, ↓gdTup, ↓tdIt, ↓tdRng1, ↓tdRng2, ↓tdCall, ↓tdNew, ↓tdJoin, ↓gcName, ↓gcNil, ↓gcCons, ↓gcTup, ↓tdYes, ↓res, ↓resR, ↓resAll, ↓rvD, ↓rdLen, ↓rdInt, ↓rdAbs, ↓rdMax2, ↓rdMin2, ↓rdOrd, ↓rdTuple, ↓rdList, ↓rdIx, ↓rdAdd, ↓rdSub, ↓rdMul, ↓rdMod, ↓rdDiv, ↓rdPow, ↓rdCmp, ↓rdEq, ↓rdNe, ↓rdIadd, ↓rdIn, ↓rdSorted, ↓rdSl, ↓isT, ↓rdAppend, ↓itemsOf, ↓rvOf, ↓argsOf, ↓argOf, Nat.reduceAdd, Nat.reduceLT, Nat.reduceSub, Int.reduceLT, Int.reduceLE, Int.reduceAdd, Int.reduceEq, Int.reduceNeg, Nat.reduceLeDiff, Nat.zero_add, Nat.reduceEqDiff, Nat.reduceBEq, ix41, ix42, ix43, ix40, List.length_cons, List.length_nil, List.map_cons, List.map_nil, List.replicate, List.cons_append, List.nil_append, List.getElem?_cons_zero, List.getElem?_cons_succ, List.set_cons_zero, List.set_cons_succ, Option.map_some, at0, at1, at2, at3, ix0, ix1, ix2, ix3, sh_int, sh_bl, sh_non, eqv_int, eqv_bl, eqv_str, decide_eq_true_eq, Bool.not_eq_true, Bool.not_true, Bool.not_false, Bool.false_eq_true, true_and, and_true, if_true, if_false, ite_true, ite_false, List.length_map, List.length_set, Sl.isD, List.mem_singleton, List.mem_cons, List.not_mem_nil, not_true_eq_false, not_false_eq_true, or_false]; exact k _
  | tuple xs =>
    refine seq_i fun Kc hK => ?_
    cases j with
    | zero => cases hx
    | succ j =>
    obtain ⟨hz, ha⟩ := Bool.and_eq_true_iff.mp (show (decide (xs.length ≤ sizeLine) && xs.all (sameB j)) = true from hx)
    have hz2 : xs.length ≤ 2 ^ 24 := of_decide_eq_true hz
    have hall := List.all_eq_true.mp ha
    simp (config := { decide := true }) only [↓startE, ↓tdSeq, ↓tdSet, ↓tdSetD, ↓tdDrop, ↓tdRet, ↓tdIfS, ↓tdNext, ↓tdAsg, ↓tdV, ↓tdC, ↓tdBin, ↓tdB, ↓tdCons, ↓tdNil, ↓tdTup, ↓tdLst, ↓tdTest, ↓tdAnd, ↓tdOr, ↓tdNot, ↓tdIf, ↓tdAndV, ↓tdOrV, ↓tdNotV, ↓tdNeg, ↓tdIsN, ↓tdNotN, ↓tdSl, ↓tdPart, ↓tdNoPart, ↓tdM, ↓tdSetIx, ↓tdAug, ↓tdPut, ↓tdGet2, ↓tdIsi, ↓tdListRg, ↓gdName, ↓gdNil, ↓gdCons, ↓gdTup, ↓tdIt, ↓tdRng1, ↓tdRng2, ↓tdCall, ↓tdNew, ↓tdJoin, ↓gcName, ↓gcNil, ↓gcCons, ↓gcTup, ↓tdYes, ↓res, ↓resR, ↓resAll, ↓rvD, ↓rdLen, ↓rdInt, ↓rdAbs, ↓rdMax2, ↓rdMin2, ↓rdOrd, ↓rdTuple, ↓rdList, ↓rdIx, ↓rdAdd, ↓rdSub, ↓rdMul, ↓rdMod, ↓rdDiv, ↓rdPow, ↓rdCmp, ↓rdEq, ↓rdNe, ↓rdIadd, ↓rdIn, ↓rdSorted, ↓rdSl, ↓isT, ↓rdAppend, ↓itemsOf, ↓rvOf, ↓argsOf, ↓argOf, Nat.reduceAdd, Nat.reduceLT, Nat.reduceSub, Int.reduceLT, Int.reduceLE, Int.reduceAdd, Int.reduceEq, Int.reduceNeg, Nat.reduceLeDiff, Nat.zero_add, Nat.reduceEqDiff, Nat.reduceBEq, ix41, ix42, ix43, ix40, List.length_cons, List.length_nil, List.map_cons, List.map_nil, List.replicate, List.cons_append, List.nil_append, List.getElem?_cons_zero, List.getElem?_cons_succ, List.set_cons_zero, List.set_cons_succ, Option.map_some, at0, at1, at2, at3, ix0, ix1, ix2, ix3, sh_int, sh_bl, sh_non, eqv_int, eqv_bl, eqv_str, decide_eq_true_eq, Bool.not_eq_true, Bool.not_true, Bool.not_false, Bool.false_eq_true, true_and, and_true, if_true, if_false, ite_true, ite_false, List.length_map, List.length_set, Sl.isD, List.mem_singleton, List.mem_cons, List.not_mem_nil, not_true_eq_false, not_false_eq_true, or_false]
    refine ⟨⟨by omega, by omega⟩, fun i env => ∃ x : Option Sl, env = [some (.d (.tuple xs)), some (.d (.tuple xs)), x], ⟨_, rfl⟩, fun i x env hx2 hP => ?_, fun env hP => ?_⟩
    · obtain ⟨x0, rfl⟩ := hP
      unfold rngL at hx2
      rw [List.getElem?_map] at hx2
      obtain ⟨a, ha2, rfl⟩ := Option.map_eq_some_iff.mp hx2
      obtain ⟨h1, h2⟩ := List.getElem?_eq_some_iff.mp ha2
      rw [List.getElem_range] at h2
      subst h2
      rw [List.length_range] at h1
      have hi : i < xs.length := by omega
      have ez : (0 : Int) + (i : Nat) = (i : Nat) := by omega
      rw [ez]
      have e1 : atI xs (i : Int) = some xs[i] := atI_nat (List.getElem?_eq_getElem hi)
      simp only [e1, outE_n, ↓startE, ↓tdSeq, ↓tdSet, ↓tdSetD, ↓tdDrop, ↓tdRet, ↓tdIfS, ↓tdNext, ↓tdAsg, ↓tdV, ↓tdC, ↓tdBin, ↓tdB, ↓tdCons, ↓tdNil, ↓tdTup, ↓tdLst, ↓tdTest, ↓tdAnd, ↓tdOr, ↓tdNot, ↓tdIf, ↓tdAndV, ↓tdOrV, ↓tdNotV, ↓tdNeg, ↓tdIsN, ↓tdNotN, ↓tdSl, ↓tdPart, ↓tdNoPart, ↓tdM, ↓tdSetIx, ↓tdAug, ↓tdPut, ↓tdGet2, ↓tdIsi, ↓tdListRg, ↓gdName, ↓gdNil, ↓gdCons, ↓gdTup, ↓tdIt, ↓tdRng1, ↓tdRng2, ↓tdCall, ↓tdNew, ↓tdJoin, ↓gcName, ↓gcNil, ↓gcCons, ↓gcTup, ↓tdYes, ↓res, ↓resR, ↓resAll, ↓rvD, ↓rdLen, ↓rdInt, ↓rdAbs, ↓rdMax2, ↓rdMin2, ↓rdOrd, ↓rdTuple, ↓rdList, ↓rdIx, ↓rdAdd, ↓rdSub, ↓rdMul, ↓rdMod, ↓rdDiv, ↓rdPow, ↓rdCmp, ↓rdEq, ↓rdNe, ↓rdIadd, ↓rdIn, ↓rdSorted, ↓rdSl, ↓isT, ↓rdAppend, ↓itemsOf, ↓rvOf, ↓argsOf, ↓argOf, Nat.reduceAdd, Nat.reduceLT, Nat.reduceSub, Int.reduceLT, Int.reduceLE, Int.reduceAdd, Int.reduceEq, Int.reduceNeg, Nat.reduceLeDiff, Nat.zero_add, Nat.reduceEqDiff, Nat.reduceBEq, ix41, ix42, ix43, ix40, List.length_cons, List.length_nil, List.map_cons, List.map_nil, List.replicate, List.cons_append, List.nil_append, List.getElem?_cons_zero, List.getElem?_cons_succ, List.set_cons_zero, List.set_cons_succ, Option.map_some, at0, at1, at2, at3, ix0, ix1, ix2, ix3, sh_int, sh_bl, sh_non, eqv_int, eqv_bl, eqv_str, decide_eq_true_eq, Bool.not_eq_true, Bool.not_true, Bool.not_false, Bool.false_eq_true, true_and, and_true, if_true, if_false, ite_true, ite_false, List.length_map, List.length_set, Sl.isD, List.mem_singleton, List.mem_cons, List.not_mem_nil, not_true_eq_false, not_false_eq_true, or_false]
      exact ⟨xs[i], rfl, hall _ (List.getElem_mem hi), fun os => ⟨_, rfl⟩⟩
    · obtain ⟨x0, rfl⟩ := hP
      simp only [↓startE, ↓tdSeq, ↓tdSet, ↓tdSetD, ↓tdDrop, ↓tdRet, ↓tdIfS, ↓tdNext, ↓tdAsg, ↓tdV, ↓tdC, ↓tdBin, ↓tdB, ↓tdCons, ↓tdNil, ↓tdTup, ↓tdLst, ↓tdTest, ↓tdAnd, ↓tdOr, ↓tdNot, ↓tdIf, ↓tdAndV, ↓tdOrV, ↓tdNotV, ↓tdNeg, ↓tdIsN, ↓tdNotN, ↓tdSl, ↓tdPart, ↓tdNoPart, ↓tdM, ↓tdSetIx, ↓tdAug, ↓tdPut, ↓tdGet2, ↓tdIsi, ↓tdListRg, ↓gdName, ↓gdNil, ↓gdCons, ↓gdTup, ↓tdIt, ↓tdRng1, ↓tdRng2, ↓tdCall, ↓tdNew, ↓tdJoin, ↓gcName, ↓gcNil, ↓gcCons, ↓gcTup, ↓tdYes, ↓res, ↓resR, ↓resAll, ↓rvD, ↓rdLen, ↓rdInt, ↓rdAbs, ↓rdMax2, ↓rdMin2, ↓rdOrd, ↓rdTuple, ↓rdList, ↓rdIx, ↓rdAdd, ↓rdSub, ↓rdMul, ↓rdMod, ↓rdDiv, ↓rdPow, ↓rdCmp, ↓rdEq, ↓rdNe, ↓rdIadd, ↓rdIn, ↓rdSorted, ↓rdSl, ↓isT, ↓rdAppend, ↓itemsOf, ↓rvOf, ↓argsOf, ↓argOf, Nat.reduceAdd, Nat.reduceLT, Nat.reduceSub, Int.reduceLT, Int.reduceLE, Int.reduceAdd, Int.reduceEq, Int.reduceNeg, Nat.reduceLeDiff, Nat.zero_add, Nat.reduceEqDiff, Nat.reduceBEq, ix41, ix42, ix43, ix40, List.length_cons, List.length_nil, List.map_cons, List.map_nil, List.replicate, List.cons_append, List.nil_append, List.getElem?_cons_zero, List.getElem?_cons_succ, List.set_cons_zero, List.set_cons_succ, Option.map_some, at0, at1, at2, at3, ix0, ix1, ix2, ix3, sh_int, sh_bl, sh_non, eqv_int, eqv_bl, eqv_str, decide_eq_true_eq, Bool.not_eq_true, Bool.not_true, Bool.not_false, Bool.false_eq_true, true_and, and_true, if_true, if_false, ite_true, ite_false, List.length_map, List.length_set, Sl.isD, List.mem_singleton, List.mem_cons, List.not_mem_nil, not_true_eq_false, not_false_eq_true, or_false]
      exact k _
  | list xs => cases j <;> cases hx
  | dict xs => cases j <;> cases hx
end DL

set_option Elab.async false
set_option linter.all false
set_option maxRecDepth 100000
set_option maxHeartbeats 4000000
set_option autoImplicit false
namespace DL
open PySem PySem.Spec L2
/-- a comprehension whose turns change no name -/
theorem lc_pure {ti : TDI} {g : TDC} {te : TD} {vs : List Nat} {env : En} {Q : Rv → En → Prop} (xs : List PyData) (f : PyData → PyData) (hti : ∀ R : List PyData → En → Prop, R xs env → ti env R) (hlen : xs.length ≤ sizeLine) (hno : noOwn env vs)
    (hs : ∀ x ∈ xs, ∀ (A : Prop) (B : PyData → Prop), A → B (f x) → g x (wipeE env vs) fun env2 => te env2 fun rv env4 => match rvD rv with
      | some y => A ∧ (mergeE env env4 vs = env ∧ B y)
      | none => False) (hQ : Q (.n (.l (xs.map f))) env) : tdLc ti g tdYes te vs env Q := by
  refine hti _ ⟨fun i acc env' => env' = env ∧ acc = (xs.take i).map f, ⟨rfl, rfl⟩, fun i x acc env' hx hP => ?_, fun acc env' hP => ?_⟩
  · obtain ⟨rfl, rfl⟩ := hP
    have hi := (List.getElem?_eq_some_iff.mp hx).1
    refine ⟨hno, hs x (List.mem_of_getElem? hx) _ (fun y => (xs.take i).map f ++ [y] = (xs.take (i + 1)).map f) ?_ ?_⟩
    · rw [List.length_map, List.length_take]; omega
    · rw [List.take_add_one, hx, List.map_append]; rfl
  · obtain ⟨rfl, rfl⟩ := hP
    rw [List.take_length]
    exact hQ
theorem sorted_uniq : ∀ {a b : List Int}, a.Perm b → a.Pairwise (· ≤ ·) → b.Pairwise (· ≤ ·) → a = b := by
  intro a b p ha hb
  induction a generalizing b with
  | nil => exact (List.nil_perm.mp p).symm ▸ rfl
  | cons x a ih =>
    cases b with
    | nil => exact absurd p.length_eq (by simp)
    | cons y b =>
      have hx : x ∈ y :: b := p.mem_iff.mp List.mem_cons_self
      have hy : y ∈ x :: a := p.mem_iff.mpr List.mem_cons_self
      rw [List.pairwise_cons] at ha hb
      have e : x = y := by
        rcases List.mem_cons.mp hx with q | q
        · exact q
        · rcases List.mem_cons.mp hy with r | r
          · exact r.symm
          · have := ha.1 y r
            have := hb.1 x q
            omega
      subst e
      rw [ih ((List.perm_cons x).mp p) ha.2 hb.2]
theorem cutL_map {α : Type} (f : α → PyData) (xs : List α) (lo hi : Option Int) : cutL (xs.map f) lo hi = ((xs.drop (HT.sIx xs.length 0 lo)).take (HT.sIx xs.length xs.length hi - HT.sIx xs.length 0 lo)).map f := by
  unfold cutL
  rw [List.length_map, ← List.map_drop, ← List.map_take]
theorem sIx_k (n : Nat) (d k : Nat) : HT.sIx n d (some (k : Int)) = min k n := HT.sIx_nat n d k
/-- the same, over what a list's things are -/
theorem lc_map {α : Type} {ti : TDI} {g : TDC} {te : TD} {vs : List Nat} {env : En} {Q : Rv → En → Prop} (l : List α) (g0 f : α → PyData) (hti : ∀ R : List PyData → En → Prop, R (l.map g0) env → ti env R) (hlen : l.length ≤ sizeLine) (hno : noOwn env vs)
    (hs : ∀ x ∈ l, ∀ (A : Prop) (B : PyData → Prop), A → B (f x) → g (g0 x) (wipeE env vs) fun env2 => te env2 fun rv env4 => match rvD rv with
      | some y => A ∧ (mergeE env env4 vs = env ∧ B y)
      | none => False) (hQ : Q (.n (.l (l.map f))) env) : tdLc ti g tdYes te vs env Q := by
  refine hti _ ⟨fun i acc env' => env' = env ∧ acc = (l.take i).map f, ⟨rfl, rfl⟩, fun i x acc env' hx hP => ?_, fun acc env' hP => ?_⟩
  · obtain ⟨rfl, rfl⟩ := hP
    rw [List.getElem?_map] at hx
    obtain ⟨y, hy, rfl⟩ := Option.map_eq_some_iff.mp hx
    have hi := (List.getElem?_eq_some_iff.mp hy).1
    refine ⟨hno, hs y (List.mem_of_getElem? hy) _ (fun y => (l.take i).map f ++ [y] = (l.take (i + 1)).map f) ?_ ?_⟩
    · rw [List.length_map, List.length_take]; omega
    · rw [List.take_add_one, hy, List.map_append]; rfl
  · obtain ⟨rfl, rfl⟩ := hP
    rw [List.length_map, List.take_length]
    exact hQ
/-- a comprehension that draws: what its turns keep, and what they make -/
theorem lc_inv {ti : TDI} {g : TDC} {te : TD} {vs : List Nat} {env : En} {Q : Rv → En → Prop} (P : List PyData → Prop) (J : En → Prop) (Y : PyData → Prop) (hti : ∀ R : List PyData → En → Prop, (∀ xs env1, P xs → J env1 → R xs env1) → ti env R) (hlen : ∀ xs, P xs → xs.length ≤ sizeLine)
    (hs : ∀ xs x, P xs → x ∈ xs → ∀ env, J env → noOwn env vs ∧ ∀ (A : Prop) (B : En → PyData → Prop), A → (∀ env y, J env → Y y → B env y) → g x (wipeE env vs) fun env2 => te env2 fun rv env4 => match rvD rv with
      | some y => A ∧ B (mergeE env env4 vs) y
      | none => False) (hQ : ∀ xs env acc, P xs → J env → acc.length = xs.length → (∀ y ∈ acc, Y y) → Q (.n (.l acc)) env) : tdLc ti g tdYes te vs env Q := by
  refine hti _ fun xs env1 hP h0 => ⟨fun i acc env' => J env' ∧ acc.length = i ∧ ∀ y ∈ acc, Y y, ⟨h0, rfl, fun y hy => by cases hy⟩, fun i x acc env' hx hI => ?_, fun acc env' hI => hQ xs env' acc hP hI.1 hI.2.1 hI.2.2⟩
  obtain ⟨hJ, rfl, hY⟩ := hI
  have hi := (List.getElem?_eq_some_iff.mp hx).1
  have hz := hlen xs hP
  obtain ⟨hno, hh⟩ := hs xs x hP (List.mem_of_getElem? hx) env' hJ
  refine ⟨hno, hh (acc.length < sizeLine) (fun e y => J e ∧ (acc ++ [y]).length = acc.length + 1 ∧ ∀ z ∈ acc ++ [y], Y z) (by omega) fun e y je hy => ⟨je, by rw [List.length_append]; rfl, fun z hz => ?_⟩⟩
  rcases List.mem_append.mp hz with q | q
  · exact hY z q
  · rw [List.mem_singleton.mp q]; exact hy
theorem any_int (fr : List Int) (n : Int) : ((fr.map PyData.int).any fun z => PyData.eqv z (.int n)) = decide (n ∈ fr) := by
  induction fr with
  | nil => simp
  | cons a r ih =>
    rw [List.map_cons, List.any_cons, ih, eqv_int]
    by_cases h : a = n
    · simp [h]
    · simp [h]
      exact fun e => absurd e.symm h
theorem lay_ints : ∀ fr : List Int, PyData.canLayAll0 (fr.map PyData.int) = true ∧ PyData.depthAll (fr.map PyData.int) = 0
  | [] => by simp [PyData.canLayAll0, PyData.depthAll]
  | a :: r => by
    obtain ⟨h1, h2⟩ := lay_ints r
    simp [PyData.canLayAll0, PyData.depthAll, PyData.canLay0, PyData.depth, h1, h2]
theorem sh_ints (fr : List Int) : SeqAt.shaped (.list (fr.map PyData.int)) = true := by
  obtain ⟨h1, h2⟩ := lay_ints fr
  simp [SeqAt.shaped, PyData.canLay0, PyData.depth, h1, h2]
/-! ### dicts that count -/
theorem val_ks (f : Int → PyData) (n : Int) : ∀ ks : List Int, valD (ks.map fun k => ((.inl k : Key), f k)) (.inl n) = if n ∈ ks then some (f n) else none
  | [] => by simp [valD]
  | k :: ks => by
    have ih := val_ks f n ks
    unfold valD at ih ⊢
    rw [List.map_cons, List.find?_cons]
    by_cases h : k = n
    · subst h; simp
    · have h1 : decide ((.inl k : Key) = .inl n) = false := decide_eq_false fun e => h (by injection e)
      rw [h1]
      dsimp only
      rw [ih]
      by_cases h2 : n ∈ ks
      · rw [if_pos h2, if_pos (List.mem_cons_of_mem _ h2)]
      · rw [if_neg h2, if_neg fun q => (List.mem_cons.mp q).elim (fun e => h e.symm) h2]
theorem any_ks (f : Int → PyData) (n : Int) (ks : List Int) : ((ks.map fun k => ((.inl k : Key), f k)).any fun kv => decide (kv.1 = .inl n)) = decide (n ∈ ks) := by
  induction ks with
  | nil => simp
  | cons k ks ih =>
    rw [List.map_cons, List.any_cons, ih]
    by_cases h : k = n
    · subst h; simp
    · have h1 : decide ((.inl k : Key) = .inl n) = false := decide_eq_false fun e => h (by injection e)
      rw [show (decide (((.inl k : Key), f k).1 = .inl n)) = false from h1, Bool.false_or]
      by_cases h2 : n ∈ ks
      · rw [decide_eq_true h2, decide_eq_true (List.mem_cons_of_mem _ h2)]
      · rw [decide_eq_false h2, decide_eq_false fun q => (List.mem_cons.mp q).elim (fun e => h e.symm) h2]
theorem nodup_len : ∀ {ks ns : List Int}, ks.Nodup → (∀ n ∈ ks, n ∈ ns) → ks.length ≤ ns.length
  | [], _, _, _ => Nat.zero_le _
  | k :: ks, ns, h, hs => by
    rw [List.nodup_cons] at h
    have hk := hs k List.mem_cons_self
    have := nodup_len (ks := ks) (ns := ns.erase k) h.2 fun n hn => (List.mem_erase_of_ne (show n ≠ k from fun e => h.1 (e ▸ hn))).mpr (hs n (List.mem_cons_of_mem _ hn))
    rw [List.length_erase_of_mem hk] at this
    have := List.length_pos_of_mem hk
    rw [List.length_cons]
    omega
def TimesOk (kvs : List (Key × PyData)) (ns : List Int) : Prop := ∃ ks : List Int, ks.Nodup ∧ (∀ n, n ∈ ks ↔ n ∈ ns) ∧ kvs = ks.map fun k => ((.inl k : Key), PyData.int (ns.count k))
theorem times_nil : TimesOk [] [] := ⟨[], List.nodup_nil, fun n => Iff.rfl, rfl⟩
theorem times_get {kvs : List (Key × PyData)} {ns : List Int} (h : TimesOk kvs ns) (n : Int) : (valD kvs (.inl n)).getD (.int 0) = .int (ns.count n) := by
  obtain ⟨ks, h1, h2, rfl⟩ := h
  rw [val_ks (fun k => PyData.int (ns.count k))]
  by_cases q : n ∈ ks
  · rw [if_pos q]; rfl
  · rw [if_neg q, List.count_eq_zero_of_not_mem fun z => q ((h2 n).mpr z)]; rfl
theorem times_len {kvs : List (Key × PyData)} {ns : List Int} (h : TimesOk kvs ns) : kvs.length ≤ ns.length := by
  obtain ⟨ks, h1, h2, rfl⟩ := h
  rw [List.length_map]
  exact nodup_len h1 fun n hn => (h2 n).mp hn
theorem times_put {kvs : List (Key × PyData)} {ns : List Int} (h : TimesOk kvs ns) (n : Int) : TimesOk (putD kvs (.inl n) (.int (ns.count n + 1))) (ns ++ [n]) := by
  obtain ⟨ks, h1, h2, rfl⟩ := h
  unfold putD
  rw [any_ks (fun k => PyData.int (ns.count k))]
  have cnt : ∀ k, ((ns ++ [n]).count k : Int) = ns.count k + (if k = n then 1 else 0) := fun k => by
    rw [List.count_append, List.count_singleton]
    by_cases e : k = n
    · subst e; simp
    · rw [if_neg e, if_neg (by simpa using fun q : n = k => e q.symm)]; simp
  by_cases q : n ∈ ks
  · rw [if_pos (decide_eq_true q)]
    refine ⟨ks, h1, fun m => ?_, ?_⟩
    · rw [List.mem_append, List.mem_singleton, ← h2 m]
      exact ⟨.inl, fun z => z.elim id fun e => e ▸ q⟩
    · rw [List.map_map]
      refine List.map_congr_left fun k hk => ?_
      show (if (.inl k : Key) = .inl n then _ else _) = _
      by_cases e : k = n
      · subst e
        rw [if_pos rfl, cnt, if_pos rfl]
      · rw [if_neg fun z => e (by injection z), cnt, if_neg e, Int.add_zero]
  · rw [if_neg (by simpa using q)]
    refine ⟨ks ++ [n], ?_, fun m => ?_, ?_⟩
    · rw [List.nodup_append]
      exact ⟨h1, by simp, fun a ha b hb => by rw [List.mem_singleton.mp hb]; exact fun e => q (e ▸ ha)⟩
    · rw [List.mem_append, List.mem_append, h2 m]
    · rw [List.map_append]
      refine congr (congrArg _ (List.map_congr_left fun k hk => ?_)) ?_
      · have e : k ≠ n := fun e => q (e ▸ hk)
        rw [cnt, if_neg e, Int.add_zero]
      · rw [List.map_cons, List.map_nil, cnt, if_pos rfl]
end DL

set_option Elab.async false
set_option linter.all false
set_option maxRecDepth 100000
set_option maxHeartbeats 4000000
set_option autoImplicit false
namespace DL
open PySem PySem.Spec L2 RZ
section
variable {K : PySem.W.Frag} {G : Hp} {a b : Addr} {vs us : List V} {xs ys : List PyData}
theorem walk_enum (s : SqL K G a vs) (d : DpAll K G vs xs) : Walk K (Ite K a) G (enumL xs) := by
  intro H W e hw i
  have s' : SqL K H a vs := hw_same.seq (e.seq s)
  have hl : (enumL xs).length = xs.length := by unfold enumL; rw [List.length_zipWith, List.length_range, Nat.min_self]
  refine ⟨fun x hx => ?_, fun hle => ⟨vs, s', by rw [d.len]; omega⟩⟩
  have hi : i < xs.length := by rw [← hl]; exact (List.getElem?_eq_some_iff.mp hx).1
  have hx2 : x = .tuple [.int (i : Nat), xs[i]] := by
    unfold enumL at hx
    rw [List.getElem?_zipWith, List.getElem?_eq_getElem hi, List.getElem?_range hi] at hx
    exact (Option.some.inj hx).symm
  obtain ⟨v, hv, dv⟩ := d.get (List.getElem?_eq_getElem hi)
  refine ⟨⟨vs, v, s', hv⟩, fun u H' y => ?_⟩
  obtain ⟨T, x1, rfl, hT, rfl, y⟩ := y
  have := y vs s'
  rw [hv] at this; cases this
  have g : Grow H W (upd H T (.tup [.int (i : Nat), v])) W := grow_new hT
  refine ⟨g, ?_⟩
  rw [hx2]
  refine .tup (.inl (.inl (hw_of (fun z => hw T z hT) upd_same))) ?_
  exact dpa_mono ((g.stp (A := [])).same fun _ z => absurd z (by simp)) _ (.cons (.int _) (.cons (dp_mono e _ dv) .nil))
theorem walk_zip (s : SqL K G a vs) (d : DpAll K G vs xs) (s2 : SqL K G b us) (d2 : DpAll K G us ys) : Walk K (Itz K a b) G (xs.zipWith (fun x y => .tuple [x, y]) ys) := by
  intro H W e hw i
  have s' : SqL K H a vs := hw_same.seq (e.seq s)
  have s2' : SqL K H b us := hw_same.seq (e.seq s2)
  refine ⟨fun x hx => ?_, fun hle => ⟨vs, us, s', s2', by rw [d.len, d2.len]; rw [List.length_zipWith] at hle; omega⟩⟩
  have hi := (List.getElem?_eq_some_iff.mp hx).1
  rw [List.length_zipWith] at hi
  have h1 : i < xs.length := by omega
  have h2 : i < ys.length := by omega
  have hx2 : x = .tuple [xs[i], ys[i]] := by
    rw [List.getElem?_zipWith, List.getElem?_eq_getElem h1, List.getElem?_eq_getElem h2] at hx
    exact (Option.some.inj hx).symm
  obtain ⟨v, hv, dv⟩ := d.get (List.getElem?_eq_getElem h1)
  obtain ⟨u, hu, du⟩ := d2.get (List.getElem?_eq_getElem h2)
  refine ⟨⟨vs, us, v, u, s', s2', hv, hu⟩, fun w H' y => ?_⟩
  obtain ⟨T, x1, x2, rfl, hT, rfl, y1, y2⟩ := y
  have z1 := y1 vs s'
  have z2 := y2 us s2'
  rw [hv] at z1; cases z1
  rw [hu] at z2; cases z2
  have g : Grow H W (upd H T (.tup [v, u])) W := grow_new hT
  refine ⟨g, ?_⟩
  rw [hx2]
  refine .tup (.inl (.inl (hw_of (fun z => hw T z hT) upd_same))) ?_
  exact dpa_mono ((g.stp (A := [])).same fun _ z => absurd z (by simp)) _ (.cons (dp_mono e _ dv) (.cons (dp_mono e _ du) .nil))
theorem walk_zipT (s : SqT K G a vs) (d : DpAll K G vs xs) (s2 : SqT K G b us) (d2 : DpAll K G us ys) : Walk K (ItzT K a b) G (xs.zipWith (fun x y => .tuple [x, y]) ys) := by
  intro H W e hw i
  have s' : SqT K H a vs := same_t hw_same (same_t e s)
  have s2' : SqT K H b us := same_t hw_same (same_t e s2)
  refine ⟨fun x hx => ?_, fun hle => ⟨vs, us, s', s2', by rw [d.len, d2.len]; rw [List.length_zipWith] at hle; omega⟩⟩
  have hi := (List.getElem?_eq_some_iff.mp hx).1
  rw [List.length_zipWith] at hi
  have h1 : i < xs.length := by omega
  have h2 : i < ys.length := by omega
  have hx2 : x = .tuple [xs[i], ys[i]] := by
    rw [List.getElem?_zipWith, List.getElem?_eq_getElem h1, List.getElem?_eq_getElem h2] at hx
    exact (Option.some.inj hx).symm
  obtain ⟨v, hv, dv⟩ := d.get (List.getElem?_eq_getElem h1)
  obtain ⟨u, hu, du⟩ := d2.get (List.getElem?_eq_getElem h2)
  refine ⟨⟨vs, us, v, u, s', s2', hv, hu⟩, fun w H' y => ?_⟩
  obtain ⟨T, x1, x2, rfl, hT, rfl, y1, y2⟩ := y
  have z1 := y1 vs s'
  have z2 := y2 us s2'
  rw [hv] at z1; cases z1
  rw [hu] at z2; cases z2
  have g : Grow H W (upd H T (.tup [v, u])) W := grow_new hT
  refine ⟨g, ?_⟩
  rw [hx2]
  refine .tup (.inl (.inl (hw_of (fun z => hw T z hT) upd_same))) ?_
  exact dpa_mono ((g.stp (A := [])).same fun _ z => absurd z (by simp)) _ (.cons (dp_mono e _ dv) (.cons (dp_mono e _ du) .nil))
end
/-- zip of two lists or two tuples -/
def tdZip2 (t : TDA) : TDI := fun env Q => t env fun rvs env1 => match resAll rvs with
  | some [.list xs, .list ys] => Q (xs.zipWith (fun x y => .tuple [x, y]) ys) env1
  | some [.tuple xs, .tuple ys] => Q (xs.zipWith (fun x y => .tuple [x, y]) ys) env1
  | _ => False
section
variable {X : Cx} {e e2 : Expr} {ta : TDA} {p pos tpos : Pos} {elts : List Expr} {kk : Nat}
theorem pdi_enum (hg : Gl X "enumerate") (hm : X.mg "enumerate" = none) (ha : PDA X [e] ta) (hs : starEach [e] X.env = [(false, eval e X.env)] := by rfl) : PDI X (.Tuple elts kk tpos) (.Call (.Name "enumerate" p) [e] [] pos) (tdEnum ta) := by
  obtain ⟨t1, p1, q1⟩ := ha
  refine ⟨_, pi_enum hg hm p1 hs, fun σ H W A env R Qd E ht k => ?_⟩
  refine q1 σ H W A env _ _ E ht fun vs H1 W1 env1 rvs E1 S1 R1 h1 => ?_
  split at h1
  · rename_i xs ex
    obtain ⟨W', s1, s2, d⟩ := R1.keep ex
    have E' := E1.sub s1 fun a ha => s2 a (E1.ain a ha) (E.ain a ha)
    have S' := S1.sub s1 s2
    cases d with
    | cons d1 d2 =>
      cases d2
      cases d1 with
      | lst s r => exact ⟨_, _, rfl, hw_same.seq s, k _ H1 W' env1 _ E' S' (walk_enum s r) h1⟩
  · exact h1.elim
theorem pdi_zip (hg : Gl X "zip") (hm : X.mg "zip" = none) (ha : PDA X [e, e2] ta)
    (hs : starEach [e, e2] X.env = (false, eval e X.env) :: starEach [e2] X.env := by rfl) (hpl : (backTo pos (starEach [e2] X.env)).any (·.1) = false := by rfl) : PDI X (.Tuple elts kk tpos) (.Call (.Name "zip" p) [e, e2] [] pos) (tdZip2 ta) := by
  obtain ⟨t1, p1, q1⟩ := ha
  refine ⟨_, pi_zipA hg hm p1 hs hpl, fun σ H W A env R Qd E ht k => ?_⟩
  refine q1 σ H W A env _ _ E ht fun vs H1 W1 env1 rvs E1 S1 R1 h1 => ?_
  split at h1
  · rename_i xs ys ex
    obtain ⟨W', s1, s2, d⟩ := R1.keep ex
    have E' := E1.sub s1 fun a ha => s2 a (E1.ain a ha) (E.ain a ha)
    have S' := S1.sub s1 s2
    cases d with
    | cons d1 d2 =>
      cases d2 with
      | cons d2 d3 =>
        cases d3
        cases d1 with
        | lst s r =>
          cases d2 with
          | lst s2 r2 => exact ⟨_, _, _, _, rfl, .inl ⟨hw_same.seq s, hw_same.seq s2, k _ H1 W' env1 _ E' S' (walk_zip s r s2 r2) h1⟩⟩
  · rename_i xs ys ex
    obtain ⟨W', s1, s2, d⟩ := R1.keep ex
    have E' := E1.sub s1 fun a ha => s2 a (E1.ain a ha) (E.ain a ha)
    have S' := S1.sub s1 s2
    cases d with
    | cons d1 d2 =>
      cases d2 with
      | cons d2 d3 =>
        cases d3
        cases d1 with
        | tup s r =>
          cases d2 with
          | tup s2 r2 => exact ⟨_, _, _, _, rfl, .inr ⟨same_t hw_same s, same_t hw_same s2, k _ H1 W' env1 _ E' S' (walk_zipT s r s2 r2) h1⟩⟩
  · exact h1.elim
end
section
variable {X : Cx}
def rdNotIn : PyData → PyData → (Rv → Prop) → Prop
  | x, .list ds, Q => SeqAt.shaped x = true ∧ SeqAt.shaped (.list ds) = true ∧ Q (.d (.bool (!ds.any fun z => PyData.eqv z x)))
  | _, _, _ => False
theorem od_notIn (hu : X.A.units + 65 < cLine) : OpD X (compareOp .NotIn) rdNotIn := by
  refine ⟨_, op_notInD hu, fun H W x y a b Q Qd hw ra rb q k => ?_⟩
  unfold rdNotIn at q
  split at q
  · exact ⟨_, _, ra.dp, rb.dp, q.1, q.2.1, k.bl q.2.2⟩
  · exact q.elim
def rdDivmod : List PyData → (Rv → Prop) → Prop
  | [.int i, .int j], Q => CDivP i j ∧ Q (.d (.tuple [.int (i / j), .int (i % j)]))
  | _, _ => False
theorem bd_divmod : BD X (.builtin "divmod") rdDivmod := by
  refine ⟨_, call_divmodW, fun H W vs xs Q Qd hw r q k => ?_⟩
  unfold rdDivmod at q
  split at q
  · obtain ⟨v, u, rfl, d, d2⟩ := dqall2 r
    exact ⟨_, _, by rw [d.int, d2.int], q.1, fun p hp => k.tup hw hp (.cons (.int _) (.cons (.int _) .nil)) q.2⟩
  · exact q.elim
def rdGcd : List PyData → (Rv → Prop) → Prop
  | [.int i, .int j], Q => Q (.d (.int ((Nat.gcd i.natAbs j.natAbs : Nat) : Int)))
  | _, _ => False
theorem bd_gcd : BD X (.builtin "math.gcd") rdGcd := by
  refine ⟨_, cr_gcd, fun H W vs xs Q Qd hw r q k => ?_⟩
  unfold rdGcd at q
  split at q
  · obtain ⟨v, u, rfl, d, d2⟩ := dqall2 r
    exact ⟨_, _, by rw [d.int, d2.int], k.int q⟩
  · exact q.elim
/-- f(e, ..), f the module's name of a built-in function -/
theorem pd_callF {x : Str} {p pos : Pos} {e : Expr} {es : List Expr} {t : TDA} {id : String} {r : List PyData → (Rv → Prop) → Prop} (hb : BD X (.builtin id) r) (hg : Gl X x) (hm : X.mg x = some (.builtin id)) (ha : PDA X (e :: es) t) (hdb : (x == ("__debug__" : Str)) = false := by decide)
    (he : starEach (e :: es) X.env = (false, eval e X.env) :: starEach es X.env := by rfl) (hpl : (backTo pos (starEach es X.env)).any (·.1) = false := by rfl) : PD X (.Call (.Name x p) (e :: es) [] pos) (tdB r t) := by
  obtain ⟨rV, h1, h2⟩ := hb
  obtain ⟨t1, p1, q1⟩ := ha
  exact pd_bd h2 q1 (pe_callBfun h1 hg hm p1 hdb he hpl)
/-- range(i, j, c) -/
def rngC (i c : Int) (n : Nat) : List PyData := (List.range n).map fun k => .int (i + (k : Nat) * c)
def tdRng3 (t : TDA) : TDI := fun env Q => t env fun rvs env1 => match resR env1 rvs with
  | some [.int i, .int j, .int c] => ∃ n, RgC i j c n ∧ Q (rngC i c n) env1
  | _ => False
theorem pdi_rng3 {tg a b c : Expr} {ta : TDA} {p pos : Pos} (hg : Gl X "range") (hm : X.mg "range" = none) (ha : PDA X [a, b, c] ta)
    (hs : starEach [a, b, c] X.env = (false, eval a X.env) :: starEach [b, c] X.env := by rfl) (hpl : (backTo pos (starEach [b, c] X.env)).any (·.1) = false := by rfl) : PDI X tg (.Call (.Name "range" p) [a, b, c] [] pos) (tdRng3 ta) := by
  obtain ⟨t1, p1, q1⟩ := ha
  refine ⟨_, pi_range3 hg hm p1 hs hpl, fun σ H W A env R Qd E ht k => ?_⟩
  refine q1 σ H W A env _ _ E ht fun vs H1 W1 env1 rvs E1 S1 R1 h1 => ?_
  split at h1
  · rename_i i j c ej
    cases R1.read E1 ej with
    | cons d1 r =>
      cases r with
      | cons d2 r =>
        cases r with
        | cons d3 r =>
          cases r
          obtain ⟨n, hn, h1⟩ := h1
          refine ⟨i, j, c, n, by rw [d1.int, d2.int, d3.int], hn, k _ H1 W1 env1 _ E1 S1 ?_ h1⟩
          intro H W e hw i'
          unfold rngC
          refine ⟨fun x hx => ?_, fun hl => by
            rw [List.length_map, List.length_range] at hl
            exact hl⟩
          rw [List.getElem?_map] at hx
          obtain ⟨j', hj, rfl⟩ := Option.map_eq_some_iff.mp hx
          obtain ⟨h1, h2⟩ := List.getElem?_eq_some_iff.mp hj
          rw [List.getElem_range] at h2
          subst h2
          rw [List.length_range] at h1
          refine ⟨h1, fun u H' y => ?_⟩
          obtain ⟨rfl, rfl⟩ := y
          exact ⟨.refl, .int _⟩
  · exact h1.elim
end
end DL
namespace DL
open PySem PySem.Spec L2
theorem bt_divmod : bootBuiltins "divmod" = some (.builtin "divmod") := by decide +kernel
end DL

set_option Elab.async false
set_option linter.all false
set_option maxRecDepth 100000
set_option maxHeartbeats 4000000
set_option autoImplicit false
namespace DL
open PySem PySem.Spec L2
/-- a value as a test, by what it is -/
def tdTru (t : TD) : TDT := fun env Q => t env fun rv env1 => match res env1 rv with
  | some .none => Q false env1
  | some (.bool b) => Q b env1
  | some (.int i) => Q (i != 0) env1
  | some (.str z) => z.length ≤ sizeLine ∧ Q ((z.length : Int) != 0) env1
  | some (.list xs) => Q (!xs.isEmpty) env1
  | some (.tuple xs) => Q (!xs.isEmpty) env1
  | _ => False
theorem emp_of {K : PySem.W.Frag} {H : Hp} {vs : List V} {xs : List PyData} (d : DpAll K H vs xs) : (!xs.isEmpty) = !vs.isEmpty := by
  cases d <;> rfl
/-- a op b op' c -/
def tdChain (r r' : PyData → PyData → (Rv → Prop) → Prop) (ta tb tc : TD) : TD := fun env Q => ta env fun x env1 => tb env1 fun y env2 => match res env2 x, res env2 y with
  | some a, some b => r a b fun z => match z with
    | .d (.bool k) => if k = true then tc env2 fun w env3 => match res env3 y, res env3 w with
      | some b', some c => r' b' c fun z => Q z env3
      | _, _ => False
      else Q (.d (.bool false)) env2
    | _ => False
  | _, _ => False
section
variable {X : Cx} {e a b c : Expr} {ta tb tc : TD} {pos : Pos}
theorem pdt_tru (h : PD X e ta) (he : ∀ whole, isTrue e X.env whole = (do let v ← whole; standAt e.pos; holding [v] (truthy v)) := by intro _; rfl) : PDT X e (tdTru ta) := by
  obtain ⟨t1, p1, q1⟩ := h
  refine ⟨_, pt_truth p1 he, fun σ H W A env Q Qd E ht k => ?_⟩
  refine q1 σ H W A env _ _ E ht fun x H1 W1 env1 rv E1 S1 R1 h1 => ?_
  split at h1
  · rename_i ex
    have := (Dq.of_rv E1 R1 ex).non
    subst this
    exact ⟨false, rfl, k _ H1 W1 env1 E1 S1 h1⟩
  · rename_i i ex
    have := (Dq.of_rv E1 R1 ex).bl
    subst this
    exact ⟨i, rfl, k _ H1 W1 env1 E1 S1 h1⟩
  · rename_i i ex
    have := (Dq.of_rv E1 R1 ex).int
    subst this
    exact ⟨_, rfl, k _ H1 W1 env1 E1 S1 h1⟩
  · rename_i z ex
    have := (Dq.of_rv E1 R1 ex).str
    subst this
    exact ⟨_, ⟨h1.1, rfl⟩, k _ H1 W1 env1 E1 S1 h1.2⟩
  · rename_i xs ex
    obtain ⟨p, ws, rfl, s, d⟩ := Dq.of_rv E1 R1 ex
    exact ⟨_, .inl ⟨ws, s, emp_of d⟩, k _ H1 W1 env1 E1 S1 h1⟩
  · rename_i xs ex
    have d := Dq.of_rv E1 R1 ex
    cases (show Dp X.K (HW H1 W1) x (.tuple xs) from d) with
    | tup s d => exact ⟨_, .inr (.inl ⟨_, same_t hw_same s, emp_of d⟩), k _ H1 W1 env1 E1 S1 h1⟩
  · exact h1.elim
end
end DL

set_option Elab.async false
set_option linter.all false
set_option maxRecDepth 100000
set_option maxHeartbeats 4000000
set_option autoImplicit false
namespace DL
open PySem PySem.Spec L2
/-! ### for the laws' own proofs (k18 has its own copies) -/
abbrev KD (Q : Sl → (Nat → Option Sl) → Prop) : DE := { nx := fun env => Q (.d .none) (osOf env), rt := fun r env => Q r (osOf env) }
theorem for_i {ti : TDI} {g : TDG} {tb : TDS} {D : DE} {env : En} (h : ∀ Kx : List PyData → En → Prop, (∀ xs env1, (∃ Pv : Nat → En → Prop, Pv 0 env1 ∧
  (∀ i x env, xs[i]? = some x → Pv i env → g x env fun env2 => tb { D with nx := Pv (i + 1), ct := Pv (i + 1), bk := D.nx } env2) ∧ ∀ env, Pv xs.length env → D.nx env) → Kx xs env1) → ti env Kx) : tdFor ti g tb D env := h _ fun _ _ h => h
theorem draw_i {tp : List PyData} {many : Int} {R : Sl → (Nat → Option Sl) → Prop} (h1 : many < 2 ^ 62) (h2 : TapeOk tp) (h3 : 1 ≤ many) (h : ∀ (r : Int) (tp' : List PyData) (os : Nat → Option Sl), TapeOk tp' → 0 ≤ r → r < many → R (.d (.int r)) (ios (.l tp') os)) : spDraw [.l tp, .d (.int many)] R := by
  rw [draw_if]
  exact ⟨h1, h2, fun r tp' os a b c _ => h r tp' os a b (c h3)⟩
theorem pick_i {tp : List PyData} {menu : PyData} {R : Sl → (Nat → Option Sl) → Prop} (xs : List PyData) (h1 : itemsOf menu = some xs) (h2 : 1 ≤ xs.length) (h3 : xs.length ≤ sizeLine) (h4 : TapeOk tp) (h : ∀ (x : PyData) (tp' : List PyData) (os : Nat → Option Sl), TapeOk tp' → x ∈ xs → R (.d x) (ios (.l tp') os)) : spPick [.l tp, .d menu] R := by
  rw [pick_if]
  exact ⟨xs, h1, h2, h3, h4, h⟩
theorem small_of {n : Nat} (h : n ≤ 1000) : n ≤ sizeLine := Nat.le_trans h (by decide)
theorem cut_lo {α : Type} (f : α → PyData) (ws : List α) (j : Nat) : cutL (ws.map f) none (some (j : Int)) = (ws.take j).map f := by
  rw [cutL_map, sIx_k, HT.sIx_none, List.drop_zero, Nat.sub_zero]
  by_cases h : j ≤ ws.length
  · rw [Nat.min_eq_left h]
  · rw [Nat.min_eq_right (by omega), List.take_length, List.take_of_length_le (by omega)]
theorem cut_hi {α : Type} (f : α → PyData) (ws : List α) (j : Nat) : cutL (ws.map f) (some (j : Int)) none = (ws.drop j).map f := by
  rw [cutL_map, sIx_k, HT.sIx_none]
  by_cases h : j ≤ ws.length
  · rw [Nat.min_eq_left h, List.take_of_length_le (by rw [List.length_drop]; omega)]
  · rw [Nat.min_eq_right (by omega), List.drop_length, List.take_nil, List.drop_eq_nil_of_le (by omega)]
theorem fold_at {α β : Type} (f : β → α → β) (b : β) (l : List α) (i : Nat) (x : α) (h : l[i]? = some x) : (l.take (i + 1)).foldl f b = f ((l.take i).foldl f b) x := by
  rw [List.take_add_one, h, List.foldl_append]; rfl
theorem rng_at {n : Int} {i : Nat} {x : PyData} (h : (rngL 0 n)[i]? = some x) : x = .int i ∧ (i : Int) < n := by
  unfold rngL at h
  rw [List.getElem?_map] at h
  obtain ⟨a, ha, rfl⟩ := Option.map_eq_some_iff.mp h
  obtain ⟨h1, h2⟩ := List.getElem?_eq_some_iff.mp ha
  rw [List.getElem_range] at h2
  subst h2
  rw [List.length_range] at h1
  exact ⟨by rw [show (0 : Int) + (i : Nat) = (i : Nat) by omega], by omega⟩
theorem rng_len (n : Int) : (rngL 0 n).length = n.toNat := by
  unfold rngL
  rw [List.length_map, List.length_range]
  omega
theorem at_map {α : Type} (f : α → PyData) (l : List α) (j : Nat) (h : j < l.length) : atI (l.map f) (j : Int) = some (f l[j]) := atI_nat (by rw [List.getElem?_map, List.getElem?_eq_getElem h]; rfl)
/-- a comprehension with a test, whose turns change no name -/
theorem lc_if {α : Type} {ti : TDI} {g : TDC} {tt : TDT} {te : TD} {vs : List Nat} {env : En} {Q : Rv → En → Prop} (l : List α) (g0 f : α → PyData) (p : α → Bool) (hti : ∀ R : List PyData → En → Prop, R (l.map g0) env → ti env R) (hlen : l.length ≤ sizeLine) (hno : noOwn env vs)
    (hs : ∀ x ∈ l, ∀ (A B : Prop) (C : PyData → Prop), A → (p x = false → B) → (p x = true → C (f x)) → g (g0 x) (wipeE env vs) fun env2 => tt env2 fun b env3 => if b = true then te env3 fun rv env4 => (match rvD rv with
      | some y => A ∧ (mergeE env env4 vs = env ∧ C y)
      | none => False) else (mergeE env env3 vs = env ∧ B)) (hQ : Q (.n (.l ((l.filter p).map f))) env) : tdLc ti g tt te vs env Q := by
  refine hti _ ⟨fun i acc env' => env' = env ∧ acc = ((l.take i).filter p).map f, ⟨rfl, rfl⟩, fun i x acc env' hx hP => ?_, fun acc env' hP => ?_⟩
  · obtain ⟨rfl, rfl⟩ := hP
    rw [List.getElem?_map] at hx
    obtain ⟨y, hy, rfl⟩ := Option.map_eq_some_iff.mp hx
    have hi := (List.getElem?_eq_some_iff.mp hy).1
    refine ⟨hno, hs y (List.mem_of_getElem? hy) _ (((l.take i).filter p).map f = ((l.take (i + 1)).filter p).map f) (fun z => ((l.take i).filter p).map f ++ [z] = ((l.take (i + 1)).filter p).map f) ?_ (fun h => ?_) fun h => ?_⟩
    · rw [List.length_map]
      have := List.length_filter_le p (l.take i)
      rw [List.length_take] at this
      omega
    · rw [List.take_add_one, hy, List.filter_append]
      simp [h]
    · rw [List.take_add_one, hy, List.filter_append, List.map_append]
      simp [h]
  · obtain ⟨rfl, rfl⟩ := hP
    rw [List.length_map, List.take_length]
    exact hQ
theorem log_lt {j : Int} (h : 0 < j) (h2 : j < 2 ^ 62) : j.natAbs.log2 < 62 := (Nat.log2_lt (by omega)).mpr (by omega)
theorem divW {i j : Int} (h : 0 < j) (h2 : j < 2 ^ 62) : CDivW i j := ⟨h, Nat.lt_trans (log_lt h h2) (by decide)⟩
theorem divP {i j : Int} (h : 0 < j) (h2 : j < 2 ^ 62) : CDivP i j := by
  refine ⟨h, ?_⟩
  have l := log_lt h h2
  unfold Builtin.divisionGoesByPylong
  have e : (j == 0) = false := by simp; omega
  simp only [e, Bool.and_eq_false_iff, decide_eq_false_iff_not, Bool.false_eq_true, if_false]
  left
  omega
end DL

set_option Elab.async false
set_option linter.all false
set_option maxRecDepth 100000
set_option maxHeartbeats 4000000
set_option autoImplicit false
namespace DL
open PySem PySem.Spec L2
/-- ahead of a statement: what a name holds alone, if it does, is let go as data -/
def frE (i : Nat) (env : En) : En := match env[i]? with
  | some (some (.l xs)) => env.set i (some (.d (.list xs)))
  | _ => env
def tdFr (i : Nat) (t : TDS) : TDS := fun D env => t D (frE i env)
section
variable {X : Cx} {N : List Nat × List Nat} {st : Stmt} {t : TDS}
theorem psd_fr {i : Nat} (h : PSD X N st t) (hM : i ∉ N.1 := by decide) (hM2 : i ∉ N.2 := by decide) : PSD X N st (tdFr i t) := by
  obtain ⟨t1, p1, q1⟩ := h
  refine ⟨_, p1, fun B D Dd σ H W A env hB R h O => ?_⟩
  unfold tdFr frE at h
  split at h
  · rename_i xs hx
    obtain ⟨W', A', R'⟩ := R.frz hB hM hM2 hx
    exact q1 B D Dd σ H W' A' _ hB R' h O
  · exact q1 B D Dd σ H W A _ hB R h O
end
theorem sz0 : (0 ≤ sizeLine) = True := by simp only [eq_iff_iff, iff_true]; decide
theorem sz1 : (1 ≤ sizeLine) = True := by simp only [eq_iff_iff, iff_true]; decide
theorem sz2 : (2 ≤ sizeLine) = True := by simp only [eq_iff_iff, iff_true]; decide
theorem sz3 : (3 ≤ sizeLine) = True := by simp only [eq_iff_iff, iff_true]; decide
theorem sz4 : (4 ≤ sizeLine) = True := by simp only [eq_iff_iff, iff_true]; decide
theorem sz5 : (5 ≤ sizeLine) = True := by simp only [eq_iff_iff, iff_true]; decide
theorem sz6 : (6 ≤ sizeLine) = True := by simp only [eq_iff_iff, iff_true]; decide
theorem sz7 : (7 ≤ sizeLine) = True := by simp only [eq_iff_iff, iff_true]; decide
theorem sz8 : (8 ≤ sizeLine) = True := by simp only [eq_iff_iff, iff_true]; decide
theorem sz9 : (9 ≤ sizeLine) = True := by simp only [eq_iff_iff, iff_true]; decide
theorem sz10 : (10 ≤ sizeLine) = True := by simp only [eq_iff_iff, iff_true]; decide
theorem sz11 : (11 ≤ sizeLine) = True := by simp only [eq_iff_iff, iff_true]; decide
theorem sz12 : (12 ≤ sizeLine) = True := by simp only [eq_iff_iff, iff_true]; decide
theorem sz13 : (13 ≤ sizeLine) = True := by simp only [eq_iff_iff, iff_true]; decide
theorem sz14 : (14 ≤ sizeLine) = True := by simp only [eq_iff_iff, iff_true]; decide
theorem sz15 : (15 ≤ sizeLine) = True := by simp only [eq_iff_iff, iff_true]; decide
theorem sz16 : (16 ≤ sizeLine) = True := by simp only [eq_iff_iff, iff_true]; decide
end DL

set_option Elab.async false
set_option linter.all false
set_option maxRecDepth 100000
set_option maxHeartbeats 4000000
set_option autoImplicit false
namespace DL
open PySem PySem.Spec L2
theorem pick_ints {tp : List PyData} {menu : PyData} {R : Sl → (Nat → Option Sl) → Prop} (ns : List Int) (P : Int → Prop) (h1 : itemsOf menu = some (ns.map .int)) (h2 : 1 ≤ ns.length ∧ ns.length ≤ 1000) (h4 : TapeOk tp) (hP : ∀ n ∈ ns, P n) (h : ∀ (n : Int) (tp' : List PyData) (os : Nat → Option Sl), TapeOk tp' → P n → R (.d (.int n)) (ios (.l tp') os)) : spPick [.l tp, .d menu] R := by
  refine pick_i _ h1 (by rw [List.length_map]; exact h2.1) (by rw [List.length_map]; exact small_of h2.2) h4 fun x tp' os ht hx => ?_
  obtain ⟨n, hn, rfl⟩ := List.mem_map.mp hx
  exact h n tp' os ht (hP n hn)
theorem rng_map (n : Nat) : rngL 0 (n : Int) = (List.range n).map fun i => PyData.int (i : Nat) := by
  unfold rngL
  rw [show ((n : Int) - 0).toNat = n by omega]
  exact List.map_congr_left fun i _ => by rw [Int.zero_add]
/-- a drawn order of all -/
def spShuf : FD := fun args Q => ∃ (tp : List PyData) (menu : PyData) (xs : List PyData), args = [.l tp, .d menu] ∧ (menu = .list xs ∨ menu = .tuple xs) ∧ xs.length ≤ 1000 ∧ TapeOk tp ∧ ∀ (ys : List PyData) tp' os, ys.Perm xs → TapeOk tp' → os 0 = some (.l tp') → Q (.l ys) os
def rShuf : TDS := (tdSeq (tdSet 2 (tdB rdList (tdCons (tdV 1) tdNil)))
  (tdSeq (tdSet 3 (tdLst tdNil))
  (tdSeq (tdFor (tdRng1 (tdCons (tdB rdLen (tdCons (tdV 1) tdNil)) tdNil)) (gdName 4) (tdDrop (tdM 3 rdAppend (tdCons (tdM 2 rdPopAt (tdCons (tdCall ([0], []) 2 spDraw (tdCons (tdV 0) (tdCons (tdB rdLen (tdCons (tdV 2) tdNil)) tdNil))) tdNil)) tdNil))))
  (tdRet ([0], []) (tdV 3)))))
theorem erase_perm {α : Type} : ∀ {l : List α} {j : Nat} {y : α}, l[j]? = some y → (y :: l.eraseIdx j).Perm l
  | [], _, _, h => by simp at h
  | a :: l, 0, y, h => by simp at h; subst h; exact .refl _
  | a :: l, j + 1, y, h => by
    have := erase_perm (l := l) (j := j) (y := y) (by simpa using h)
    exact (List.Perm.swap a y _).trans (this.cons a)
theorem hShuf (args : List Sl) (Q : Sl → (Nat → Option Sl) → Prop) (hl : args.length = 2) (h : spShuf args Q) : rShuf { nx := fun env => Q (.d .none) (osOf env), rt := fun r env => Q r (osOf env) } (startE 5 args) := by
  obtain ⟨tp, menu, xs, rfl, hm, hx, ht, k⟩ := h
  have go : ∀ (Kc : En → Prop), (∀ tp hs ts x, TapeOk tp → (ts ++ hs).Perm xs → hs = [] → Kc [some (.l tp), some (.d menu), some (.l hs), some (.l ts), x]) →
      ∀ i0, (∃ Pv : Nat → En → Prop, Pv 0 [some (.l tp), some (.d menu), some (.l xs), some (.l []), i0] ∧ (∀ i x env, (rngL 0 xs.length)[i]? = some x → Pv i env → gdName 4 x env fun env2 => tdDrop (tdM 3 rdAppend (tdCons (tdM 2 rdPopAt (tdCons (tdCall ([0], []) 2 spDraw (tdCons (tdV 0) (tdCons (tdB rdLen (tdCons (tdV 2) tdNil)) tdNil))) tdNil)) tdNil)) { nx := Pv (i + 1), ct := Pv (i + 1), bk := Kc, rt := fun r env => Q r (osOf env) } env2) ∧ ∀ env, Pv (rngL 0 xs.length).length env → Kc env) := fun Kc hKc i0 => by
    refine ⟨fun i env => ∃ tp hs ts x, env = [some (.l tp), some (.d menu), some (.l hs), some (.l ts), x] ∧ TapeOk tp ∧ (ts ++ hs).Perm xs ∧ hs.length + i = xs.length, ⟨tp, xs, [], i0, rfl, ht, .refl _, rfl⟩, fun i x env hx2 hP => ?_, fun env hP => ?_⟩
    · obtain ⟨tp, hs, ts, x0, rfl, ht, hp, hlen⟩ := hP
      obtain ⟨rfl, hi⟩ := rng_at hx2
      simp only [outE_i, outE_n, sz0, sz1, sz2, sz3, sz4, sz5, sz6, sz7, sz8, sz9, sz10, sz11, sz12, sz13, sz14, sz15, sz16, ↓tdFr, ↓frE, ↓rdDivmod, ↓rdNotIn, ↓tdTru, ↓startE, ↓tdSeq, ↓tdSet, ↓tdSetD, ↓tdDrop, ↓tdRet, ↓tdIfS, ↓tdNext, ↓tdAsg, ↓tdV, ↓tdC, ↓tdBin, ↓tdB, ↓tdCons, ↓tdNil, ↓tdTup, ↓tdLst, ↓tdTest, ↓tdAnd, ↓tdOr, ↓tdNot, ↓tdIf, ↓tdAndV, ↓tdOrV, ↓tdNotV, ↓tdNeg, ↓tdIsN, ↓tdNotN, ↓tdSl, ↓tdPart, ↓tdNoPart, ↓tdM, ↓tdSetIx, ↓tdAug, ↓tdPut, ↓tdGet2, ↓tdIsi, ↓tdListRg, ↓gdName, ↓gdNil, ↓gdCons, ↓gdTup, ↓tdIt, ↓tdRng1, ↓tdRng2, ↓tdCall, ↓tdNew, ↓tdJoin, ↓gcName, ↓gcNil, ↓gcCons, ↓gcTup, ↓tdYes, ↓res, ↓resR, ↓resAll, ↓rvD, ↓rdLen, ↓rdInt, ↓rdAbs, ↓rdMax2, ↓rdMin2, ↓rdOrd, ↓rdTuple, ↓rdList, ↓rdIx, ↓rdAdd, ↓rdSub, ↓rdMul, ↓rdMod, ↓rdDiv, ↓rdPow, ↓rdCmp, ↓rdEq, ↓rdNe, ↓rdIadd, ↓rdIn, ↓rdSorted, ↓rdSl, ↓isT, ↓rdAppend, ↓itemsOf, ↓rvOf, ↓argsOf, ↓argOf, Nat.reduceAdd, Nat.reduceLT, Nat.reduceSub, Int.reduceLT, Int.reduceLE, Int.reduceAdd, Int.reduceEq, Int.reduceNeg, Nat.reduceLeDiff, Nat.zero_add, Nat.reduceEqDiff, Nat.reduceBEq, ix41, ix42, ix43, ix40, List.length_cons, List.length_nil, List.map_cons, List.map_nil, List.replicate, List.cons_append, List.nil_append, List.getElem?_cons_zero, List.getElem?_cons_succ, List.set_cons_zero, List.set_cons_succ, Option.map_some, at0, at1, at2, at3, ix0, ix1, ix2, ix3, sh_int, sh_bl, sh_non, eqv_int, eqv_bl, eqv_str, decide_eq_true_eq, Bool.not_eq_true, Bool.not_true, Bool.not_false, Bool.false_eq_true, true_and, and_true, if_true, if_false, ite_true, ite_false, List.length_map, List.length_set, Sl.isD, List.mem_singleton, List.mem_cons, List.not_mem_nil, not_true_eq_false, not_false_eq_true, or_false]
      refine draw_i (by omega) ht (by omega) fun r tp' os t1 a b => ?_
      simp only [outE_i, outE_n, sz0, sz1, sz2, sz3, sz4, sz5, sz6, sz7, sz8, sz9, sz10, sz11, sz12, sz13, sz14, sz15, sz16, ↓tdFr, ↓frE, ↓rdDivmod, ↓rdNotIn, ↓tdTru, ↓startE, ↓tdSeq, ↓tdSet, ↓tdSetD, ↓tdDrop, ↓tdRet, ↓tdIfS, ↓tdNext, ↓tdAsg, ↓tdV, ↓tdC, ↓tdBin, ↓tdB, ↓tdCons, ↓tdNil, ↓tdTup, ↓tdLst, ↓tdTest, ↓tdAnd, ↓tdOr, ↓tdNot, ↓tdIf, ↓tdAndV, ↓tdOrV, ↓tdNotV, ↓tdNeg, ↓tdIsN, ↓tdNotN, ↓tdSl, ↓tdPart, ↓tdNoPart, ↓tdM, ↓tdSetIx, ↓tdAug, ↓tdPut, ↓tdGet2, ↓tdIsi, ↓tdListRg, ↓gdName, ↓gdNil, ↓gdCons, ↓gdTup, ↓tdIt, ↓tdRng1, ↓tdRng2, ↓tdCall, ↓tdNew, ↓tdJoin, ↓gcName, ↓gcNil, ↓gcCons, ↓gcTup, ↓tdYes, ↓res, ↓resR, ↓resAll, ↓rvD, ↓rdLen, ↓rdInt, ↓rdAbs, ↓rdMax2, ↓rdMin2, ↓rdOrd, ↓rdTuple, ↓rdList, ↓rdIx, ↓rdAdd, ↓rdSub, ↓rdMul, ↓rdMod, ↓rdDiv, ↓rdPow, ↓rdCmp, ↓rdEq, ↓rdNe, ↓rdIadd, ↓rdIn, ↓rdSorted, ↓rdSl, ↓isT, ↓rdAppend, ↓itemsOf, ↓rvOf, ↓argsOf, ↓argOf, Nat.reduceAdd, Nat.reduceLT, Nat.reduceSub, Int.reduceLT, Int.reduceLE, Int.reduceAdd, Int.reduceEq, Int.reduceNeg, Nat.reduceLeDiff, Nat.zero_add, Nat.reduceEqDiff, Nat.reduceBEq, ix41, ix42, ix43, ix40, List.length_cons, List.length_nil, List.map_cons, List.map_nil, List.replicate, List.cons_append, List.nil_append, List.getElem?_cons_zero, List.getElem?_cons_succ, List.set_cons_zero, List.set_cons_succ, Option.map_some, at0, at1, at2, at3, ix0, ix1, ix2, ix3, sh_int, sh_bl, sh_non, eqv_int, eqv_bl, eqv_str, decide_eq_true_eq, Bool.not_eq_true, Bool.not_true, Bool.not_false, Bool.false_eq_true, true_and, and_true, if_true, if_false, ite_true, ite_false, List.length_map, List.length_set, Sl.isD, List.mem_singleton, List.mem_cons, List.not_mem_nil, not_true_eq_false, not_false_eq_true, or_false]
      refine popAt a b (small_of (by omega)) fun j y ej hj => ?_
      have hl2 := hp.length_eq
      rw [List.length_append] at hl2
      refine ⟨Nat.lt_of_lt_of_le (show ts.length < 1001 by omega) (by decide), tp', hs.eraseIdx j, ts ++ [y], _, rfl, t1, ?_, ?_⟩
      · rw [List.append_assoc]
        exact ((erase_perm hj).append_left ts).trans hp
      · have := (List.getElem?_eq_some_iff.mp hj).1
        rw [List.length_eraseIdx, if_pos this]; omega
    · obtain ⟨tp, hs, ts, x0, rfl, ht, hp, hlen⟩ := hP
      rw [rng_len, Int.toNat_natCast] at hlen
      exact hKc tp hs ts x0 ht hp (List.length_eq_zero_iff.mp (by omega))
  unfold rShuf
  have hs := small_of hx
  rcases hm with rfl | rfl
  · refine seq_i fun Kc hK => ?_
    simp only [outE_i, outE_n, sz0, sz1, sz2, sz3, sz4, sz5, sz6, sz7, sz8, sz9, sz10, sz11, sz12, sz13, sz14, sz15, sz16, ↓tdFr, ↓frE, ↓rdDivmod, ↓rdNotIn, ↓tdTru, ↓startE, ↓tdSeq, ↓tdSet, ↓tdSetD, ↓tdDrop, ↓tdRet, ↓tdIfS, ↓tdNext, ↓tdAsg, ↓tdV, ↓tdC, ↓tdBin, ↓tdB, ↓tdCons, ↓tdNil, ↓tdTup, ↓tdLst, ↓tdTest, ↓tdAnd, ↓tdOr, ↓tdNot, ↓tdIf, ↓tdAndV, ↓tdOrV, ↓tdNotV, ↓tdNeg, ↓tdIsN, ↓tdNotN, ↓tdSl, ↓tdPart, ↓tdNoPart, ↓tdM, ↓tdSetIx, ↓tdAug, ↓tdPut, ↓tdGet2, ↓tdIsi, ↓tdListRg, ↓gdName, ↓gdNil, ↓gdCons, ↓gdTup, ↓tdIt, ↓tdRng1, ↓tdRng2, ↓tdCall, ↓tdNew, ↓tdJoin, ↓gcName, ↓gcNil, ↓gcCons, ↓gcTup, ↓tdYes, ↓res, ↓resR, ↓resAll, ↓rvD, ↓rdLen, ↓rdInt, ↓rdAbs, ↓rdMax2, ↓rdMin2, ↓rdOrd, ↓rdTuple, ↓rdList, ↓rdIx, ↓rdAdd, ↓rdSub, ↓rdMul, ↓rdMod, ↓rdDiv, ↓rdPow, ↓rdCmp, ↓rdEq, ↓rdNe, ↓rdIadd, ↓rdIn, ↓rdSorted, ↓rdSl, ↓isT, ↓rdAppend, ↓itemsOf, ↓rvOf, ↓argsOf, ↓argOf, Nat.reduceAdd, Nat.reduceLT, Nat.reduceSub, Int.reduceLT, Int.reduceLE, Int.reduceAdd, Int.reduceEq, Int.reduceNeg, Nat.reduceLeDiff, Nat.zero_add, Nat.reduceEqDiff, Nat.reduceBEq, ix41, ix42, ix43, ix40, List.length_cons, List.length_nil, List.map_cons, List.map_nil, List.replicate, List.cons_append, List.nil_append, List.getElem?_cons_zero, List.getElem?_cons_succ, List.set_cons_zero, List.set_cons_succ, Option.map_some, at0, at1, at2, at3, ix0, ix1, ix2, ix3, sh_int, sh_bl, sh_non, eqv_int, eqv_bl, eqv_str, decide_eq_true_eq, Bool.not_eq_true, Bool.not_true, Bool.not_false, Bool.false_eq_true, true_and, and_true, if_true, if_false, ite_true, ite_false, List.length_map, List.length_set, Sl.isD, List.mem_singleton, List.mem_cons, List.not_mem_nil, not_true_eq_false, not_false_eq_true, or_false]
    subst hK
    refine seq_i fun Kc hK => ?_
    simp only [outE_i, outE_n, sz0, sz1, sz2, sz3, sz4, sz5, sz6, sz7, sz8, sz9, sz10, sz11, sz12, sz13, sz14, sz15, sz16, ↓tdFr, ↓frE, ↓rdDivmod, ↓rdNotIn, ↓tdTru, ↓startE, ↓tdSeq, ↓tdSet, ↓tdSetD, ↓tdDrop, ↓tdRet, ↓tdIfS, ↓tdNext, ↓tdAsg, ↓tdV, ↓tdC, ↓tdBin, ↓tdB, ↓tdCons, ↓tdNil, ↓tdTup, ↓tdLst, ↓tdTest, ↓tdAnd, ↓tdOr, ↓tdNot, ↓tdIf, ↓tdAndV, ↓tdOrV, ↓tdNotV, ↓tdNeg, ↓tdIsN, ↓tdNotN, ↓tdSl, ↓tdPart, ↓tdNoPart, ↓tdM, ↓tdSetIx, ↓tdAug, ↓tdPut, ↓tdGet2, ↓tdIsi, ↓tdListRg, ↓gdName, ↓gdNil, ↓gdCons, ↓gdTup, ↓tdIt, ↓tdRng1, ↓tdRng2, ↓tdCall, ↓tdNew, ↓tdJoin, ↓gcName, ↓gcNil, ↓gcCons, ↓gcTup, ↓tdYes, ↓res, ↓resR, ↓resAll, ↓rvD, ↓rdLen, ↓rdInt, ↓rdAbs, ↓rdMax2, ↓rdMin2, ↓rdOrd, ↓rdTuple, ↓rdList, ↓rdIx, ↓rdAdd, ↓rdSub, ↓rdMul, ↓rdMod, ↓rdDiv, ↓rdPow, ↓rdCmp, ↓rdEq, ↓rdNe, ↓rdIadd, ↓rdIn, ↓rdSorted, ↓rdSl, ↓isT, ↓rdAppend, ↓itemsOf, ↓rvOf, ↓argsOf, ↓argOf, Nat.reduceAdd, Nat.reduceLT, Nat.reduceSub, Int.reduceLT, Int.reduceLE, Int.reduceAdd, Int.reduceEq, Int.reduceNeg, Nat.reduceLeDiff, Nat.zero_add, Nat.reduceEqDiff, Nat.reduceBEq, ix41, ix42, ix43, ix40, List.length_cons, List.length_nil, List.map_cons, List.map_nil, List.replicate, List.cons_append, List.nil_append, List.getElem?_cons_zero, List.getElem?_cons_succ, List.set_cons_zero, List.set_cons_succ, Option.map_some, at0, at1, at2, at3, ix0, ix1, ix2, ix3, sh_int, sh_bl, sh_non, eqv_int, eqv_bl, eqv_str, decide_eq_true_eq, Bool.not_eq_true, Bool.not_true, Bool.not_false, Bool.false_eq_true, true_and, and_true, if_true, if_false, ite_true, ite_false, List.length_map, List.length_set, Sl.isD, List.mem_singleton, List.mem_cons, List.not_mem_nil, not_true_eq_false, not_false_eq_true, or_false]
    subst hK
    refine seq_i fun Kc hK => ?_
    unfold tdFor
    simp only [outE_i, outE_n, sz0, sz1, sz2, sz3, sz4, sz5, sz6, sz7, sz8, sz9, sz10, sz11, sz12, sz13, sz14, sz15, sz16, ↓tdFr, ↓frE, ↓rdDivmod, ↓rdNotIn, ↓tdTru, ↓startE, ↓tdSeq, ↓tdSet, ↓tdSetD, ↓tdDrop, ↓tdRet, ↓tdIfS, ↓tdNext, ↓tdAsg, ↓tdV, ↓tdC, ↓tdBin, ↓tdB, ↓tdCons, ↓tdNil, ↓tdTup, ↓tdLst, ↓tdTest, ↓tdAnd, ↓tdOr, ↓tdNot, ↓tdIf, ↓tdAndV, ↓tdOrV, ↓tdNotV, ↓tdNeg, ↓tdIsN, ↓tdNotN, ↓tdSl, ↓tdPart, ↓tdNoPart, ↓tdM, ↓tdSetIx, ↓tdAug, ↓tdPut, ↓tdGet2, ↓tdIsi, ↓tdListRg, ↓gdName, ↓gdNil, ↓gdCons, ↓gdTup, ↓tdIt, ↓tdRng1, ↓tdRng2, ↓tdCall, ↓tdNew, ↓tdJoin, ↓gcName, ↓gcNil, ↓gcCons, ↓gcTup, ↓tdYes, ↓res, ↓resR, ↓resAll, ↓rvD, ↓rdLen, ↓rdInt, ↓rdAbs, ↓rdMax2, ↓rdMin2, ↓rdOrd, ↓rdTuple, ↓rdList, ↓rdIx, ↓rdAdd, ↓rdSub, ↓rdMul, ↓rdMod, ↓rdDiv, ↓rdPow, ↓rdCmp, ↓rdEq, ↓rdNe, ↓rdIadd, ↓rdIn, ↓rdSorted, ↓rdSl, ↓isT, ↓rdAppend, ↓itemsOf, ↓rvOf, ↓argsOf, ↓argOf, Nat.reduceAdd, Nat.reduceLT, Nat.reduceSub, Int.reduceLT, Int.reduceLE, Int.reduceAdd, Int.reduceEq, Int.reduceNeg, Nat.reduceLeDiff, Nat.zero_add, Nat.reduceEqDiff, Nat.reduceBEq, ix41, ix42, ix43, ix40, List.length_cons, List.length_nil, List.map_cons, List.map_nil, List.replicate, List.cons_append, List.nil_append, List.getElem?_cons_zero, List.getElem?_cons_succ, List.set_cons_zero, List.set_cons_succ, Option.map_some, at0, at1, at2, at3, ix0, ix1, ix2, ix3, sh_int, sh_bl, sh_non, eqv_int, eqv_bl, eqv_str, decide_eq_true_eq, Bool.not_eq_true, Bool.not_true, Bool.not_false, Bool.false_eq_true, true_and, and_true, if_true, if_false, ite_true, ite_false, List.length_map, List.length_set, Sl.isD, List.mem_singleton, List.mem_cons, List.not_mem_nil, not_true_eq_false, not_false_eq_true, or_false]
    refine ⟨⟨by omega, by omega⟩, go _ (fun tp hs ts x ht hp h0 => ?_) _⟩
    subst hK
    rw [h0, List.append_nil] at hp
    simp only [outE_i, outE_n, sz0, sz1, sz2, sz3, sz4, sz5, sz6, sz7, sz8, sz9, sz10, sz11, sz12, sz13, sz14, sz15, sz16, ↓tdFr, ↓frE, ↓rdDivmod, ↓rdNotIn, ↓tdTru, ↓startE, ↓tdSeq, ↓tdSet, ↓tdSetD, ↓tdDrop, ↓tdRet, ↓tdIfS, ↓tdNext, ↓tdAsg, ↓tdV, ↓tdC, ↓tdBin, ↓tdB, ↓tdCons, ↓tdNil, ↓tdTup, ↓tdLst, ↓tdTest, ↓tdAnd, ↓tdOr, ↓tdNot, ↓tdIf, ↓tdAndV, ↓tdOrV, ↓tdNotV, ↓tdNeg, ↓tdIsN, ↓tdNotN, ↓tdSl, ↓tdPart, ↓tdNoPart, ↓tdM, ↓tdSetIx, ↓tdAug, ↓tdPut, ↓tdGet2, ↓tdIsi, ↓tdListRg, ↓gdName, ↓gdNil, ↓gdCons, ↓gdTup, ↓tdIt, ↓tdRng1, ↓tdRng2, ↓tdCall, ↓tdNew, ↓tdJoin, ↓gcName, ↓gcNil, ↓gcCons, ↓gcTup, ↓tdYes, ↓res, ↓resR, ↓resAll, ↓rvD, ↓rdLen, ↓rdInt, ↓rdAbs, ↓rdMax2, ↓rdMin2, ↓rdOrd, ↓rdTuple, ↓rdList, ↓rdIx, ↓rdAdd, ↓rdSub, ↓rdMul, ↓rdMod, ↓rdDiv, ↓rdPow, ↓rdCmp, ↓rdEq, ↓rdNe, ↓rdIadd, ↓rdIn, ↓rdSorted, ↓rdSl, ↓isT, ↓rdAppend, ↓itemsOf, ↓rvOf, ↓argsOf, ↓argOf, Nat.reduceAdd, Nat.reduceLT, Nat.reduceSub, Int.reduceLT, Int.reduceLE, Int.reduceAdd, Int.reduceEq, Int.reduceNeg, Nat.reduceLeDiff, Nat.zero_add, Nat.reduceEqDiff, Nat.reduceBEq, ix41, ix42, ix43, ix40, List.length_cons, List.length_nil, List.map_cons, List.map_nil, List.replicate, List.cons_append, List.nil_append, List.getElem?_cons_zero, List.getElem?_cons_succ, List.set_cons_zero, List.set_cons_succ, Option.map_some, at0, at1, at2, at3, ix0, ix1, ix2, ix3, sh_int, sh_bl, sh_non, eqv_int, eqv_bl, eqv_str, decide_eq_true_eq, Bool.not_eq_true, Bool.not_true, Bool.not_false, Bool.false_eq_true, true_and, and_true, if_true, if_false, ite_true, ite_false, List.length_map, List.length_set, Sl.isD, List.mem_singleton, List.mem_cons, List.not_mem_nil, not_true_eq_false, not_false_eq_true, or_false]
    exact k _ _ _ hp ht rfl
  · refine seq_i fun Kc hK => ?_
    simp only [outE_i, outE_n, sz0, sz1, sz2, sz3, sz4, sz5, sz6, sz7, sz8, sz9, sz10, sz11, sz12, sz13, sz14, sz15, sz16, ↓tdFr, ↓frE, ↓rdDivmod, ↓rdNotIn, ↓tdTru, ↓startE, ↓tdSeq, ↓tdSet, ↓tdSetD, ↓tdDrop, ↓tdRet, ↓tdIfS, ↓tdNext, ↓tdAsg, ↓tdV, ↓tdC, ↓tdBin, ↓tdB, ↓tdCons, ↓tdNil, ↓tdTup, ↓tdLst, ↓tdTest, ↓tdAnd, ↓tdOr, ↓tdNot, ↓tdIf, ↓tdAndV, ↓tdOrV, ↓tdNotV, ↓tdNeg, ↓tdIsN, ↓tdNotN, ↓tdSl, ↓tdPart, ↓tdNoPart, ↓tdM, ↓tdSetIx, ↓tdAug, ↓tdPut, ↓tdGet2, ↓tdIsi, ↓tdListRg, ↓gdName, ↓gdNil, ↓gdCons, ↓gdTup, ↓tdIt, ↓tdRng1, ↓tdRng2, ↓tdCall, ↓tdNew, ↓tdJoin, ↓gcName, ↓gcNil, ↓gcCons, ↓gcTup, ↓tdYes, ↓res, ↓resR, ↓resAll, ↓rvD, ↓rdLen, ↓rdInt, ↓rdAbs, ↓rdMax2, ↓rdMin2, ↓rdOrd, ↓rdTuple, ↓rdList, ↓rdIx, ↓rdAdd, ↓rdSub, ↓rdMul, ↓rdMod, ↓rdDiv, ↓rdPow, ↓rdCmp, ↓rdEq, ↓rdNe, ↓rdIadd, ↓rdIn, ↓rdSorted, ↓rdSl, ↓isT, ↓rdAppend, ↓itemsOf, ↓rvOf, ↓argsOf, ↓argOf, Nat.reduceAdd, Nat.reduceLT, Nat.reduceSub, Int.reduceLT, Int.reduceLE, Int.reduceAdd, Int.reduceEq, Int.reduceNeg, Nat.reduceLeDiff, Nat.zero_add, Nat.reduceEqDiff, Nat.reduceBEq, ix41, ix42, ix43, ix40, List.length_cons, List.length_nil, List.map_cons, List.map_nil, List.replicate, List.cons_append, List.nil_append, List.getElem?_cons_zero, List.getElem?_cons_succ, List.set_cons_zero, List.set_cons_succ, Option.map_some, at0, at1, at2, at3, ix0, ix1, ix2, ix3, sh_int, sh_bl, sh_non, eqv_int, eqv_bl, eqv_str, decide_eq_true_eq, Bool.not_eq_true, Bool.not_true, Bool.not_false, Bool.false_eq_true, true_and, and_true, if_true, if_false, ite_true, ite_false, List.length_map, List.length_set, Sl.isD, List.mem_singleton, List.mem_cons, List.not_mem_nil, not_true_eq_false, not_false_eq_true, or_false]
    subst hK
    refine seq_i fun Kc hK => ?_
    simp only [outE_i, outE_n, sz0, sz1, sz2, sz3, sz4, sz5, sz6, sz7, sz8, sz9, sz10, sz11, sz12, sz13, sz14, sz15, sz16, ↓tdFr, ↓frE, ↓rdDivmod, ↓rdNotIn, ↓tdTru, ↓startE, ↓tdSeq, ↓tdSet, ↓tdSetD, ↓tdDrop, ↓tdRet, ↓tdIfS, ↓tdNext, ↓tdAsg, ↓tdV, ↓tdC, ↓tdBin, ↓tdB, ↓tdCons, ↓tdNil, ↓tdTup, ↓tdLst, ↓tdTest, ↓tdAnd, ↓tdOr, ↓tdNot, ↓tdIf, ↓tdAndV, ↓tdOrV, ↓tdNotV, ↓tdNeg, ↓tdIsN, ↓tdNotN, ↓tdSl, ↓tdPart, ↓tdNoPart, ↓tdM, ↓tdSetIx, ↓tdAug, ↓tdPut, ↓tdGet2, ↓tdIsi, ↓tdListRg, ↓gdName, ↓gdNil, ↓gdCons, ↓gdTup, ↓tdIt, ↓tdRng1, ↓tdRng2, ↓tdCall, ↓tdNew, ↓tdJoin, ↓gcName, ↓gcNil, ↓gcCons, ↓gcTup, ↓tdYes, ↓res, ↓resR, ↓resAll, ↓rvD, ↓rdLen, ↓rdInt, ↓rdAbs, ↓rdMax2, ↓rdMin2, ↓rdOrd, ↓rdTuple, ↓rdList, ↓rdIx, ↓rdAdd, ↓rdSub, ↓rdMul, ↓rdMod, ↓rdDiv, ↓rdPow, ↓rdCmp, ↓rdEq, ↓rdNe, ↓rdIadd, ↓rdIn, ↓rdSorted, ↓rdSl, ↓isT, ↓rdAppend, ↓itemsOf, ↓rvOf, ↓argsOf, ↓argOf, Nat.reduceAdd, Nat.reduceLT, Nat.reduceSub, Int.reduceLT, Int.reduceLE, Int.reduceAdd, Int.reduceEq, Int.reduceNeg, Nat.reduceLeDiff, Nat.zero_add, Nat.reduceEqDiff, Nat.reduceBEq, ix41, ix42, ix43, ix40, List.length_cons, List.length_nil, List.map_cons, List.map_nil, List.replicate, List.cons_append, List.nil_append, List.getElem?_cons_zero, List.getElem?_cons_succ, List.set_cons_zero, List.set_cons_succ, Option.map_some, at0, at1, at2, at3, ix0, ix1, ix2, ix3, sh_int, sh_bl, sh_non, eqv_int, eqv_bl, eqv_str, decide_eq_true_eq, Bool.not_eq_true, Bool.not_true, Bool.not_false, Bool.false_eq_true, true_and, and_true, if_true, if_false, ite_true, ite_false, List.length_map, List.length_set, Sl.isD, List.mem_singleton, List.mem_cons, List.not_mem_nil, not_true_eq_false, not_false_eq_true, or_false]
    subst hK
    refine seq_i fun Kc hK => ?_
    unfold tdFor
    simp only [outE_i, outE_n, sz0, sz1, sz2, sz3, sz4, sz5, sz6, sz7, sz8, sz9, sz10, sz11, sz12, sz13, sz14, sz15, sz16, ↓tdFr, ↓frE, ↓rdDivmod, ↓rdNotIn, ↓tdTru, ↓startE, ↓tdSeq, ↓tdSet, ↓tdSetD, ↓tdDrop, ↓tdRet, ↓tdIfS, ↓tdNext, ↓tdAsg, ↓tdV, ↓tdC, ↓tdBin, ↓tdB, ↓tdCons, ↓tdNil, ↓tdTup, ↓tdLst, ↓tdTest, ↓tdAnd, ↓tdOr, ↓tdNot, ↓tdIf, ↓tdAndV, ↓tdOrV, ↓tdNotV, ↓tdNeg, ↓tdIsN, ↓tdNotN, ↓tdSl, ↓tdPart, ↓tdNoPart, ↓tdM, ↓tdSetIx, ↓tdAug, ↓tdPut, ↓tdGet2, ↓tdIsi, ↓tdListRg, ↓gdName, ↓gdNil, ↓gdCons, ↓gdTup, ↓tdIt, ↓tdRng1, ↓tdRng2, ↓tdCall, ↓tdNew, ↓tdJoin, ↓gcName, ↓gcNil, ↓gcCons, ↓gcTup, ↓tdYes, ↓res, ↓resR, ↓resAll, ↓rvD, ↓rdLen, ↓rdInt, ↓rdAbs, ↓rdMax2, ↓rdMin2, ↓rdOrd, ↓rdTuple, ↓rdList, ↓rdIx, ↓rdAdd, ↓rdSub, ↓rdMul, ↓rdMod, ↓rdDiv, ↓rdPow, ↓rdCmp, ↓rdEq, ↓rdNe, ↓rdIadd, ↓rdIn, ↓rdSorted, ↓rdSl, ↓isT, ↓rdAppend, ↓itemsOf, ↓rvOf, ↓argsOf, ↓argOf, Nat.reduceAdd, Nat.reduceLT, Nat.reduceSub, Int.reduceLT, Int.reduceLE, Int.reduceAdd, Int.reduceEq, Int.reduceNeg, Nat.reduceLeDiff, Nat.zero_add, Nat.reduceEqDiff, Nat.reduceBEq, ix41, ix42, ix43, ix40, List.length_cons, List.length_nil, List.map_cons, List.map_nil, List.replicate, List.cons_append, List.nil_append, List.getElem?_cons_zero, List.getElem?_cons_succ, List.set_cons_zero, List.set_cons_succ, Option.map_some, at0, at1, at2, at3, ix0, ix1, ix2, ix3, sh_int, sh_bl, sh_non, eqv_int, eqv_bl, eqv_str, decide_eq_true_eq, Bool.not_eq_true, Bool.not_true, Bool.not_false, Bool.false_eq_true, true_and, and_true, if_true, if_false, ite_true, ite_false, List.length_map, List.length_set, Sl.isD, List.mem_singleton, List.mem_cons, List.not_mem_nil, not_true_eq_false, not_false_eq_true, or_false]
    refine ⟨⟨by omega, by omega⟩, go _ (fun tp hs ts x ht hp h0 => ?_) _⟩
    subst hK
    rw [h0, List.append_nil] at hp
    simp only [outE_i, outE_n, sz0, sz1, sz2, sz3, sz4, sz5, sz6, sz7, sz8, sz9, sz10, sz11, sz12, sz13, sz14, sz15, sz16, ↓tdFr, ↓frE, ↓rdDivmod, ↓rdNotIn, ↓tdTru, ↓startE, ↓tdSeq, ↓tdSet, ↓tdSetD, ↓tdDrop, ↓tdRet, ↓tdIfS, ↓tdNext, ↓tdAsg, ↓tdV, ↓tdC, ↓tdBin, ↓tdB, ↓tdCons, ↓tdNil, ↓tdTup, ↓tdLst, ↓tdTest, ↓tdAnd, ↓tdOr, ↓tdNot, ↓tdIf, ↓tdAndV, ↓tdOrV, ↓tdNotV, ↓tdNeg, ↓tdIsN, ↓tdNotN, ↓tdSl, ↓tdPart, ↓tdNoPart, ↓tdM, ↓tdSetIx, ↓tdAug, ↓tdPut, ↓tdGet2, ↓tdIsi, ↓tdListRg, ↓gdName, ↓gdNil, ↓gdCons, ↓gdTup, ↓tdIt, ↓tdRng1, ↓tdRng2, ↓tdCall, ↓tdNew, ↓tdJoin, ↓gcName, ↓gcNil, ↓gcCons, ↓gcTup, ↓tdYes, ↓res, ↓resR, ↓resAll, ↓rvD, ↓rdLen, ↓rdInt, ↓rdAbs, ↓rdMax2, ↓rdMin2, ↓rdOrd, ↓rdTuple, ↓rdList, ↓rdIx, ↓rdAdd, ↓rdSub, ↓rdMul, ↓rdMod, ↓rdDiv, ↓rdPow, ↓rdCmp, ↓rdEq, ↓rdNe, ↓rdIadd, ↓rdIn, ↓rdSorted, ↓rdSl, ↓isT, ↓rdAppend, ↓itemsOf, ↓rvOf, ↓argsOf, ↓argOf, Nat.reduceAdd, Nat.reduceLT, Nat.reduceSub, Int.reduceLT, Int.reduceLE, Int.reduceAdd, Int.reduceEq, Int.reduceNeg, Nat.reduceLeDiff, Nat.zero_add, Nat.reduceEqDiff, Nat.reduceBEq, ix41, ix42, ix43, ix40, List.length_cons, List.length_nil, List.map_cons, List.map_nil, List.replicate, List.cons_append, List.nil_append, List.getElem?_cons_zero, List.getElem?_cons_succ, List.set_cons_zero, List.set_cons_succ, Option.map_some, at0, at1, at2, at3, ix0, ix1, ix2, ix3, sh_int, sh_bl, sh_non, eqv_int, eqv_bl, eqv_str, decide_eq_true_eq, Bool.not_eq_true, Bool.not_true, Bool.not_false, Bool.false_eq_true, true_and, and_true, if_true, if_false, ite_true, ite_false, List.length_map, List.length_set, Sl.isD, List.mem_singleton, List.mem_cons, List.not_mem_nil, not_true_eq_false, not_false_eq_true, or_false]
    exact k _ _ _ hp ht rfl
end DL

set_option Elab.async false
set_option linter.all false
set_option maxRecDepth 100000
set_option maxHeartbeats 4000000
set_option autoImplicit false
namespace DL
open PySem PySem.Spec PyProof.Rows L2
/-! ### promises of defs that are run where no guard stands (so repr may be asked) -/
structure FnG (P : Program) (w : World) (K : PySem.W.Frag) (mg : Str → Option Value) (base : Heap) (k : Nat) (f : Addr) (fd : FuncData) (ps : List Str) (sp : Sp) : Prop where
  len : ∀ vs H Q E, sp vs H Q E → vs.length = ps.length
  run : ∀ (B : Around) (out : List Env) (s : Shared) (H : Hp) (ar : Args) (us : List Value) (vs : List V) (Q : VK) (E : XK), Room k B → B.guards = some [] → Env0 P w K mg base B out s H →
    BindsTo s fd ar (ps.zip us) → Vals vs us → sp vs H Q E → codeAny (model P w) B (.call (.ref f) ar) (CR CX0 out P w H s Q E) s
section
variable {P : Program} {w : World} {K : PySem.W.Frag} {mg : Str → Option Value} {base : Heap}
theorem FnG.mono {j k : Nat} {f : Addr} {fd : FuncData} {ps : List Str} {sp : Sp} (F : FnG P w K mg base j f fd ps sp) (h : j ≤ k) : FnG P w K mg base k f fd ps sp :=
  ⟨F.len, fun B out s H ar us vs Q E hr => F.run B out s H ar us vs Q E (hr.mono h)⟩
/-- a def's promise by its body -/
theorem fng_of {k : Nat} {f : Addr} {name qual : Str} {pa : Arguments} {body : List Stmt} {sc : Scope} {dV kV doc pm cd ct oc : Value} {an od : Option Addr} {osl : Array (Option Value)} {N ps : List Str} {sp : Sp}
    (at_ : K.lookup f = some ⟨oc, od, .func (PySem.W.fnOf name qual pa body sc dV kV doc pm an cd ct), osl⟩) (hcd : PySem.W.codeIn K cd qual = true) (S : FnScope N ps sc)
    (len : ∀ vs H Q E, sp vs H Q E → vs.length = ps.length)
    (run : ∀ (B : Around) (out : List Env) (s : Shared) (H : Hp) (vs : List V) (Q : VK) (E : XK), Room k (B.deeper (envOfC qual sc s.heap.objs.size f cd)) → B.guards = some [] → sp vs H Q E →
      ∃ t, PSs (cxOf CX0 P w K mg base N qual sc f cd B out s H E) body t ∧ t { nx := fun _ H1 => Q .non H1, rt := Q } (L2.start N vs) H) :
    FnG P w K mg base (k + 1) f (PySem.W.fnOf name qual pa body sc dV kV doc pm an cd ct) ps sp := by
  constructor
  · exact len
  intro B out s H ar us vs Q E room gd env bind vals prom
  have ln := len _ _ _ _ prom
  have inK : K.In s.heap := env.mod.kin.keeps fun b o z => (env.bs b o z).1
  have nl : s.heap.NoLimit := env.mod.nolimit.keeps fun b o z => (env.bs b o z).1
  refine codeAny_call_function room.depth (inK _ _ at_) rfl S.co S.gen rfl (PySem.W.codeRec_of inK hcd) (bind _ _ _ _ ?_)
  refine wpAny_newFunctionEnv_cells S.kind (fun y hy => ?_) (fun en heq t x => ?_)
  · obtain ⟨n, v⟩ := y
    cases S.par n (List.of_mem_zip hy).1 with
    | inl q => exact Or.inl q
    | inr q => exact Or.inr ⟨q, PySem.W.cellsFrom_some _ _ _ (Or.inl q)⟩
  · subst heq
    constructor
    · exact nl.keeps x.toInCall.keep
    refine codeAny_func ?_
    obtain ⟨rd, pf, go⟩ := run B out s H vs Q E (room.deeper _) gd prom
    have I := inv_start (E := E) (CX := CX0) S room.hd env ln vals x
    refine wpAny_mono (pf.run [] t (L2.start N vs) H _ I go) (fun fl u hu => ?_) (fun _ _ hu => hu)
    have close : ∀ {σ : L2.St} {H1 : Hp} {v : V} {z : Value}, Inv (cxOf CX0 P w K mg base N qual sc f cd B out s H E) [] σ H1 u → RelV v z → Q v H1 → CE out P w H s Q z u :=
      fun {σ H1 v z} J r q => ⟨v, H1, J.os, J.bare, J.base, J.hok, r, q⟩
    match fl, hu with
    | .ret z, ⟨v, σ, H1, J, r, q⟩ => exact close J r q
    | .next, ⟨σ, H1, J, q⟩ => exact close (v := V.non) (z := Value.none) J rfl q
    | .brk, ⟨_, _, _, q⟩ => exact q.elim
    | .cont, ⟨_, _, _, q⟩ => exact q.elim
theorem fndG {x qual : Str} {st : Stmt} {f : Addr} {fd : FuncData} {Ns ps : List Str} {k : Nat} {N : List Nat × List Nat} {n : Nat} {sp : FD}
    (F : Fun K x qual st f fd) (S : FnScope Ns ps (defScope st)) (hn : ps.length = n)
    (hb : ∀ (cdv : Value) (A : Around) (outer : List Env) (s : Shared) (H : Hp) (E : XK), Room k (A.deeper (PyProof.Rows.envOfC qual (defScope st) s.heap.objs.size f cdv)) → A.guards = some [] →
      ∃ t, PSDs (cxOf CX0 P w K mg base Ns qual (defScope st) f cdv A outer s H E).nox N (defBody st) t ∧ ∀ (args : List Sl) (Q : Sl → (Nat → Option Sl) → Prop), args.length = n → sp args Q → t { nx := fun env => Q (.d .none) (osOf env), rt := fun r env => Q r (osOf env) } (startE Ns.length args)) :
    FnG P w K mg base (k + 1) f fd ps (spD K N n sp) := by
  obtain ⟨oc, od, kV, doc, pm, an, cdv, ct, osl, rfl, lk, hcd⟩ := F.ex
  refine fng_of lk hcd S (fun vs H Q E h => by rw [hn]; exact spD_len h) fun A outer s H vs Q E hr hg h => ?_
  obtain ⟨t, hp, ht⟩ := hb cdv A outer s H E hr hg
  obtain ⟨ts, p1, q1⟩ := body_go (X := (cxOf CX0 P w K mg base Ns qual (defScope st) f cdv A outer s H E).nox) hp ht h
  exact ⟨ts, p1.nox, q1⟩
end
section
variable {X : Cx} {k n : Nat} {f : Addr} {fd : FuncData} {ps : List Str} {N : List Nat × List Nat} {g : FD} {x : Str} {p pos : Pos} {e : Expr} {es : List Expr} {ta : TDA}
theorem pd_callG (F : FnG X.prog X.w X.K X.mg X.base k f fd ps (spD X.K N n g)) (hr : Room k X.A ∧ X.A.guards = some []) (hg : Gl X x) (hm : X.mg x = some (.ref f)) (hk : PySem.W.keepIn X.K (.ref f) = true) (hb : Binds X.K fd ps [])
    (ha : PDA X (e :: es) ta) (hN : N.1.length ≤ 1 := by decide) (hdb : (x == ("__debug__" : Str)) = false := by decide) (he : starEach (e :: es) X.env = (false, eval e X.env) :: starEach es X.env := by rfl) (hpl : (backTo pos (starEach es X.env)).any (·.1) = false := by rfl) :
    PD X (.Call (.Name x p) (e :: es) [] pos) (tdCall N n g ta) := by
  refine pd_callP (E0 := fun _ _ _ => False) (fun t pt => ⟨fun pins s σ H Q I h => ?_⟩) ha hN
  refine wpAny_Call_Name_kw (ld_glob I hg hm ?_ hdb)
  refine PySem.W.callWith_K (h₀ := X.base) I.ok.mod.kin hk (thn (pt.run pos pins s σ H _ I h) ?_) he hpl
  intro us s1 ⟨vs, H1, I1, r, q⟩
  refine ⟨I1.kIn, ?_⟩
  have r2 : Vals (vs ++ []) (us ++ []) := r.append .nil
  have hl : (us ++ []).length = ps.length := by rw [← r2.length]; exact F.len _ _ _ _ q
  refine wpAny_call (codeAny_mono (F.run X.A X.stack s1 H1 ⟨us, []⟩ (us ++ []) (vs ++ []) Q _ hr.1 hr.2 I1.env0 (hb s1 us I1.kIn hl) r2 q) fun z s2 hz => ?_)
  match z, hz with
  | .error er, hz => exact hz.elim
  | .ok (.ret u), hz => exact I1.after hz
  | .ok .next, hz => exact hz.elim
  | .ok .brk, hz => exact hz.elim
  | .ok .cont, hz => exact hz.elim
/-- repr of data -/
def rdRepr : List PyData → (Rv → Prop) → Prop
  | [d], Q => (d.showable = true ∧ d.hasDict = false ∧ d.depth ≤ 64 ∧ d.shown.length ≤ sizeLine) ∧ Q (.d (.str d.shown))
  | _, _ => False
theorem bd_repr (hu : X.A.units + 66 < cLine) (hg : X.A.guards = some []) : BD X (.builtin "repr") rdRepr := by
  refine ⟨fun vs H Q => ∃ v d, vs = [v] ∧ Dp X.K H v d ∧ (d.showable = true ∧ d.hasDict = false ∧ d.depth ≤ 64 ∧ d.shown.length ≤ sizeLine) ∧ Q (.str d.shown) H, fun pins s σ H xs us Q I r h => ?_, fun H W vs xs Q Qd hw r q kk => ?_⟩
  · obtain ⟨v, d, rfl, hd, ⟨h1, h2, h3, h4⟩, q⟩ := h
    obtain ⟨u, rfl, ru⟩ := vals1 r
    have fin : ∀ h' tk tk', (∀ b o, s.heap.get? b = some o → h'.get? b = some o) → EP X pins σ Q (.str d.shown tk) { s with heap := h', toks := tk' } := fun h' tk tk' ke => ⟨.str _, H, I.kept ke, ⟨_, rfl⟩, q⟩
    have keep0 : ∀ b o, s.heap.get? b = some o → s.heap.get? b = some o := fun _ _ e => e
    have big : ∀ a as, u = .ref a → Reads s.heap u d as → wpAny (model X.prog X.w) X.A (call (.builtin "repr") [u]) (EP X pins σ Q) X.xe s := fun a as e rd => by
      subst e
      exact repr_of_reads' rd h1 (PyData.noDict_hsm h2) hg (by omega) keep0 (fun h' tk tk' ke => fin h' tk tk' ke) h4
    obtain ⟨as, rd⟩ := Dp.reads I d v u hd ru
    cases d with
    | none =>
      cases hd; cases ru
      exact PySem.P.repr_of_none (by simpa [PyData.shown] using fin s.heap s.toks (s.toks + 1) keep0)
    | bool b =>
      cases hd; cases ru
      exact PySem.P.repr_of_bool (by simpa [PyData.shown] using fin s.heap s.toks (s.toks + 1) keep0)
    | int i =>
      cases hd
      obtain ⟨t, rfl⟩ := ru
      exact PySem.P.repr_of_int (by simpa [PyData.showable] using h1) (by simpa [PyData.shown] using fin s.heap s.toks (s.toks + 1) keep0)
    | str z =>
      cases hd
      obtain ⟨t, rfl⟩ := ru
      have h4' : (reprText z).length ≤ sizeLine := by simpa [PyData.shown] using h4
      exact PySem.P.repr_of_str (by simpa [PyData.shown] using fin s.heap s.toks (s.toks + 1) keep0) h4'
    | list xs =>
      cases hd with
      | lst a b => exact big _ _ ru rd
    | tuple xs =>
      cases hd with
      | tup a b => exact big _ _ ru rd
    | dict kv => cases hd
  · unfold rdRepr at q
    split at q
    · obtain ⟨v, rfl, d⟩ := dqall1 r
      exact ⟨v, _, rfl, d.dp, q.1, kk.str q.2⟩
    · exact q.elim
theorem bt_repr : bootBuiltins "repr" = some (.builtin "repr") := by decide +kernel
end
/-! ### the law's call, from where no guard stands -/
theorem walk_ofG {l : PySem.W.OpenLaw} {n k : Nat} {q : Program} {loose : List Str} {XP : (Str → Option Value) → Heap → Prop} {YP : World → Heap → Prop} {d : DefRec} {K : Params → PySem.W.Frag} {sp : World → Sp} {x : Str}
    (hn : l.most = some n) (hn2 : n ≤ sizeLine) (hdf : d.params.defaults = []) (hr : Room k callerA) (hY : ∀ (w : World) (h : Heap), YP w h → (K w.params).In h)
    (F : ∀ (w : World) (mg : Str → Option Value) (fa : Addr) (h : Heap), (K w.params).In h → h.Ns mainGlobals mg → mg d.name = some (.ref fa) →
      ∃ fd : FuncData, (∀ (s : Shared) (u : Value), BindsTo s fd ⟨[u], []⟩ [(x, u)]) ∧
        ∀ base : Heap, (K w.params).In base → base.Ns mainGlobals mg → FnG l.prog w (K w.params) mg base k fa fd [x] (sp w))
    (hsp : ∀ (w : World) (H : Hp) (a : Addr) (ns : List Int), ns.length ≤ n → Only H → SqL (K w.params) H a (ns.map V.int) → sp w [.ref a] H (fun v _ => v = .bl true) fun _ _ _ => False) :
    PySem.W.WalkO q loose XP YP l.row.toRowW d [] (fun f vs => PySem.call f vs) := by
  refine Att.attach_call hn hdf ?_
  intro w s₀ s mg mb fa o pm cd doc a vs ns G Y ho hd hcd hmg sat isI hlen gens
  have inK := hY w _ Y
  obtain ⟨fd, bind, prom⟩ := F w mg fa _ inK G.T.g hmg
  -- what is tracked: the script, unless the module holds it
  obtain ⟨H, only, seq, hok, just, free⟩ : ∃ H : Hp, Only H ∧ SqL (K w.params) H a (ns.map V.int) ∧ HOk l.prog w H s.heap ∧ (∀ b, H b ≠ none → b = a) ∧ (H a ≠ none → (K w.params).lookup a = none) := by
    cases lk : (K w.params).lookup a with
    | some u =>
      have same : s.heap.get? a = some u := inK a u lk
      rw [sat] at same
      cases same
      refine ⟨fun _ => none, fun _ => Or.inl rfl, Or.inr ⟨_, vs.toArray, 0, lk, rfl, rfl, rfl, ?_, ?_⟩, (fun b u (z : (none : Option HO) = some u) => (by cases z)), fun b z => absurd rfl z, fun z => absurd rfl z⟩
      · rw [List.size_toArray, isI.length]
        exact Nat.le_trans hlen hn2
      · have := vals_ints isI
        simpa using this
    | none =>
      let sc : HO := .frz { cls := .type "list", data := .seq vs.toArray } (.lst (ns.map V.int))
      refine ⟨fun b => if b = a then some sc else none, fun b => ?_, Or.inl (Or.inr ⟨{ cls := .type "list", data := .seq vs.toArray }, if_pos rfl⟩), fun b u z => ?_, fun b z => ?_, fun _ => rfl⟩
      · by_cases c : b = a
        · exact Or.inr ⟨_, _, if_pos c⟩
        · exact Or.inl (if_neg c)
      · by_cases c : b = a
        · have z2 := (if_pos c).symm.trans z
          cases z2
          subst c
          exact ⟨sat, by rw [List.length_map]; exact Nat.le_trans hlen hn2, vs, 0, vals_ints isI, sat⟩
        · have z2 := (if_neg c).symm.trans z
          cases z2
      · exact Classical.byContradiction fun c => z (if_neg c)
  have lst : ∀ {b : Addr} {o : Obj}, s.heap.get? b = some o → H b ≠ none → o = { cls := .type "list", data := .seq vs.toArray } := fun e z => by
    rw [just _ z, sat] at e
    exact (Option.some.inj e).symm
  have ns_ : ∀ {b : Addr} {m : Str → Option Value}, s.heap.Ns b m → (hidT s.heap H).Ns b m := fun {b m} ⟨o, es, ep, e, d, r⟩ => by
    refine ⟨o, es, ep, hidT_get e (Classical.byContradiction fun z => ?_), d, r⟩
    rw [lst e z] at d
    exact (nomatch (show Data.seq vs.toArray 0 = Data.dict es ep from d))
  have kin : (K w.params).In (hidT s.heap H) := fun b o e => hidT_get (inK b o e) (Classical.byContradiction fun z => by
    have c := just b z
    subst c
    rw [free z] at e
    cases e)
  obtain ⟨mc, lim1, lim2⟩ := G.T.nolimit
  have md : Mod (K w.params) mg (hidT s.heap H) := ⟨kin, ns_ G.T.g, ⟨mb, ns_ G.T.b, G.T.builtins⟩, ⟨mc, ns_ lim1, lim2⟩⟩
  have e0 : Env0 l.prog w (K w.params) mg (hidT s.heap H) callerA [] s H :=
    { frames := rfl, mod := md, bs := fun b o e => of_hidT e, bsz := Nat.le_of_eq (hidT_size _ _), funs := trivial, frf := fun b hb => absurd hb List.not_mem_nil, hok := hok, bare := .of_eq gens }
  refine codeAny_mono ((prom _ kin (ns_ G.T.g)).run callerA [] s H ⟨[.ref a], []⟩ [.ref a] [.ref a] _ _ hr rfl e0 (bind s (.ref a)) (.cons rfl .nil) (hsp w H a ns hlen only seq)) ?_
  intro r s' h
  match r, h with
  | .error e, h => exact h.elim
  | .ok .next, h => exact h.elim
  | .ok .brk, h => exact h.elim
  | .ok .cont, h => exact h.elim
  | .ok (.ret u), ⟨v, H', os, bare, un, hok', rv, qv⟩ =>
    have e1 : v = .bl true := qv
    subst e1
    have e2 : u = Value.bool true := rv
    subst e2
    refine ⟨rfl, OldK.of_keep (fun b o e => ?_), os, bare⟩
    cases z : H b with
    | none => exact un.keep b o e z (fun m => absurd m List.not_mem_nil) List.not_mem_nil
    | some u =>
      rcases only b with y | ⟨ob, xs, y⟩
      · rw [y] at z; cases z
      · have f1 := (hok b _ y).1
        have f2 := (hok' b _ (un.frzs b ob _ y)).1
        rw [e] at f1
        cases f1
        exact f2
end DL

set_option Elab.async false
set_option linter.all false
set_option maxRecDepth 100000
set_option maxHeartbeats 4000000
set_option autoImplicit false
namespace DL
open PySem PySem.Spec L2
theorem u66 {k : Nat} {A : Around} (r : Room k A) : A.units + 66 < cLine := by have := r.un; omega
/-- (a, b, ..) = a list of that length -/
def gdLst (n : Nat) (t : TDGs) : TDG := fun x env Q => match x with
  | .list xs => xs.length = n ∧ t xs env Q
  | _ => False
section
variable {X : Cx} {N : List Nat × List Nat} {es : List Expr} {u : TDGs} {pos : Pos}
theorem pdg_lst {k n : Nat} (hc : X.calm = true) (h : PDGs X N es u) (hn : (assignEach es X.env).length = n := by rfl) (hst : (assignEach es X.env).findIdx? (·.1) = none := by rfl) : PDG X N (.Tuple es k pos) (gdLst n u) := by
  obtain ⟨g, p, q⟩ := h
  refine ⟨_, pg_unl hc p hn hst, fun B v x σ H W A env Q Qd hB R d h k => ?_⟩
  cases x with
  | list xs =>
    cases d with
    | lst s r => exact ⟨_, _, rfl, hw_same.seq s, r.len.trans h.1, q B _ _ σ H W A env Q Qd hB R r h.2 k⟩
  | _ => exact h.elim
end
section
variable {X : Cx}
def rdMax3 : List PyData → (Rv → Prop) → Prop
  | [.int i, .int j, .int k], Q => Q (.d (.int (if k > (if j > i then j else i) then k else (if j > i then j else i))))
  | _, _ => False
def rdMin3 : List PyData → (Rv → Prop) → Prop
  | [.int i, .int j, .int k], Q => Q (.d (.int (if k < (if j < i then j else i) then k else (if j < i then j else i))))
  | _, _ => False
theorem dqall3 {K : PySem.W.Frag} {H : Hp} {W : List Addr} {vs : List V} {x y z : PyData} (h : DqAll K H W vs [x, y, z]) : ∃ v u w, vs = [v, u, w] ∧ Dq K H W v x ∧ Dq K H W u y ∧ Dq K H W w z := by
  cases h with
  | cons a b => cases b with
    | cons b c => cases c with
      | cons c d => cases d; exact ⟨_, _, _, rfl, a, b, c⟩
theorem nu_max2 (i j : Int) : nuMax2 (.int i) (.int j) = some (.int (if j > i then j else i)) := by
  show (some (decide (i < j))).map (fun c => if c = true then V.int j else V.int i) = _
  by_cases h : j > i
  · rw [if_pos h, decide_eq_true (show i < j from h)]; rfl
  · rw [if_neg h, decide_eq_false (show ¬ i < j from h)]; rfl
theorem nu_max3 (i j k : Int) : nuMax3 (.int i) (.int j) (.int k) = some (.int (if k > (if j > i then j else i) then k else (if j > i then j else i))) := by
  unfold nuMax3
  rw [nu_max2, Option.bind_some, nu_max2]
theorem bd_max3 (hc : X.calm = true) : BD X (.builtin "max") rdMax3 := by
  refine ⟨_, call_max3Nu hc, fun H W vs xs Q Qd hw r q k => ?_⟩
  unfold rdMax3 at q
  split at q
  · obtain ⟨v, u, w, rfl, d, d2, d3⟩ := dqall3 r
    rw [d.int, d2.int, d3.int]
    exact ⟨_, _, _, _, rfl, nu_max3 _ _ _, k.int q⟩
  · exact q.elim
/-- max, min of one list of ints -/
def rdMaxL : List PyData → (Rv → Prop) → Prop
  | [.list xs], Q => ∃ ns : List Int, xs = ns.map .int ∧ 0 < ns.length ∧ ∀ m, m ∈ ns → (∀ y, y ∈ ns → y ≤ m) → Q (.d (.int m))
  | _, _ => False
def rdMinL : List PyData → (Rv → Prop) → Prop
  | [.list xs], Q => ∃ ns : List Int, xs = ns.map .int ∧ 0 < ns.length ∧ ∀ m, m ∈ ns → (∀ y, y ∈ ns → m ≤ y) → Q (.d (.int m))
  | _, _ => False
theorem bd_maxL (hc : X.calm = true) : BD X (.builtin "max") rdMaxL := by
  refine ⟨_, cr_max hc, fun H W vs xs Q Qd hw r q k => ?_⟩
  unfold rdMaxL at q
  split at q
  · obtain ⟨v, rfl, d⟩ := dqall1 r
    obtain ⟨ns, rfl, h0, q⟩ := q
    obtain ⟨a, us, rfl, s, da⟩ := d
    rw [da.ints] at s
    exact ⟨a, ns, rfl, s, h0, fun m h1 h2 => k.int (q m h1 h2)⟩
  · exact q.elim
theorem bd_minL (hc : X.calm = true) : BD X (.builtin "min") rdMinL := by
  refine ⟨_, cr_min hc, fun H W vs xs Q Qd hw r q k => ?_⟩
  unfold rdMinL at q
  split at q
  · obtain ⟨v, rfl, d⟩ := dqall1 r
    obtain ⟨ns, rfl, h0, q⟩ := q
    obtain ⟨a, us, rfl, s, da⟩ := d
    rw [da.ints] at s
    exact ⟨a, ns, rfl, s, h0, fun m h1 h2 => k.int (q m h1 h2)⟩
  · exact q.elim
end
/-- == where two texts need no look -/
def rdEqS : PyData → PyData → (Rv → Prop) → Prop
  | .str x, .str y, Q => Q (.d (.bool (decide (x = y))))
  | a, b, Q => rdEq a b Q
theorem od_eqS {X : Cx} (hu : X.A.units + 64 < cLine) : OpD X (compareOp .Eq) rdEqS := by
  refine ⟨_, orR op_eq (op_eqD hu), fun H W x y a b Q Qd hw ra rb q k => ?_⟩
  unfold rdEqS at q
  split at q
  · rename_i a b
    refine .inl ?_
    rw [ra.str, rb.str]
    refine ⟨rfl, ?_⟩
    have e : decide (V.str a = V.str b) = decide (a = b) := by
      by_cases c : a = b
      · subst c; simp
      · rw [decide_eq_false c, decide_eq_false fun z => c (by injection z)]
    rw [e]
    exact k.bl q
  · obtain ⟨h1, h2, q⟩ := q
    exact .inr ⟨_, _, ra.dp, rb.dp, h1, h2, k.bl q⟩
end DL

set_option Elab.async false
set_option linter.all false
set_option maxRecDepth 100000
set_option maxHeartbeats 4000000
set_option autoImplicit false
namespace DL
open PySem PySem.Spec L2
/-! ### texts and data that may be compared, shown -/
def Sg (z : Str) : Prop := z.cps.all (· < 0x110000) = true
theorem sg_app {a b : Str} (h : Sg a) (h2 : Sg b) : Sg (a ++ b) := by
  unfold Sg at *
  show (a.cps ++ b.cps).all _ = true
  rw [Array.all_append, h, h2]; rfl
theorem sg_one {z : Str} (h : Sg z) {c : Nat} (hc : c ∈ z.cps.toList) : Sg ⟨#[c]⟩ := by
  unfold Sg at *
  have := Array.all_eq_true_iff_forall_mem.mp h c (by simpa using hc)
  simpa using this
theorem len_app (a b : Str) : (a ++ b).length = a.length + b.length := by
  show (a.cps ++ b.cps).size = _
  rw [Array.size_append]; rfl
theorem sh_str {z : Str} (h : Sg z) : SeqAt.shaped (.str z) = true := by
  simp only [SeqAt.shaped, PyData.canLay0, PyData.depth, Bool.and_eq_true]
  exact ⟨h, decide_eq_true (Nat.zero_le _)⟩
theorem lay_map {α : Type} (f : α → PyData) : ∀ l : List α, (∀ x ∈ l, (f x).canLay0 = true ∧ (f x).depth = 0) → PyData.canLayAll0 (l.map f) = true ∧ PyData.depthAll (l.map f) = 0
  | [], _ => by simp [PyData.canLayAll0, PyData.depthAll]
  | a :: r, h => by
    obtain ⟨h1, h2⟩ := lay_map f r fun x hx => h x (List.mem_cons_of_mem _ hx)
    obtain ⟨h3, h4⟩ := h a List.mem_cons_self
    simp [PyData.canLayAll0, PyData.depthAll, h1, h2, h3, h4]
theorem sh_map {α : Type} (f : α → PyData) (l : List α) (h : ∀ x ∈ l, (f x).canLay0 = true ∧ (f x).depth = 0) : SeqAt.shaped (.list (l.map f)) = true ∧ SeqAt.shaped (.tuple (l.map f)) = true := by
  obtain ⟨h1, h2⟩ := lay_map f l h
  simp [SeqAt.shaped, PyData.canLay0, PyData.depth, h1, h2]
theorem lay_str {z : Str} (h : Sg z) : (PyData.str z).canLay0 = true ∧ (PyData.str z).depth = 0 := by
  simp only [PyData.canLay0, PyData.depth, and_true]
  exact h
theorem lay_bool (b : Bool) : (PyData.bool b).canLay0 = true ∧ (PyData.bool b).depth = 0 := by simp [PyData.canLay0, PyData.depth]
theorem lay_int (b : Int) : (PyData.int b).canLay0 = true ∧ (PyData.int b).depth = 0 := by simp [PyData.canLay0, PyData.depth]
theorem eqv_map {α : Type} [DecidableEq α] (f : α → PyData) (hf : ∀ a b, PyData.eqv (f a) (f b) = decide (a = b)) : ∀ a b : List α, PyData.eqvAll (a.map f) (b.map f) = decide (a = b)
  | [], [] => by simp [PyData.eqvAll]
  | [], _ :: _ => by simp [PyData.eqvAll]
  | _ :: _, [] => by simp [PyData.eqvAll]
  | x :: a, y :: b => by
    rw [List.map_cons, List.map_cons, PyData.eqvAll, hf, eqv_map f hf a b]
    by_cases h : x = y
    · subst h; simp
    · simp [h]
theorem eqv_strs (a b : List Str) : PyData.eqv (.list (a.map .str)) (.list (b.map .str)) = decide (a = b) ∧ PyData.eqv (.tuple (a.map .str)) (.tuple (b.map .str)) = decide (a = b) := by
  have := eqv_map PyData.str (fun a b => eqv_str) a b
  exact ⟨by rw [PyData.eqv]; exact this, by rw [PyData.eqv]; exact this⟩
theorem any_bools {α : Type} (p : α → Bool) (l : List α) : ((l.map fun x => PyData.bool (p x)).any fun z => PyData.eqv z (.bool true)) = l.any p := by
  induction l with
  | nil => rfl
  | cons a r ih =>
    rw [List.map_cons, List.any_cons, List.any_cons, ih, eqv_bl]
    cases p a <;> rfl
/-! ### what repr may be asked of -/
def RepOk (x : PyData) : Prop := SeqAt.shaped x = true ∧ (x.showable = true ∧ x.hasDict = false ∧ x.depth ≤ 64 ∧ x.shown.length ≤ sizeLine)
structure RepN (dp n : Nat) (x : PyData) : Prop where
  lay : x.canLay0 = true
  dep : x.depth ≤ dp
  wei : x.weight ≤ n
  sho : x.intsShort 13 = true
  log : x.showable = true
structure RepL (dp n : Nat) (xs : List PyData) : Prop where
  lay : PyData.canLayAll0 xs = true
  dep : PyData.depthAll xs ≤ dp
  wei : PyData.weightAll xs ≤ n
  sho : PyData.intsShortAll 13 xs = true
  log : PyData.showableAll xs = true
theorem rep_int {i : Int} (h : -1000000000000 < i ∧ i < 1000000000000) : RepN 0 64 (.int i) := by
  have h1 : i.natAbs < 10 ^ 12 := by omega
  have h2 : i.natAbs.log2 < 40 := by
    by_cases h0 : i.natAbs = 0
    · rw [h0]; decide
    · exact (Nat.log2_lt h0).mpr (Nat.lt_trans h1 (by decide))
  refine ⟨by simp [PyData.canLay0], by simp [PyData.depth], ?_, ?_, ?_⟩
  · rw [PyData.weight]
    split <;> omega
  · rw [PyData.intsShort]
    exact decide_eq_true (PyData.shown_int_le h1)
  · rw [PyData.showable]
    exact decide_eq_true (by omega)
theorem rep_bool {b : Bool} : RepN 0 0 (.bool b) := ⟨by simp [PyData.canLay0], by simp [PyData.depth], by simp [PyData.weight], by simp [PyData.intsShort], by simp [PyData.showable]⟩
theorem rep_none : RepN 0 0 .none := ⟨by simp [PyData.canLay0], by simp [PyData.depth], by simp [PyData.weight], by simp [PyData.intsShort], by simp [PyData.showable]⟩
theorem rep_str {z : Str} {n : Nat} (h : Sg z) (h2 : z.length ≤ n) : RepN 0 n (.str z) := ⟨by rw [PyData.canLay0]; exact h, by simp [PyData.depth], by rw [PyData.weight]; exact h2, by simp [PyData.intsShort], by simp [PyData.showable]⟩
theorem rep_nil {dp : Nat} : RepL dp 0 [] := ⟨by simp [PyData.canLayAll0], by simp [PyData.depthAll], by simp [PyData.weightAll], by simp [PyData.intsShortAll], by simp [PyData.showableAll]⟩
theorem rep_cons {dp m n : Nat} {x : PyData} {xs : List PyData} (h : RepN dp m x) (t : RepL dp n xs) : RepL dp (m + 1 + n) (x :: xs) := by
  refine ⟨by simp [PyData.canLayAll0, h.lay, t.lay], ?_, ?_, by simp [PyData.intsShortAll, h.sho, t.sho], by simp [PyData.showableAll, h.log, t.log]⟩
  · rw [PyData.depthAll]; have := h.dep; have := t.dep; omega
  · rw [PyData.weightAll]; have := h.wei; have := t.wei; omega
theorem rep_tup {dp n : Nat} {xs : List PyData} (t : RepL dp n xs) : RepN (dp + 1) n (.tuple xs) :=
  ⟨by rw [PyData.canLay0]; exact t.lay, by rw [PyData.depth]; have := t.dep; omega, by rw [PyData.weight]; exact t.wei, by rw [PyData.intsShort]; exact t.sho, by rw [PyData.showable]; exact t.log⟩
theorem rep_lst {dp n : Nat} {xs : List PyData} (t : RepL dp n xs) : RepN (dp + 1) n (.list xs) :=
  ⟨by rw [PyData.canLay0]; exact t.lay, by rw [PyData.depth]; have := t.dep; omega, by rw [PyData.weight]; exact t.wei, by rw [PyData.intsShort]; exact t.sho, by rw [PyData.showable]; exact t.log⟩
theorem RepN.mono {dp dp' n n' : Nat} {x : PyData} (h : RepN dp n x) (h1 : dp ≤ dp') (h2 : n ≤ n') : RepN dp' n' x := ⟨h.lay, Nat.le_trans h.dep h1, Nat.le_trans h.wei h2, h.sho, h.log⟩
theorem RepL.mono {dp dp' n n' : Nat} {x : List PyData} (h : RepL dp n x) (h1 : dp ≤ dp') (h2 : n ≤ n') : RepL dp' n' x := ⟨h.lay, Nat.le_trans h.dep h1, Nat.le_trans h.wei h2, h.sho, h.log⟩
theorem rep_map {α : Type} {dp n : Nat} (f : α → PyData) : ∀ l : List α, (∀ x ∈ l, RepN dp n (f x)) → RepL dp (l.length * (n + 1)) (l.map f)
  | [], _ => rep_nil.mono (Nat.le_refl _) (Nat.zero_le _)
  | a :: r, h => (rep_cons (h a List.mem_cons_self) (rep_map f r fun x hx => h x (List.mem_cons_of_mem _ hx))).mono (Nat.le_refl _) (by rw [List.length_cons, Nat.add_mul]; omega)
theorem rep_ok {dp n : Nat} {x : PyData} (h : RepN dp n x) (h1 : dp ≤ 64) (h2 : n ≤ 1048576) : RepOk x := by
  have hd := Nat.le_trans h.dep h1
  have hl : PyData.layable0 x = true := by
    unfold PyData.layable0
    rw [h.lay, decide_eq_true hd, decide_eq_true (show x.weight ≤ 2 ^ 20 from Nat.le_trans h.wei h2)]; rfl
  refine ⟨?_, h.log, PyData.hasDict_of_layable hl, hd, PyData.shown_fits_of_layable0 (B := 13) (by decide) (by decide) hl h.sho⟩
  unfold SeqAt.shaped
  rw [h.lay, decide_eq_true hd]; rfl
/-! ### dicts by their keys -/
theorem valD_cons (a : Key) (b : PyData) (r : List (Key × PyData)) (k : Key) : valD ((a, b) :: r) k = if a = k then some b else valD r k := by
  unfold valD
  rw [List.find?_cons]
  by_cases c : a = k
  · rw [if_pos c, decide_eq_true c]; rfl
  · rw [if_neg c, decide_eq_false c]
theorem valD_repl (k : Key) (x : PyData) (k' : Key) : ∀ kvs : List (Key × PyData), valD (kvs.map fun kv => if kv.1 = k then (kv.1, x) else kv) k' = if k' = k then (if (kvs.any fun kv => decide (kv.1 = k)) = true then some x else none) else valD kvs k'
  | [] => by simp [valD]
  | (a, b) :: r => by
    have ih := valD_repl k x k' r
    rw [List.map_cons, List.any_cons]
    by_cases c : a = k
    · subst c
      rw [if_pos rfl, valD_cons, ih, decide_eq_true rfl, Bool.true_or, if_pos rfl, valD_cons]
      by_cases d : k' = a
      · subst d; rw [if_pos rfl, if_pos rfl]
      · rw [if_neg d, if_neg fun e => d e.symm, if_neg d, if_neg fun e => d e.symm]
    · rw [if_neg c, valD_cons, ih, decide_eq_false c, Bool.false_or, valD_cons]
      by_cases d : k' = k
      · subst d; rw [if_neg c, if_pos rfl, if_pos rfl]
      · rw [if_neg d, if_neg d]
theorem valD_none {kvs : List (Key × PyData)} {k : Key} (h : (kvs.any fun kv => decide (kv.1 = k)) ≠ true) : valD kvs k = none := by
  induction kvs with
  | nil => rfl
  | cons a r ih =>
    obtain ⟨a, b⟩ := a
    rw [List.any_cons] at h
    have h1 : ¬ a = k := fun e => h (by rw [decide_eq_true (show (a, b).fst = k from e)]; rfl)
    rw [valD_cons, if_neg h1, ih fun e => h (by rw [e, Bool.or_true])]
theorem valD_snoc (kvs : List (Key × PyData)) (k : Key) (x : PyData) (k' : Key) : valD (kvs ++ [(k, x)]) k' = match valD kvs k' with
  | some y => some y
  | none => if k = k' then some x else none := by
  induction kvs with
  | nil => rw [List.nil_append, valD_cons]; rfl
  | cons a r ih =>
    obtain ⟨a, b⟩ := a
    rw [List.cons_append, valD_cons, valD_cons, ih]
    by_cases c : a = k'
    · rw [if_pos c, if_pos c]
    · rw [if_neg c, if_neg c]
theorem valD_put (kvs : List (Key × PyData)) (k : Key) (x : PyData) (k' : Key) : valD (putD kvs k x) k' = if k' = k then some x else valD kvs k' := by
  unfold putD
  by_cases c : (kvs.any fun kv => decide (kv.1 = k)) = true
  · rw [if_pos c, valD_repl, if_pos c]
  · rw [if_neg c, valD_snoc]
    by_cases d : k' = k
    · subst d
      simp [valD_none c]
    · rw [if_neg d, if_neg fun e => d e.symm]
      cases valD kvs k' <;> rfl
theorem put_len (kvs : List (Key × PyData)) (k : Key) (x : PyData) : (putD kvs k x).length ≤ kvs.length + 1 := by
  unfold putD
  split
  · rw [List.length_map]; omega
  · rw [List.length_append]; exact Nat.le_refl _
theorem valD_nil (k : Key) : valD [] k = none := rfl
theorem pick_map {α : Type} {tp : List PyData} {menu : PyData} {R : Sl → (Nat → Option Sl) → Prop} (g0 : α → PyData) (ns : List α) (P : α → Prop) (h1 : itemsOf menu = some (ns.map g0)) (h2 : 1 ≤ ns.length ∧ ns.length ≤ 1000) (h4 : TapeOk tp) (hP : ∀ n ∈ ns, P n) (h : ∀ (n : α) (tp' : List PyData) (os : Nat → Option Sl), TapeOk tp' → P n → R (.d (g0 n)) (ios (.l tp') os)) : spPick [.l tp, .d menu] R := by
  refine pick_i _ h1 (by rw [List.length_map]; exact h2.1) (by rw [List.length_map]; exact small_of h2.2) h4 fun x tp' os ht hx => ?_
  obtain ⟨n, hn, rfl⟩ := List.mem_map.mp hx
  exact h n tp' os ht (hP n hn)
theorem strs_of {p : Str → Prop} : ∀ {acc : List PyData}, (∀ y ∈ acc, ∃ z : Str, y = .str z ∧ p z) → ∃ zs : List Str, acc = zs.map .str ∧ ∀ z ∈ zs, p z
  | [], _ => ⟨[], rfl, fun z hz => by cases hz⟩
  | a :: r, h => by
    obtain ⟨n, rfl, hn⟩ := h a List.mem_cons_self
    obtain ⟨ps, rfl, hp⟩ := strs_of (acc := r) fun y hy => h y (List.mem_cons_of_mem _ hy)
    exact ⟨n :: ps, rfl, fun z hz => (List.mem_cons.mp hz).elim (fun e => e ▸ hn) (hp z)⟩
theorem map_of {α : Type} (f : α → PyData) {p : α → Prop} : ∀ {acc : List PyData}, (∀ y ∈ acc, ∃ z : α, y = f z ∧ p z) → ∃ zs : List α, acc = zs.map f ∧ ∀ z ∈ zs, p z
  | [], _ => ⟨[], rfl, fun z hz => by cases hz⟩
  | a :: r, h => by
    obtain ⟨n, rfl, hn⟩ := h a List.mem_cons_self
    obtain ⟨ps, rfl, hp⟩ := map_of f (acc := r) fun y hy => h y (List.mem_cons_of_mem _ hy)
    exact ⟨n :: ps, rfl, fun z hz => (List.mem_cons.mp hz).elim (fun e => e ▸ hn) (hp z)⟩
theorem sg_cut {z : Str} (h : Sg z) (lo hi : Option Int) : Sg (cutS z lo hi) := by
  unfold Sg at *
  unfold cutS
  rw [Array.all_eq_true_iff_forall_mem] at *
  intro c hc
  refine h c ?_
  have := List.mem_of_mem_drop (List.mem_of_mem_take (by simpa using hc))
  simpa using this
theorem rng_mem {n : Int} {x : PyData} (h : x ∈ rngL 0 n) : ∃ k : Nat, x = .int k ∧ (k : Int) < n := by
  obtain ⟨i, hi⟩ := List.mem_iff_getElem?.mp h
  exact ⟨i, rng_at hi⟩
theorem at_neg1 {α : Type} (f : α → PyData) (l : List α) (h : 1 ≤ l.length) : atI (l.map f) (-1) = some (f (l[l.length - 1]'(by omega))) := by
  unfold atI ixN
  rw [List.length_map, if_neg (by omega), if_pos (by omega)]
  show (l.map f)[((l.length : Int) + -1).toNat]? = _
  rw [show ((l.length : Int) + -1).toNat = l.length - 1 by omega, List.getElem?_map, List.getElem?_eq_getElem]
  rfl
/-- a character of a text, by its place -/
theorem at_sig {z : Str} (h : Sg z) {i : Int} (h0 : 0 ≤ i) (h1 : i < z.length) : ∃ c, atI z.cps.toList i = some c ∧ Sg ⟨#[c]⟩ := by
  obtain ⟨j, rfl⟩ : ∃ j : Nat, i = j := ⟨i.toNat, by omega⟩
  have hj : j < z.cps.toList.length := by rw [Array.length_toList]; show j < z.length; omega
  exact ⟨_, atI_nat (List.getElem?_eq_getElem hj), sg_one h (List.getElem_mem hj)⟩
end DL

set_option Elab.async false
set_option linter.all false
set_option maxRecDepth 100000
set_option maxHeartbeats 4000000
set_option autoImplicit false
namespace Dlk51
open PySem PySem.Spec L2 DL
/-! ### timelines: hosts and their ticks -/
abbrev Tl := List (Str × Int)
def evD (e : Str × Int) : PyData := .tuple [.str e.1, .int e.2]
def tlD (tl : Tl) : PyData := .tuple (tl.map evD)
def IsEx (tl : Tl) (r : Int) : Prop := 0 ≤ r ∧ tl.Pairwise (fun a b => a.2 - b.2 ≤ r) ∧ (r = 0 ∨ ¬ tl.Pairwise (fun a b => a.2 - b.2 < r))
def Mono (tl : Tl) : Prop := tl.Pairwise (fun a b => a.1 = b.1 → a.2 ≤ b.2)
def GoesB (tl : Tl) : Prop := ¬ Mono tl
def Kept (tl : Tl) (skew : Int) : Prop := Mono tl ∧ tl.Pairwise (fun a b => a.2 - b.2 ≤ skew)
def leastN (skew : Int) (host : Str) (m : Int) (e : Str × Int) : Int := if e.1 = host then (if e.2 > m then e.2 else m) else (if e.2 - skew > m then e.2 - skew else m)
def NmOk (z : Str) : Prop := z.length ≤ 100 ∧ Sg z
/-- the timelines that are asked -/
def TlOk (tl : Tl) : Prop := tl.length ≤ 20 ∧ ∀ e ∈ tl, NmOk e.1 ∧ 0 ≤ e.2 ∧ e.2 ≤ 2000000
def max2 (i j : Int) : Int := if j > i then j else i
def crossD (lease skew wait : Int) : PyData := if lease + 2 * skew ≤ wait then .none else tlD [(("a" : Str), skew), (("k" : Str), 0), (("k" : Str), wait + 1), (("b" : Str), max2 0 (wait + 1 - skew)), (("a" : Str), max2 skew (wait + 1 - skew))]
def lingD (lease skew wait : Int) : PyData := if lease + 2 * skew < wait then .none else tlD [(("c" : Str), skew), (("g" : Str), 0), (("g" : Str), wait), (("c" : Str), max2 skew (wait - skew))]
def Set3 (lease skew wait : Int) : Prop := (1 ≤ lease ∧ lease ≤ 10000) ∧ (0 ≤ skew ∧ skew ≤ 100) ∧ 0 ≤ wait ∧ wait ≤ 100000
def Cross (lease skew wait : Int) (tl : Tl) : Prop := ∃ t0 t1 t2 t3 t4 : Int, tl = [(("a" : Str), t0), (("k" : Str), t1), (("k" : Str), t2), (("b" : Str), t3), (("a" : Str), t4)] ∧ Kept tl skew ∧ t1 + wait < t2 ∧ t4 ≤ t0 + lease
def Ling (lease skew wait : Int) (tl : Tl) : Prop := ∃ t0 t1 t2 t3 : Int, tl = [(("c" : Str), t0), (("g" : Str), t1), (("g" : Str), t2), (("c" : Str), t3)] ∧ Kept tl skew ∧ t1 + wait ≤ t2 ∧ t3 ≤ t0 + lease
abbrev sp_stray : FD := fun args Q => ∃ tl : Tl, args = [.d (tlD tl)] ∧ TlOk tl ∧ ∀ r os, IsEx tl r → Q (.d (.int r)) os
abbrev sp_goes_back : FD := fun args Q => ∃ tl : Tl, args = [.d (tlD tl)] ∧ TlOk tl ∧ ∀ (b : Bool) os, (b = true ↔ GoesB tl) → Q (.d (.bool b)) os
abbrev sp_least_tick : FD := fun args Q => ∃ (tl : Tl) (skew : Int) (host : Str), args = [.d (tlD tl), .d (.int skew), .d (.str host)] ∧ ((∀ e ∈ tl, Sg e.1) ∧ Sg host) ∧ ∀ os, Q (.d (.int (tl.foldl (leastN skew host) 0))) os
abbrev sp_hosts_of : FD := fun args Q => ∃ tl : Tl, args = [.d (tlD tl)] ∧ tl.length ≤ 1000 ∧ ∀ os, Q (.d (.tuple (tl.map fun e => .str e.1))) os
abbrev sp_law_hosts : FD := fun args Q => ∃ tl : Tl, args = [.d (tlD tl)] ∧ tl.length ≤ 1000 ∧ ∀ os, Q (.l (tl.map fun e => .str e.1)) os
abbrev sp_law_tape : FD := spTape
abbrev sp_law_draw : FD := spDraw
abbrev sp_law_pick : FD := spPick
abbrev sp_law_turns : FD := spTurns
abbrev sp_law_shuffled : FD := spShuf
abbrev sp_law_k_alike : FD := fun args Q => ∃ x, args = [.d x, .d x] ∧ RepOk x ∧ ∀ os, Q (.d (.bool true)) os
abbrev sp_law_exceeds : FD := fun args Q => ∃ tl : Tl, args = [.d (tlD tl)] ∧ TlOk tl ∧ ∀ r os, IsEx tl r → Q (.d (.int r)) os
abbrev sp_law_goes_back : FD := sp_goes_back
abbrev sp_law_kept : FD := fun args Q => ∃ (tl : Tl) (skew : Int), args = [.d (tlD tl), .d (.int skew)] ∧ TlOk tl ∧ 0 ≤ skew ∧ ∀ (b : Bool) os, (b = true ↔ Kept tl skew) → Q (.d (.bool b)) os
abbrev sp_keeps : FD := sp_law_kept
abbrev sp_law_crossing_of : FD := fun args Q => ∃ lease skew wait : Int, args = [.d (.int lease), .d (.int skew), .d (.int wait)] ∧ Set3 lease skew wait ∧ ∀ os, Q (.d (crossD lease skew wait)) os
abbrev sp_law_lingering_of : FD := fun args Q => ∃ lease skew wait : Int, args = [.d (.int lease), .d (.int skew), .d (.int wait)] ∧ Set3 lease skew wait ∧ ∀ os, Q (.d (lingD lease skew wait)) os
abbrev sp_crossing : FD := sp_law_crossing_of
abbrev sp_lingering : FD := sp_law_lingering_of
abbrev sp_told_next : FD := fun args Q => ∃ (tl : Tl) (skew : Int) (host : Str), args = [.d (tlD tl), .d (.int skew), .d (.str host)] ∧ tl.length ≤ 20 ∧ ((∀ e ∈ tl, Sg e.1) ∧ Sg host) ∧ ∀ os, Q (.d (tlD (tl ++ [(host, tl.foldl (leastN skew host) 0)]))) os
abbrev sp_is_crossing : FD := fun args Q => ∃ (lease skew wait : Int) (tl : Tl), args = [.d (.int lease), .d (.int skew), .d (.int wait), .d (tlD tl)] ∧ Set3 lease skew wait ∧ TlOk tl ∧ ∀ (b : Bool) os, (b = true ↔ Cross lease skew wait tl) → Q (.d (.bool b)) os
abbrev sp_is_lingering : FD := fun args Q => ∃ (lease skew wait : Int) (tl : Tl), args = [.d (.int lease), .d (.int skew), .d (.int wait), .d (tlD tl)] ∧ Set3 lease skew wait ∧ TlOk tl ∧ ∀ (b : Bool) os, (b = true ↔ Ling lease skew wait tl) → Q (.d (.bool b)) os
abbrev sp_law_crosses : FD := sp_is_crossing
abbrev sp_law_lingers : FD := sp_is_lingering
abbrev sp_law_names : FD := fun args Q => ∃ tp, args = [.l tp] ∧ TapeOk tp ∧ ∀ (ns : List Str) tp' os, (1 ≤ ns.length ∧ ns.length ≤ 4) → (∀ z ∈ ns, z.length ≤ 20 ∧ Sg z) → TapeOk tp' → os 0 = some (.l tp') → Q (.l (ns.map .str)) os
abbrev sp_law_timeline : FD := fun args Q => ∃ (tp : List PyData) (ns : List Str), args = [.l tp, .d (.list (ns.map .str))] ∧ (1 ≤ ns.length ∧ ns.length ≤ 4) ∧ (∀ z ∈ ns, z.length ≤ 20 ∧ Sg z) ∧ TapeOk tp ∧ ∀ (tl : Tl) tp' os, TlOk tl → tl.length ≤ 12 → (∀ e ∈ tl, e.1.length ≤ 20 ∧ e.2 ≤ 1000000) → TapeOk tp' → os 0 = some (.l tp') → Q (.d (tlD tl)) os
abbrev sp_law_moved : FD := fun args Q => ∃ (tp : List PyData) (tl : Tl) (ns : List Str), args = [.l tp, .d (tlD tl), .d (.list (ns.map .str))] ∧ (1 ≤ ns.length ∧ ns.length ≤ 4) ∧ (∀ z ∈ ns, z.length ≤ 20 ∧ Sg z) ∧ TlOk tl ∧ tl.length ≤ 12 ∧ (∀ e ∈ tl, e.1.length ≤ 20 ∧ e.2 ≤ 1000000) ∧ TapeOk tp ∧ ∀ (tl' : Tl) tp' os, TlOk tl' → TapeOk tp' → os 0 = some (.l tp') → Q (.d (tlD tl')) os
abbrev sp_law_strays : FD := fun args Q => ∃ (tp : List PyData) (tl : Tl), args = [.l tp, .d (tlD tl)] ∧ TlOk tl ∧ TapeOk tp ∧ ∀ tp' os, TapeOk tp' → os 0 = some (.l tp') → Q (.d (.bool true)) os
abbrev sp_law_own : FD := fun args Q => ∃ (tp : List PyData) (lease skew wait : Int) (c : Bool), args = [.l tp, .d (.int lease), .d (.int skew), .d (.int wait), .d (.bool c)] ∧ Set3 lease skew wait ∧ TapeOk tp ∧ ∀ (tl : Tl) tp' os, TlOk tl → (1 ≤ tl.length ∧ tl.length ≤ 5) → (∀ e ∈ tl, e.2 ≤ 1000000) → TapeOk tp' → os 0 = some (.l tp') → Q (.d (tlD tl)) os
abbrev sp_law_changed : FD := fun args Q => ∃ (tp : List PyData) (tl : Tl), args = [.l tp, .d (tlD tl)] ∧ TlOk tl ∧ (1 ≤ tl.length ∧ tl.length ≤ 5) ∧ (∀ e ∈ tl, e.2 ≤ 1000000) ∧ TapeOk tp ∧ ∀ (tl' : Tl) tp' os, TlOk tl' → TapeOk tp' → os 0 = some (.l tp') → Q (.d (tlD tl')) os
abbrev sp_law_judged : FD := fun args Q => ∃ (tp : List PyData) (lease skew wait : Int) (tl : Tl) (c : Bool), args = [.l tp, .d (.int lease), .d (.int skew), .d (.int wait), .d (tlD tl), .d (.bool c)] ∧ (Set3 lease skew wait ∧ lease ≤ 9999 ∧ wait ≤ 99999) ∧ TlOk tl ∧ TapeOk tp ∧ ∀ tp' os, TapeOk tp' → os 0 = some (.l tp') → Q (.d (.bool true)) os
abbrev sp_law_told : FD := fun args Q => ∃ (lease skew wait : Int) (c : Bool), args = [.d (.int lease), .d (.int skew), .d (.int wait), .d (.bool c)] ∧ Set3 lease skew wait ∧ ∀ os, Q (.d (.bool true)) os
abbrev sp_law_asked : FD := fun args Q => ∃ (tp : List PyData) (lease skew wait : Int) (c : Bool), args = [.l tp, .d (.int lease), .d (.int skew), .d (.int wait), .d (.bool c)] ∧ (Set3 lease skew wait ∧ lease ≤ 9999 ∧ wait ≤ 99999) ∧ TapeOk tp ∧ ∀ tp' os, TapeOk tp' → os 0 = some (.l tp') → Q (.d (.bool true)) os
abbrev sp_law_apart : FD := fun args Q => ∃ tp, args = [.l tp] ∧ TapeOk tp ∧ ∀ tp' os, TapeOk tp' → os 0 = some (.l tp') → Q (.d (.bool true)) os
abbrev sp_law : FD := fun args Q => ∃ ns : List Int, args = [.d (.list (ns.map .int))] ∧ ∀ os, Q (.d (.bool true)) os
end Dlk51

set_option Elab.async false
set_option linter.all false
set_option maxRecDepth 100000
set_option maxHeartbeats 0
set_option autoImplicit false
namespace Dlk51
open PySem PySem.Spec L2 DL
def t_stray : TDS := (tdSeq (tdSetD 1 (tdC (.int 0)))
  (tdSeq (tdSetD 2 (tdC (.int 0)))
  (tdSeq (tdFor (tdIt (tdV 0)) (gdTup 2 (gdCons (gdName 3) (gdCons (gdName 4) gdNil))) (tdSeq (tdSetD 1 (tdB rdMax2 (tdCons (tdV 1) (tdCons (tdV 4) tdNil))))
  (tdSetD 2 (tdB rdMax2 (tdCons (tdV 2) (tdCons (tdBin rdSub (tdV 1) (tdV 4)) tdNil))))))
  (tdRet ([], []) (tdV 2)))))
def t_goes_back : TDS := (tdSeq (tdSet 1 tdNew)
  (tdSeq (tdFor (tdIt (tdV 0)) (gdTup 2 (gdCons (gdName 2) (gdCons (gdName 3) gdNil))) (tdSeq (tdIfS (tdTest (tdBin (rdCmp fun i j => decide (i < j)) (tdV 3) (tdGet2 1 (tdV 2) (tdC (.int 0))))) (tdRet ([], []) (tdC (.bool true))) tdNext)
  (tdPut 1 (tdV 2) (tdV 3))))
  (tdRet ([], []) (tdC (.bool false)))))
def t_least_tick : TDS := (tdSeq (tdSetD 3 (tdC (.int 0)))
  (tdSeq (tdFor (tdIt (tdV 0)) (gdTup 2 (gdCons (gdName 4) (gdCons (gdName 5) gdNil))) (tdIfS (tdTest (tdBin rdEq (tdV 4) (tdV 2))) (tdSetD 3 (tdB rdMax2 (tdCons (tdV 3) (tdCons (tdV 5) tdNil)))) (tdSetD 3 (tdB rdMax2 (tdCons (tdV 3) (tdCons (tdBin rdSub (tdV 5) (tdV 1)) tdNil))))))
  (tdRet ([], []) (tdV 3))))
def t_hosts_of : TDS := (tdRet ([], []) (tdB rdTuple (tdCons (tdLc (tdIt (tdV 0)) (gcTup 2 (gcCons (gcName 1) (gcCons (gcName 2) gcNil))) tdYes (tdV 1) [1, 2]) tdNil)))
def t_law_tape : TDS := (tdSeq (tdSetD 1 (tdC (.int 7)))
  (tdSeq (tdFor (tdIt (tdV 0)) (gdName 2) (tdSetD 1 (tdBin rdMod (tdB rdInt (tdCons (tdBin rdAdd (tdBin rdMul (tdV 1) (tdC (.int 31))) (tdB rdAbs (tdCons (tdB rdInt (tdCons (tdV 2) tdNil)) tdNil))) tdNil)) (tdC (.int 2147483647)))))
  (tdRet ([], []) (tdLst (tdCons (tdB rdList (tdCons (tdV 0) tdNil)) (tdCons (tdC (.int 0)) (tdCons (tdC (.int 0)) (tdCons (tdV 1) tdNil))))))))
def t_law_draw : TDS := (tdSeq (tdIfS (tdTest (tdBin rdEq (tdBin rdIx (tdV 0) (tdC (.int 2))) (tdC (.int 0)))) (tdSeq (tdSetD 2 (tdBin rdIx (tdV 0) (tdC (.int 1))))
  (tdSeq (tdSetD 3 (tdC (.int 0)))
  (tdSeq (tdIfS (tdTest (tdBin (rdCmp fun i j => decide (i < j)) (tdV 2) (tdB rdLen (tdCons (tdBin rdIx (tdV 0) (tdC (.int 0))) tdNil)))) (tdSetD 3 (tdB rdAbs (tdCons (tdB rdInt (tdCons (tdBin rdIx (tdBin rdIx (tdV 0) (tdC (.int 0))) (tdV 2)) tdNil)) tdNil))) (tdSeq (tdSetIx 0 (tdC (.int 3)) (tdBin rdMod (tdB rdInt (tdCons (tdBin rdAdd (tdBin rdAdd (tdBin rdMul (tdBin rdIx (tdV 0) (tdC (.int 3))) (tdC (.int 48271))) (tdV 2)) (tdC (.int 1))) tdNil)) (tdC (.int 2147483647))))
  (tdSetD 3 (tdBin rdIx (tdV 0) (tdC (.int 3))))))
  (tdSeq (tdSetIx 0 (tdC (.int 1)) (tdBin rdAdd (tdV 2) (tdC (.int 1))))
  (tdSeq (tdIfS (tdTest (tdBin (rdCmp fun i j => decide (i < j)) (tdV 3) (tdBin rdPow (tdC (.int 10)) (tdC (.int 18))))) (tdSeq (tdSetD 3 (tdBin rdMod (tdB rdInt (tdCons (tdBin rdAdd (tdBin rdAdd (tdBin rdMul (tdV 3) (tdC (.int 48271))) (tdBin rdMul (tdV 2) (tdC (.int 69621)))) (tdC (.int 5))) tdNil)) (tdC (.int 2147483647))))
  (tdSeq (tdSetD 3 (tdBin rdMod (tdB rdInt (tdCons (tdBin rdMul (tdV 3) (tdC (.int 69621))) tdNil)) (tdC (.int 2147483629))))
  (tdRet ([0], []) (tdBin rdMod (tdB rdInt (tdCons (tdV 3) tdNil)) (tdB rdMax2 (tdCons (tdV 1) (tdCons (tdC (.int 1)) tdNil))))))) tdNext)
  (tdSetIx 0 (tdC (.int 2)) (tdV 3))))))) tdNext)
  (tdSeq (tdSetD 3 (tdBin rdIx (tdV 0) (tdC (.int 2))))
  (tdSeq (tdSetIx 0 (tdC (.int 2)) (tdBin rdDiv (tdV 3) (tdB rdMax2 (tdCons (tdV 1) (tdCons (tdC (.int 2)) tdNil)))))
  (tdRet ([0], []) (tdBin rdMod (tdB rdInt (tdCons (tdV 3) tdNil)) (tdB rdMax2 (tdCons (tdV 1) (tdCons (tdC (.int 1)) tdNil))))))))
def t_law_k_alike : TDS := (tdRet ([], []) (tdAndV (tdBin rdEqS (tdV 0) (tdV 1)) (tdBin rdEqS (tdB rdRepr (tdCons (tdV 0) tdNil)) (tdB rdRepr (tdCons (tdV 1) tdNil)))))
def t_law_exceeds : TDS := (tdSeq (tdSetD 1 (tdC (.int 0)))
  (tdSeq (tdFor (tdRng1 (tdCons (tdB rdLen (tdCons (tdV 0) tdNil)) tdNil)) (gdName 2) (tdFor (tdRng1 (tdCons (tdV 2) tdNil)) (gdName 3) (tdSetD 1 (tdB rdMax2 (tdCons (tdV 1) (tdCons (tdBin rdSub (tdBin rdIx (tdBin rdIx (tdV 0) (tdV 3)) (tdC (.int 1))) (tdBin rdIx (tdBin rdIx (tdV 0) (tdV 2)) (tdC (.int 1)))) tdNil))))))
  (tdRet ([], []) (tdV 1))))
def t_law_goes_back : TDS := (tdSeq (tdFor (tdRng1 (tdCons (tdB rdLen (tdCons (tdV 0) tdNil)) tdNil)) (gdName 1) (tdIfS (tdTest (tdBin rdIn (tdC (.bool true)) (tdLc (tdRng1 (tdCons (tdV 1) tdNil)) (gcName 2) tdYes (tdAndV (tdBin rdEq (tdBin rdIx (tdBin rdIx (tdV 0) (tdV 2)) (tdC (.int 0))) (tdBin rdIx (tdBin rdIx (tdV 0) (tdV 1)) (tdC (.int 0)))) (tdBin (rdCmp fun i j => decide (j < i)) (tdBin rdIx (tdBin rdIx (tdV 0) (tdV 2)) (tdC (.int 1))) (tdBin rdIx (tdBin rdIx (tdV 0) (tdV 1)) (tdC (.int 1))))) [2]))) (tdRet ([], []) (tdC (.bool true))) tdNext))
  (tdRet ([], []) (tdC (.bool false))))
def t_law_kept : TDS := (tdSeq (tdFor (tdRng1 (tdCons (tdB rdLen (tdCons (tdV 0) tdNil)) tdNil)) (gdName 2) (tdFor (tdRng1 (tdCons (tdV 2) tdNil)) (gdName 3) (tdSeq (tdSetD 4 (tdBin rdSub (tdBin rdIx (tdBin rdIx (tdV 0) (tdV 3)) (tdC (.int 1))) (tdIf (tdTest (tdBin rdEq (tdBin rdIx (tdBin rdIx (tdV 0) (tdV 3)) (tdC (.int 0))) (tdBin rdIx (tdBin rdIx (tdV 0) (tdV 2)) (tdC (.int 0))))) (tdC (.int 0)) (tdV 1))))
  (tdIfS (tdTest (tdBin (rdCmp fun i j => decide (i < j)) (tdBin rdIx (tdBin rdIx (tdV 0) (tdV 2)) (tdC (.int 1))) (tdV 4))) (tdRet ([], []) (tdC (.bool false))) tdNext))))
  (tdRet ([], []) (tdC (.bool true))))
def t_law_hosts : TDS := (tdRet ([], []) (tdLc (tdIt (tdV 0)) (gcName 1) tdYes (tdBin rdIx (tdV 1) (tdC (.int 0))) [1]))
def t_law_crossing_of : TDS := (tdSeq (tdIfS (tdTest (tdBin (rdCmp fun i j => decide (j ≤ i)) (tdV 2) (tdBin rdAdd (tdV 0) (tdBin rdMul (tdC (.int 2)) (tdV 1))))) (tdRet ([], []) (tdC .none)) tdNext)
  (tdRet ([], []) (tdTup (tdCons (tdTup (tdCons (tdC (.str ("a" : Str))) (tdCons (tdV 1) tdNil))) (tdCons (tdTup (tdCons (tdC (.str ("k" : Str))) (tdCons (tdC (.int 0)) tdNil))) (tdCons (tdTup (tdCons (tdC (.str ("k" : Str))) (tdCons (tdBin rdAdd (tdV 2) (tdC (.int 1))) tdNil))) (tdCons (tdTup (tdCons (tdC (.str ("b" : Str))) (tdCons (tdB rdMax2 (tdCons (tdC (.int 0)) (tdCons (tdBin rdSub (tdBin rdAdd (tdV 2) (tdC (.int 1))) (tdV 1)) tdNil))) tdNil))) (tdCons (tdTup (tdCons (tdC (.str ("a" : Str))) (tdCons (tdB rdMax2 (tdCons (tdV 1) (tdCons (tdBin rdSub (tdBin rdAdd (tdV 2) (tdC (.int 1))) (tdV 1)) tdNil))) tdNil))) tdNil))))))))
def t_law_lingering_of : TDS := (tdSeq (tdIfS (tdTest (tdBin (rdCmp fun i j => decide (j < i)) (tdV 2) (tdBin rdAdd (tdV 0) (tdBin rdMul (tdC (.int 2)) (tdV 1))))) (tdRet ([], []) (tdC .none)) tdNext)
  (tdRet ([], []) (tdTup (tdCons (tdTup (tdCons (tdC (.str ("c" : Str))) (tdCons (tdV 1) tdNil))) (tdCons (tdTup (tdCons (tdC (.str ("g" : Str))) (tdCons (tdC (.int 0)) tdNil))) (tdCons (tdTup (tdCons (tdC (.str ("g" : Str))) (tdCons (tdV 2) tdNil))) (tdCons (tdTup (tdCons (tdC (.str ("c" : Str))) (tdCons (tdB rdMax2 (tdCons (tdV 1) (tdCons (tdBin rdSub (tdV 2) (tdV 1)) tdNil))) tdNil))) tdNil)))))))
def t_keeps : TDS := (tdRet ([], []) (tdAndV (tdNotV (tdCall ([], []) 1 sp_goes_back (tdCons (tdV 0) tdNil))) (tdBin (rdCmp fun i j => decide (i ≤ j)) (tdCall ([], []) 1 sp_stray (tdCons (tdV 0) tdNil)) (tdV 1))))
def t_told_next : TDS := (tdRet ([], []) (tdBin rdAdd (tdV 0) (tdTup (tdCons (tdTup (tdCons (tdV 2) (tdCons (tdCall ([], []) 3 sp_least_tick (tdCons (tdV 0) (tdCons (tdV 1) (tdCons (tdV 2) tdNil)))) tdNil))) tdNil))))
def t_law_pick : TDS := (tdRet ([0], []) (tdBin rdIx (tdV 1) (tdCall ([0], []) 2 sp_law_draw (tdCons (tdV 0) (tdCons (tdB rdLen (tdCons (tdV 1) tdNil)) tdNil)))))
def t_law_turns : TDS := (tdSeq (tdSet 2 (tdListRg (tdV 1)))
  (tdSeq (tdSet 3 (tdLst tdNil))
  (tdSeq (tdFor (tdRng1 (tdCons (tdV 1) tdNil)) (gdName 4) (tdDrop (tdM 3 rdAppend (tdCons (tdM 2 rdPopAt (tdCons (tdCall ([0], []) 2 sp_law_draw (tdCons (tdV 0) (tdCons (tdB rdLen (tdCons (tdV 2) tdNil)) tdNil))) tdNil)) tdNil))))
  (tdRet ([0], []) (tdSl (tdV 3) tdNoPart (tdPart (tdBin rdIx (tdLst (tdCons (tdV 1) (tdCons (tdV 1) (tdCons (tdC (.int 1)) tdNil)))) (tdCall ([0], []) 2 sp_law_draw (tdCons (tdV 0) (tdCons (tdC (.int 3)) tdNil))))))))))
def t_law_shuffled : TDS := (tdSeq (tdSet 2 (tdB rdList (tdCons (tdV 1) tdNil)))
  (tdSeq (tdSet 3 (tdLst tdNil))
  (tdSeq (tdFor (tdRng1 (tdCons (tdB rdLen (tdCons (tdV 1) tdNil)) tdNil)) (gdName 4) (tdDrop (tdM 3 rdAppend (tdCons (tdM 2 rdPopAt (tdCons (tdCall ([0], []) 2 sp_law_draw (tdCons (tdV 0) (tdCons (tdB rdLen (tdCons (tdV 2) tdNil)) tdNil))) tdNil)) tdNil))))
  (tdRet ([0], []) (tdV 3)))))
def t_law_crosses : TDS := (tdSeq (tdIfS (tdOr (tdTest (tdBin rdNe (tdCall ([], []) 1 sp_law_hosts (tdCons (tdV 3) tdNil)) (tdLst (tdCons (tdC (.str ("a" : Str))) (tdCons (tdC (.str ("k" : Str))) (tdCons (tdC (.str ("k" : Str))) (tdCons (tdC (.str ("b" : Str))) (tdCons (tdC (.str ("a" : Str))) tdNil)))))))) (tdNot (tdTest (tdCall ([], []) 2 sp_law_kept (tdCons (tdV 3) (tdCons (tdV 1) tdNil)))))) (tdRet ([], []) (tdC (.bool false))) tdNext)
  (tdRet ([], []) (tdAndV (tdBin (rdCmp fun i j => decide (j < i)) (tdBin rdIx (tdBin rdIx (tdV 3) (tdC (.int 2))) (tdC (.int 1))) (tdBin rdAdd (tdBin rdIx (tdBin rdIx (tdV 3) (tdC (.int 1))) (tdC (.int 1))) (tdV 2))) (tdBin (rdCmp fun i j => decide (i ≤ j)) (tdBin rdIx (tdBin rdIx (tdV 3) (tdC (.int 4))) (tdC (.int 1))) (tdBin rdAdd (tdBin rdIx (tdBin rdIx (tdV 3) (tdC (.int 0))) (tdC (.int 1))) (tdV 0))))))
def t_law_lingers : TDS := (tdSeq (tdIfS (tdOr (tdTest (tdBin rdNe (tdCall ([], []) 1 sp_law_hosts (tdCons (tdV 3) tdNil)) (tdLst (tdCons (tdC (.str ("c" : Str))) (tdCons (tdC (.str ("g" : Str))) (tdCons (tdC (.str ("g" : Str))) (tdCons (tdC (.str ("c" : Str))) tdNil))))))) (tdNot (tdTest (tdCall ([], []) 2 sp_law_kept (tdCons (tdV 3) (tdCons (tdV 1) tdNil)))))) (tdRet ([], []) (tdC (.bool false))) tdNext)
  (tdRet ([], []) (tdAndV (tdBin (rdCmp fun i j => decide (j ≤ i)) (tdBin rdIx (tdBin rdIx (tdV 3) (tdC (.int 2))) (tdC (.int 1))) (tdBin rdAdd (tdBin rdIx (tdBin rdIx (tdV 3) (tdC (.int 1))) (tdC (.int 1))) (tdV 2))) (tdBin (rdCmp fun i j => decide (i ≤ j)) (tdBin rdIx (tdBin rdIx (tdV 3) (tdC (.int 3))) (tdC (.int 1))) (tdBin rdAdd (tdBin rdIx (tdBin rdIx (tdV 3) (tdC (.int 0))) (tdC (.int 1))) (tdV 0))))))
def t_crossing : TDS := (tdSeq (tdIfS (tdTest (tdBin (rdCmp fun i j => decide (j ≤ i)) (tdV 2) (tdBin rdAdd (tdV 0) (tdBin rdMul (tdC (.int 2)) (tdV 1))))) (tdRet ([], []) (tdC .none)) tdNext)
  (tdSeq (tdSetD 3 (tdTup (tdCons (tdTup (tdCons (tdC (.str ("a" : Str))) (tdCons (tdV 1) tdNil))) (tdCons (tdTup (tdCons (tdC (.str ("k" : Str))) (tdCons (tdC (.int 0)) tdNil))) (tdCons (tdTup (tdCons (tdC (.str ("k" : Str))) (tdCons (tdBin rdAdd (tdV 2) (tdC (.int 1))) tdNil))) tdNil)))))
  (tdRet ([], []) (tdCall ([], []) 3 sp_told_next (tdCons (tdCall ([], []) 3 sp_told_next (tdCons (tdV 3) (tdCons (tdV 1) (tdCons (tdC (.str ("b" : Str))) tdNil)))) (tdCons (tdV 1) (tdCons (tdC (.str ("a" : Str))) tdNil)))))))
def t_is_crossing : TDS := (tdSeq (tdIfS (tdOr (tdTest (tdBin rdNe (tdCall ([], []) 1 sp_hosts_of (tdCons (tdV 3) tdNil)) (tdTup (tdCons (tdC (.str ("a" : Str))) (tdCons (tdC (.str ("k" : Str))) (tdCons (tdC (.str ("k" : Str))) (tdCons (tdC (.str ("b" : Str))) (tdCons (tdC (.str ("a" : Str))) tdNil)))))))) (tdNot (tdTest (tdCall ([], []) 2 sp_keeps (tdCons (tdV 3) (tdCons (tdV 1) tdNil)))))) (tdRet ([], []) (tdC (.bool false))) tdNext)
  (tdSeq (tdAsg (tdLc (tdIt (tdV 3)) (gcTup 2 (gcCons (gcName 9) (gcCons (gcName 10) gcNil))) tdYes (tdV 10) [9, 10]) (gdLst 5 (gdCons (gdName 4) (gdCons (gdName 5) (gdCons (gdName 6) (gdCons (gdName 7) (gdCons (gdName 8) gdNil)))))))
  (tdRet ([], []) (tdAndV (tdBin (rdCmp fun i j => decide (j < i)) (tdV 6) (tdBin rdAdd (tdV 5) (tdV 2))) (tdBin (rdCmp fun i j => decide (i ≤ j)) (tdV 8) (tdBin rdAdd (tdV 4) (tdV 0)))))))
def t_lingering : TDS := (tdSeq (tdIfS (tdTest (tdBin (rdCmp fun i j => decide (j < i)) (tdV 2) (tdBin rdAdd (tdV 0) (tdBin rdMul (tdC (.int 2)) (tdV 1))))) (tdRet ([], []) (tdC .none)) tdNext)
  (tdRet ([], []) (tdCall ([], []) 3 sp_told_next (tdCons (tdTup (tdCons (tdTup (tdCons (tdC (.str ("c" : Str))) (tdCons (tdV 1) tdNil))) (tdCons (tdTup (tdCons (tdC (.str ("g" : Str))) (tdCons (tdC (.int 0)) tdNil))) (tdCons (tdTup (tdCons (tdC (.str ("g" : Str))) (tdCons (tdV 2) tdNil))) tdNil)))) (tdCons (tdV 1) (tdCons (tdC (.str ("c" : Str))) tdNil))))))
def t_is_lingering : TDS := (tdSeq (tdIfS (tdOr (tdTest (tdBin rdNe (tdCall ([], []) 1 sp_hosts_of (tdCons (tdV 3) tdNil)) (tdTup (tdCons (tdC (.str ("c" : Str))) (tdCons (tdC (.str ("g" : Str))) (tdCons (tdC (.str ("g" : Str))) (tdCons (tdC (.str ("c" : Str))) tdNil))))))) (tdNot (tdTest (tdCall ([], []) 2 sp_keeps (tdCons (tdV 3) (tdCons (tdV 1) tdNil)))))) (tdRet ([], []) (tdC (.bool false))) tdNext)
  (tdSeq (tdAsg (tdLc (tdIt (tdV 3)) (gcTup 2 (gcCons (gcName 8) (gcCons (gcName 9) gcNil))) tdYes (tdV 9) [8, 9]) (gdLst 4 (gdCons (gdName 4) (gdCons (gdName 5) (gdCons (gdName 6) (gdCons (gdName 7) gdNil))))))
  (tdRet ([], []) (tdAndV (tdBin (rdCmp fun i j => decide (j ≤ i)) (tdV 6) (tdBin rdAdd (tdV 5) (tdV 2))) (tdBin (rdCmp fun i j => decide (i ≤ j)) (tdV 7) (tdBin rdAdd (tdV 4) (tdV 0)))))))
def t_law_names : TDS := (tdSeq (tdSetD 1 (tdC (.str ("abcdefghijklmnopqrstuvwxyz0123456789" : Str))))
  (tdSeq (tdSetD 2 (tdCall ([0], []) 2 sp_law_pick (tdCons (tdV 0) (tdCons (tdLst (tdCons (tdC (.str ("" : Str))) (tdCons (tdC (.str ("" : Str))) (tdCons (tdC (.str ("host" : Str))) (tdCons (tdC (.str ("abcdefghij" : Str))) tdNil))))) tdNil))))
  (tdSeq (tdSetD 3 (tdCall ([0], []) 2 sp_law_draw (tdCons (tdV 0) (tdCons (tdC (.int 36)) tdNil))))
  (tdRet ([0], []) (tdLc (tdRng1 (tdCons (tdBin rdAdd (tdC (.int 1)) (tdCall ([0], []) 2 sp_law_draw (tdCons (tdV 0) (tdCons (tdC (.int 4)) tdNil)))) tdNil)) (gcName 4) tdYes (tdBin rdAdd (tdBin rdAdd (tdV 2) (tdBin rdIx (tdV 1) (tdBin rdMod (tdB rdInt (tdCons (tdBin rdAdd (tdV 3) (tdBin rdMul (tdC (.int 7)) (tdV 4))) tdNil)) (tdC (.int 36))))) (tdCall ([0], []) 2 sp_law_pick (tdCons (tdV 0) (tdCons (tdLst (tdCons (tdC (.str ("" : Str))) (tdCons (tdC (.str ("" : Str))) (tdCons (tdC (.str ("a" : Str))) tdNil)))) tdNil)))) [4])))))
def t_law_timeline : TDS := (tdSeq (tdSetD 2 (tdCall ([0], []) 2 sp_law_pick (tdCons (tdV 0) (tdCons (tdLst (tdCons (tdC (.int 0)) (tdCons (tdC (.int 1)) (tdCons (tdC (.int 3)) (tdCons (tdC (.int 99)) tdNil))))) tdNil))))
  (tdSeq (tdSetD 3 (tdCall ([0], []) 2 sp_law_draw (tdCons (tdV 0) (tdCons (tdC (.int 6)) tdNil))))
  (tdSeq (tdSetD 4 (tdCall ([0], []) 2 sp_law_pick (tdCons (tdV 0) (tdCons (tdLst (tdCons (tdC (.int 0)) (tdCons (tdC (.int 0)) (tdCons (tdC (.int 7)) (tdCons (tdC (.int 500000)) tdNil))))) tdNil))))
  (tdSeq (tdSet 5 tdNew)
  (tdSeq (tdSet 6 (tdLst tdNil))
  (tdSeq (tdFor (tdRng1 (tdCons (tdCall ([0], []) 2 sp_law_pick (tdCons (tdV 0) (tdCons (tdLst (tdCons (tdC (.int 0)) (tdCons (tdC (.int 1)) (tdCons (tdC (.int 2)) (tdCons (tdC (.int 3)) (tdCons (tdC (.int 5)) (tdCons (tdC (.int 8)) (tdCons (tdC (.int 12)) tdNil)))))))) tdNil))) tdNil)) (gdName 7) (tdSeq (tdSetD 8 (tdCall ([0], []) 2 sp_law_pick (tdCons (tdV 0) (tdCons (tdV 1) tdNil))))
  (tdSeq (tdSetD 9 (tdB rdMax2 (tdCons (tdBin rdSub (tdV 4) (tdCall ([0], []) 2 sp_law_draw (tdCons (tdV 0) (tdCons (tdBin rdAdd (tdV 2) (tdC (.int 1))) tdNil)))) (tdCons (tdGet2 5 (tdV 8) (tdC (.int 0))) tdNil))))
  (tdSeq (tdIfS (tdTest (tdBin rdEq (tdV 3) (tdC (.int 0)))) (tdSetD 9 (tdV 4)) tdNext)
  (tdSeq (tdIfS (tdTest (tdBin rdEq (tdV 3) (tdC (.int 1)))) (tdSetD 9 (tdCall ([0], []) 2 sp_law_draw (tdCons (tdV 0) (tdCons (tdC (.int 40)) tdNil)))) tdNext)
  (tdSeq (tdDrop (tdM 6 rdAppend (tdCons (tdTup (tdCons (tdV 8) (tdCons (tdV 9) tdNil))) tdNil)))
  (tdSeq (tdPut 5 (tdV 8) (tdV 9))
  (tdSetD 4 (tdBin rdAdd (tdB rdMax2 (tdCons (tdV 4) (tdCons (tdV 9) tdNil))) (tdCall ([0], []) 2 sp_law_pick (tdCons (tdV 0) (tdCons (tdLst (tdCons (tdC (.int 0)) (tdCons (tdC (.int 0)) (tdCons (tdC (.int 1)) (tdCons (tdC (.int 2)) (tdCons (tdC (.int 30)) tdNil)))))) tdNil))))))))))))
  (tdSeq (tdIfS (tdAnd (tdTest (tdBin rdEq (tdCall ([0], []) 2 sp_law_draw (tdCons (tdV 0) (tdCons (tdC (.int 4)) tdNil))) (tdC (.int 0)))) (tdTest (tdBin (rdCmp fun i j => decide (j < i)) (tdB rdLen (tdCons (tdV 6) tdNil)) (tdC (.int 0))))) (tdSeq (tdAsg (tdBin rdIx (tdV 6) (tdNeg (tdC (.int 1)))) (gdTup 2 (gdCons (gdName 8) (gdCons (gdName 9) gdNil))))
  (tdSet 6 (tdBin rdAdd (tdSl (tdV 6) tdNoPart (tdPart (tdC (.int 11)))) (tdLst (tdCons (tdTup (tdCons (tdV 8) (tdCons (tdB rdMax2 (tdCons (tdBin rdSub (tdV 9) (tdC (.int 1))) (tdCons (tdC (.int 0)) tdNil))) tdNil))) tdNil))))) tdNext)
  (tdRet ([0], []) (tdB rdTuple (tdCons (tdSl (tdV 6) tdNoPart (tdPart (tdC (.int 12)))) tdNil))))))))))
def t_law_moved : TDS := (tdSeq (tdIfS (tdTest (tdBin rdEq (tdB rdLen (tdCons (tdV 1) tdNil)) (tdC (.int 0)))) (tdRet ([0], []) (tdTup (tdCons (tdTup (tdCons (tdBin rdIx (tdV 2) (tdC (.int 0))) (tdCons (tdC (.int 3)) tdNil))) tdNil))) tdNext)
  (tdSeq (tdSetD 3 (tdCall ([0], []) 2 sp_law_draw (tdCons (tdV 0) (tdCons (tdB rdLen (tdCons (tdV 1) tdNil)) tdNil))))
  (tdSeq (tdAsg (tdBin rdIx (tdV 1) (tdV 3)) (gdTup 2 (gdCons (gdName 4) (gdCons (gdName 5) gdNil))))
  (tdSeq (tdSetD 6 (tdCall ([0], []) 2 sp_law_pick (tdCons (tdV 0) (tdCons (tdLst (tdCons (tdTup (tdCons (tdV 4) (tdCons (tdBin rdAdd (tdV 5) (tdC (.int 1))) tdNil))) (tdCons (tdTup (tdCons (tdV 4) (tdCons (tdB rdMax2 (tdCons (tdBin rdSub (tdV 5) (tdC (.int 1))) (tdCons (tdC (.int 0)) tdNil))) tdNil))) (tdCons (tdTup (tdCons (tdCall ([0], []) 2 sp_law_pick (tdCons (tdV 0) (tdCons (tdV 2) tdNil))) (tdCons (tdV 5) tdNil))) (tdCons (tdTup (tdCons (tdBin rdAdd (tdV 4) (tdC (.str ("0" : Str)))) (tdCons (tdV 5) tdNil))) (tdCons (tdTup (tdCons (tdV 4) (tdCons (tdBin rdAdd (tdV 5) (tdC (.int 99))) tdNil))) tdNil)))))) tdNil))))
  (tdRet ([0], []) (tdBin rdAdd (tdBin rdAdd (tdSl (tdV 1) tdNoPart (tdPart (tdV 3))) (tdTup (tdCons (tdTup (tdCons (tdSl (tdBin rdIx (tdV 6) (tdC (.int 0))) tdNoPart (tdPart (tdC (.int 12)))) (tdCons (tdBin rdIx (tdV 6) (tdC (.int 1))) tdNil))) tdNil))) (tdSl (tdV 1) (tdPart (tdBin rdAdd (tdV 3) (tdC (.int 1)))) tdNoPart)))))))
def t_law_strays : TDS := (tdSeq (tdSetD 2 (tdCall ([], []) 1 sp_law_exceeds (tdCons (tdV 1) tdNil)))
  (tdSeq (tdSetD 3 (tdCall ([], []) 1 sp_law_goes_back (tdCons (tdV 1) tdNil)))
  (tdSeq (tdFor (tdIt (tdCall ([0], []) 2 sp_law_turns (tdCons (tdV 0) (tdCons (tdC (.int 2)) tdNil)))) (gdName 4) (tdSeq (tdIfS (tdAnd (tdTest (tdBin rdEq (tdV 4) (tdC (.int 0)))) (tdNot (tdTest (tdCall ([], []) 2 sp_law_k_alike (tdCons (tdCall ([], []) 1 sp_stray (tdCons (tdV 1) tdNil)) (tdCons (tdV 2) tdNil)))))) (tdRet ([0], []) (tdC (.bool false))) tdNext)
  (tdIfS (tdTest (tdBin rdEq (tdV 4) (tdC (.int 1)))) (tdFor (tdIt (tdCall ([0], []) 2 sp_law_shuffled (tdCons (tdV 0) (tdCons (tdLst (tdCons (tdC (.int 0)) (tdCons (tdC (.int 99)) (tdCons (tdB rdMin2 (tdCons (tdV 2) (tdCons (tdC (.int 99)) tdNil))) (tdCons (tdB rdMin2 (tdCons (tdB rdMax2 (tdCons (tdBin rdSub (tdV 2) (tdC (.int 1))) (tdCons (tdC (.int 0)) tdNil))) (tdCons (tdC (.int 99)) tdNil))) (tdCons (tdB rdMin2 (tdCons (tdBin rdAdd (tdV 2) (tdC (.int 1))) (tdCons (tdC (.int 99)) tdNil))) tdNil)))))) tdNil)))) (gdName 5) (tdIfS (tdNot (tdTest (tdCall ([], []) 2 sp_law_k_alike (tdCons (tdCall ([], []) 2 sp_keeps (tdCons (tdV 1) (tdCons (tdV 5) tdNil))) (tdCons (tdAndV (tdNotV (tdV 3)) (tdBin (rdCmp fun i j => decide (i ≤ j)) (tdV 2) (tdV 5))) tdNil))))) (tdRet ([0], []) (tdC (.bool false))) tdNext)) tdNext)))
  (tdRet ([0], []) (tdC (.bool true))))))
def t_law_own : TDS := (tdSeq (tdSetD 5 (tdCall ([0], []) 2 sp_law_pick (tdCons (tdV 0) (tdCons (tdLst (tdCons (tdC (.int 0)) (tdCons (tdV 2) (tdCons (tdBin rdAdd (tdV 2) (tdCall ([0], []) 2 sp_law_draw (tdCons (tdV 0) (tdCons (tdC (.int 50)) tdNil)))) (tdCons (tdC (.int 4000)) tdNil))))) tdNil))))
  (tdSeq (tdSetD 6 (tdBin rdAdd (tdB rdMax2 (tdCons (tdC (.int 0)) (tdCons (tdBin rdSub (tdV 5) (tdV 2)) tdNil))) (tdCall ([0], []) 2 sp_law_pick (tdCons (tdV 0) (tdCons (tdLst (tdCons (tdC (.int 0)) (tdCons (tdC (.int 0)) (tdCons (tdC (.int 1)) (tdCons (tdC (.int 5)) tdNil))))) tdNil)))))
  (tdSeq (tdSetD 7 (tdBin rdAdd (tdB rdMax2 (tdCons (tdBin rdAdd (tdBin rdAdd (tdV 6) (tdV 3)) (tdB rdInt (tdCons (tdV 4) tdNil))) (tdCons (tdBin rdSub (tdV 5) (tdV 2)) tdNil))) (tdCall ([0], []) 2 sp_law_pick (tdCons (tdV 0) (tdCons (tdLst (tdCons (tdC (.int 0)) (tdCons (tdC (.int 0)) (tdCons (tdC (.int 1)) tdNil)))) tdNil)))))
  (tdSeq (tdSetD 8 (tdB rdMax3 (tdCons (tdV 5) (tdCons (tdV 6) (tdCons (tdV 7) tdNil)))))
  (tdSeq (tdSetD 9 (tdBin rdAdd (tdB rdMax2 (tdCons (tdC (.int 0)) (tdCons (tdBin rdSub (tdV 8) (tdV 2)) tdNil))) (tdCall ([0], []) 2 sp_law_pick (tdCons (tdV 0) (tdCons (tdLst (tdCons (tdC (.int 0)) (tdCons (tdC (.int 0)) (tdCons (tdC (.int 1)) (tdCons (tdV 2) tdNil))))) tdNil)))))
  (tdSeq (tdSetD 10 (tdB rdMax2 (tdCons (tdV 5) (tdCons (tdBin rdSub (tdB rdMax2 (tdCons (tdV 8) (tdCons (tdIf (tdTru (tdV 4)) (tdV 9) (tdC (.int 0))) tdNil))) (tdV 2)) tdNil))))
  (tdSeq (tdSetD 10 (tdCall ([0], []) 2 sp_law_pick (tdCons (tdV 0) (tdCons (tdLst (tdCons (tdV 10) (tdCons (tdV 10) (tdCons (tdB rdMax2 (tdCons (tdV 10) (tdCons (tdBin rdAdd (tdV 5) (tdV 1)) tdNil))) (tdCons (tdB rdMax2 (tdCons (tdV 10) (tdCons (tdBin rdSub (tdBin rdAdd (tdV 5) (tdV 1)) (tdC (.int 1))) tdNil))) tdNil))))) tdNil))))
  (tdSeq (tdIfS (tdTru (tdV 4)) (tdRet ([0], []) (tdTup (tdCons (tdTup (tdCons (tdC (.str ("a" : Str))) (tdCons (tdV 5) tdNil))) (tdCons (tdTup (tdCons (tdC (.str ("k" : Str))) (tdCons (tdV 6) tdNil))) (tdCons (tdTup (tdCons (tdC (.str ("k" : Str))) (tdCons (tdV 7) tdNil))) (tdCons (tdTup (tdCons (tdC (.str ("b" : Str))) (tdCons (tdV 9) tdNil))) (tdCons (tdTup (tdCons (tdC (.str ("a" : Str))) (tdCons (tdV 10) tdNil))) tdNil))))))) tdNext)
  (tdRet ([0], []) (tdTup (tdCons (tdTup (tdCons (tdC (.str ("c" : Str))) (tdCons (tdV 5) tdNil))) (tdCons (tdTup (tdCons (tdC (.str ("g" : Str))) (tdCons (tdV 6) tdNil))) (tdCons (tdTup (tdCons (tdC (.str ("g" : Str))) (tdCons (tdV 7) tdNil))) (tdCons (tdTup (tdCons (tdC (.str ("c" : Str))) (tdCons (tdV 10) tdNil))) tdNil))))))))))))))
def t_law_changed : TDS := (tdSeq (tdSetD 2 (tdCall ([0], []) 2 sp_law_draw (tdCons (tdV 0) (tdCons (tdB rdLen (tdCons (tdV 1) tdNil)) tdNil))))
  (tdSeq (tdAsg (tdBin rdIx (tdV 1) (tdV 2)) (gdTup 2 (gdCons (gdName 3) (gdCons (gdName 4) gdNil))))
  (tdSeq (tdSetD 5 (tdCall ([0], []) 2 sp_law_draw (tdCons (tdV 0) (tdCons (tdC (.int 7)) tdNil))))
  (tdSeq (tdIfS (tdTest (tdBin (rdCmp fun i j => decide (i < j)) (tdV 5) (tdC (.int 3)))) (tdSetD 4 (tdB rdMax2 (tdCons (tdC (.int 0)) (tdCons (tdBin rdAdd (tdV 4) (tdCall ([0], []) 2 sp_law_pick (tdCons (tdV 0) (tdCons (tdLst (tdCons (tdC (.int 1)) (tdCons (tdNeg (tdC (.int 1))) (tdCons (tdC (.int 1)) (tdCons (tdNeg (tdC (.int 1))) (tdCons (tdC (.int 2)) (tdCons (tdC (.int 99)) tdNil))))))) tdNil)))) tdNil)))) tdNext)
  (tdSeq (tdIfS (tdTest (tdBin rdEq (tdV 5) (tdC (.int 3)))) (tdSetD 3 (tdCall ([0], []) 2 sp_law_pick (tdCons (tdV 0) (tdCons (tdLst (tdCons (tdC (.str ("a" : Str))) (tdCons (tdC (.str ("b" : Str))) (tdCons (tdC (.str ("c" : Str))) (tdCons (tdC (.str ("g" : Str))) (tdCons (tdC (.str ("k" : Str))) (tdCons (tdC (.str ("kk" : Str))) tdNil))))))) tdNil)))) tdNext)
  (tdSeq (tdIfS (tdTest (tdBin rdEq (tdV 5) (tdC (.int 4)))) (tdRet ([0], []) (tdBin rdAdd (tdSl (tdV 1) tdNoPart (tdPart (tdV 2))) (tdSl (tdV 1) (tdPart (tdBin rdAdd (tdV 2) (tdC (.int 1)))) tdNoPart))) tdNext)
  (tdSeq (tdIfS (tdTest (tdBin rdEq (tdV 5) (tdC (.int 5)))) (tdRet ([0], []) (tdBin rdAdd (tdBin rdAdd (tdSl (tdV 1) tdNoPart (tdPart (tdV 2))) (tdTup (tdCons (tdTup (tdCons (tdV 3) (tdCons (tdV 4) tdNil))) tdNil))) (tdSl (tdV 1) (tdPart (tdV 2)) tdNoPart))) tdNext)
  (tdSeq (tdIfS (tdAnd (tdTest (tdBin rdEq (tdV 5) (tdC (.int 6)))) (tdTest (tdBin (rdCmp fun i j => decide (j < i)) (tdV 2) (tdC (.int 0))))) (tdRet ([0], []) (tdBin rdAdd (tdBin rdAdd (tdSl (tdV 1) tdNoPart (tdPart (tdBin rdSub (tdV 2) (tdC (.int 1))))) (tdTup (tdCons (tdBin rdIx (tdV 1) (tdV 2)) (tdCons (tdBin rdIx (tdV 1) (tdBin rdSub (tdV 2) (tdC (.int 1)))) tdNil)))) (tdSl (tdV 1) (tdPart (tdBin rdAdd (tdV 2) (tdC (.int 1)))) tdNoPart))) tdNext)
  (tdRet ([0], []) (tdBin rdAdd (tdBin rdAdd (tdSl (tdV 1) tdNoPart (tdPart (tdV 2))) (tdTup (tdCons (tdTup (tdCons (tdV 3) (tdCons (tdV 4) tdNil))) tdNil))) (tdSl (tdV 1) (tdPart (tdBin rdAdd (tdV 2) (tdC (.int 1)))) tdNoPart)))))))))))
def t_law_judged : TDS := (tdSeq (tdSetD 6 (tdLst (tdCons (tdTup (tdCons (tdV 1) (tdCons (tdV 2) (tdCons (tdV 3) tdNil)))) (tdCons (tdTup (tdCons (tdV 1) (tdCons (tdV 2) (tdCons (tdBin rdAdd (tdV 3) (tdC (.int 1))) tdNil)))) (tdCons (tdTup (tdCons (tdV 1) (tdCons (tdB rdMin2 (tdCons (tdBin rdAdd (tdV 2) (tdC (.int 1))) (tdCons (tdC (.int 99)) tdNil))) (tdCons (tdV 3) tdNil)))) (tdCons (tdTup (tdCons (tdV 1) (tdCons (tdB rdMax2 (tdCons (tdBin rdSub (tdV 2) (tdC (.int 1))) (tdCons (tdC (.int 0)) tdNil))) (tdCons (tdV 3) tdNil)))) tdNil))))))
  (tdSeq (tdSetD 6 (tdBin rdAdd (tdV 6) (tdLst (tdCons (tdTup (tdCons (tdB rdMax2 (tdCons (tdBin rdSub (tdV 1) (tdC (.int 1))) (tdCons (tdC (.int 1)) tdNil))) (tdCons (tdV 2) (tdCons (tdV 3) tdNil)))) (tdCons (tdTup (tdCons (tdB rdMin2 (tdCons (tdBin rdAdd (tdV 1) (tdC (.int 1))) (tdCons (tdC (.int 9999)) tdNil))) (tdCons (tdV 2) (tdCons (tdV 3) tdNil)))) (tdCons (tdTup (tdCons (tdV 1) (tdCons (tdV 2) (tdCons (tdB rdMax2 (tdCons (tdBin rdSub (tdV 3) (tdC (.int 1))) (tdCons (tdC (.int 0)) tdNil))) tdNil)))) tdNil))))))
  (tdSeq (tdFor (tdIt (tdLst (tdCons (tdBin rdIx (tdV 6) (tdC (.int 0))) (tdCons (tdCall ([0], []) 2 sp_law_pick (tdCons (tdV 0) (tdCons (tdV 6) tdNil))) (tdCons (tdCall ([0], []) 2 sp_law_pick (tdCons (tdV 0) (tdCons (tdV 6) tdNil))) (tdCons (tdBin rdIx (tdV 6) (tdC (.int 0))) tdNil)))))) (gdName 7) (tdSeq (tdIfS (tdTru (tdV 5)) (tdSeq (tdSetD 8 (tdCall ([], []) 4 sp_is_crossing (tdCons (tdBin rdIx (tdV 7) (tdC (.int 0))) (tdCons (tdBin rdIx (tdV 7) (tdC (.int 1))) (tdCons (tdBin rdIx (tdV 7) (tdC (.int 2))) (tdCons (tdV 4) tdNil))))))
  (tdSetD 9 (tdCall ([], []) 4 sp_law_crosses (tdCons (tdBin rdIx (tdV 7) (tdC (.int 0))) (tdCons (tdBin rdIx (tdV 7) (tdC (.int 1))) (tdCons (tdBin rdIx (tdV 7) (tdC (.int 2))) (tdCons (tdV 4) tdNil))))))) (tdSeq (tdSetD 8 (tdCall ([], []) 4 sp_is_lingering (tdCons (tdBin rdIx (tdV 7) (tdC (.int 0))) (tdCons (tdBin rdIx (tdV 7) (tdC (.int 1))) (tdCons (tdBin rdIx (tdV 7) (tdC (.int 2))) (tdCons (tdV 4) tdNil))))))
  (tdSetD 9 (tdCall ([], []) 4 sp_law_lingers (tdCons (tdBin rdIx (tdV 7) (tdC (.int 0))) (tdCons (tdBin rdIx (tdV 7) (tdC (.int 1))) (tdCons (tdBin rdIx (tdV 7) (tdC (.int 2))) (tdCons (tdV 4) tdNil))))))))
  (tdIfS (tdNot (tdTest (tdCall ([], []) 2 sp_law_k_alike (tdCons (tdV 8) (tdCons (tdV 9) tdNil))))) (tdRet ([0], []) (tdC (.bool false))) tdNext)))
  (tdRet ([0], []) (tdC (.bool true))))))
def t_law_told : TDS := (tdSeq (tdIfS (tdTru (tdV 3)) (tdRet ([], []) (tdCall ([], []) 2 sp_law_k_alike (tdCons (tdCall ([], []) 3 sp_crossing (tdCons (tdV 0) (tdCons (tdV 1) (tdCons (tdV 2) tdNil)))) (tdCons (tdCall ([], []) 3 sp_law_crossing_of (tdCons (tdV 0) (tdCons (tdV 1) (tdCons (tdV 2) tdNil)))) tdNil)))) tdNext)
  (tdRet ([], []) (tdCall ([], []) 2 sp_law_k_alike (tdCons (tdCall ([], []) 3 sp_lingering (tdCons (tdV 0) (tdCons (tdV 1) (tdCons (tdV 2) tdNil)))) (tdCons (tdCall ([], []) 3 sp_law_lingering_of (tdCons (tdV 0) (tdCons (tdV 1) (tdCons (tdV 2) tdNil)))) tdNil)))))
def t_law_asked : TDS := (tdSeq (tdFor (tdIt (tdCall ([0], []) 2 sp_law_turns (tdCons (tdV 0) (tdCons (tdC (.int 3)) tdNil)))) (gdName 5) (tdIfS (tdTest (tdBin rdEq (tdV 5) (tdC (.int 0)))) (tdFor (tdIt (tdLst (tdCons (tdV 3) (tdCons (tdB rdMax2 (tdCons (tdBin rdSub (tdV 3) (tdC (.int 1))) (tdCons (tdC (.int 0)) tdNil))) (tdCons (tdBin rdAdd (tdV 3) (tdC (.int 1))) (tdCons (tdV 3) tdNil)))))) (gdName 6) (tdIfS (tdNot (tdTest (tdCall ([], []) 4 sp_law_told (tdCons (tdV 1) (tdCons (tdV 2) (tdCons (tdV 6) (tdCons (tdV 4) tdNil))))))) (tdRet ([0], []) (tdC (.bool false))) tdNext)) (tdSeq (tdSetD 7 (tdCall ([0], []) 5 sp_law_own (tdCons (tdV 0) (tdCons (tdV 1) (tdCons (tdV 2) (tdCons (tdV 3) (tdCons (tdV 4) tdNil)))))))
  (tdSeq (tdSetD 8 (tdIf (tdTru (tdV 4)) (tdCall ([], []) 3 sp_law_crossing_of (tdCons (tdV 1) (tdCons (tdV 2) (tdCons (tdV 3) tdNil)))) (tdCall ([], []) 3 sp_law_lingering_of (tdCons (tdV 1) (tdCons (tdV 2) (tdCons (tdV 3) tdNil))))))
  (tdSeq (tdIfS (tdAnd (tdTest (tdBin rdEq (tdV 5) (tdC (.int 2)))) (tdTest (tdNotN (tdV 8)))) (tdSetD 7 (tdV 8)) tdNext)
  (tdFor (tdIt (tdLst (tdCons (tdV 7) (tdCons (tdCall ([0], []) 2 sp_law_changed (tdCons (tdV 0) (tdCons (tdV 7) tdNil))) (tdCons (tdCall ([0], []) 2 sp_law_changed (tdCons (tdV 0) (tdCons (tdV 7) tdNil))) (tdCons (tdV 7) tdNil)))))) (gdName 9) (tdIfS (tdNot (tdTest (tdCall ([0], []) 6 sp_law_judged (tdCons (tdV 0) (tdCons (tdV 1) (tdCons (tdV 2) (tdCons (tdV 3) (tdCons (tdV 9) (tdCons (tdV 4) tdNil))))))))) (tdRet ([0], []) (tdC (.bool false))) tdNext)))))))
  (tdRet ([0], []) (tdC (.bool true))))
def t_law_apart : TDS := (tdSeq (tdSetD 1 (tdCall ([0], []) 2 sp_law_pick (tdCons (tdV 0) (tdCons (tdLst (tdCons (tdC (.int 60)) (tdCons (tdC (.int 1)) (tdCons (tdC (.int 9999)) (tdCons (tdBin rdAdd (tdC (.int 1)) (tdCall ([0], []) 2 sp_law_draw (tdCons (tdV 0) (tdCons (tdC (.int 200)) tdNil)))) tdNil))))) tdNil))))
  (tdSeq (tdSetD 2 (tdCall ([0], []) 2 sp_law_pick (tdCons (tdV 0) (tdCons (tdLst (tdCons (tdC (.int 0)) (tdCons (tdC (.int 2)) (tdCons (tdC (.int 1)) (tdCons (tdC (.int 99)) (tdCons (tdCall ([0], []) 2 sp_law_draw (tdCons (tdV 0) (tdCons (tdC (.int 100)) tdNil))) tdNil)))))) tdNil))))
  (tdSeq (tdSetD 3 (tdBin rdAdd (tdV 1) (tdBin rdMul (tdC (.int 2)) (tdV 2))))
  (tdSeq (tdSetD 4 (tdCall ([0], []) 2 sp_law_pick (tdCons (tdV 0) (tdCons (tdLst (tdCons (tdBin rdSub (tdV 3) (tdC (.int 1))) (tdCons (tdBin rdSub (tdV 3) (tdC (.int 1))) (tdCons (tdV 3) (tdCons (tdV 3) (tdCons (tdBin rdAdd (tdV 3) (tdC (.int 1))) (tdCons (tdB rdMax2 (tdCons (tdBin rdSub (tdV 3) (tdC (.int 2))) (tdCons (tdC (.int 0)) tdNil))) (tdCons (tdC (.int 0)) (tdCons (tdCall ([0], []) 2 sp_law_draw (tdCons (tdV 0) (tdCons (tdBin rdAdd (tdV 3) (tdC (.int 1))) tdNil))) (tdCons (tdC (.int 99998)) tdNil)))))))))) tdNil))))
  (tdRet ([0], []) (tdCall ([0], []) 5 sp_law_asked (tdCons (tdV 0) (tdCons (tdV 1) (tdCons (tdV 2) (tdCons (tdV 4) (tdCons (tdBin rdEq (tdCall ([0], []) 2 sp_law_draw (tdCons (tdV 0) (tdCons (tdC (.int 2)) tdNil))) (tdC (.int 0))) tdNil)))))))))))
def t_law : TDS := (tdSeq (tdSet 1 (tdCall ([], []) 1 sp_law_tape (tdCons (tdV 0) tdNil)))
  (tdSeq (tdIfS (tdNot (tdTest (tdCall ([0], []) 1 sp_law_apart (tdCons (tdV 1) tdNil)))) (tdRet ([], []) (tdC (.bool false))) tdNext)
  (tdSeq (tdSetD 2 (tdCall ([0], []) 1 sp_law_names (tdCons (tdV 1) tdNil)))
  (tdSeq (tdSetD 3 (tdCall ([0], []) 2 sp_law_timeline (tdCons (tdV 1) (tdCons (tdV 2) tdNil))))
  (tdSeq (tdFor (tdIt (tdLst (tdCons (tdV 3) (tdCons (tdCall ([0], []) 3 sp_law_moved (tdCons (tdV 1) (tdCons (tdV 3) (tdCons (tdV 2) tdNil)))) (tdCons (tdV 3) tdNil))))) (gdName 4) (tdIfS (tdNot (tdTest (tdCall ([0], []) 2 sp_law_strays (tdCons (tdV 1) (tdCons (tdV 4) tdNil))))) (tdRet ([], []) (tdC (.bool false))) tdNext))
  (tdRet ([], []) (tdCall ([0], []) 1 sp_law_apart (tdCons (tdV 1) tdNil))))))))
end Dlk51

set_option Elab.async false
set_option linter.all false
set_option maxRecDepth 100000
set_option maxHeartbeats 0
set_option autoImplicit false
namespace Dlk51
open PySem PySem.Spec L2 DL
def topS (i : Nat) : Stmt := PySem.Challenge.pw_gatherhouse_k51_whole_span_and_until_are.main.body.getD i (.Pass ⟨0, 0, 0, 0⟩)
abbrev s_stray : Stmt := topS 1
abbrev n_stray : List Str := ["timeline", "greatest", "found", "host", "tick"]
abbrev p_stray : List Str := ["timeline"]
theorem sc_stray : FnScope n_stray p_stray (defScope s_stray) := ⟨rfl, rfl, rfl, by decide +kernel, rfl, by decide +kernel, by decide +kernel⟩
abbrev s_goes_back : Stmt := topS 2
abbrev n_goes_back : List Str := ["timeline", "last", "host", "tick"]
abbrev p_goes_back : List Str := ["timeline"]
theorem sc_goes_back : FnScope n_goes_back p_goes_back (defScope s_goes_back) := ⟨rfl, rfl, rfl, by decide +kernel, rfl, by decide +kernel, by decide +kernel⟩
abbrev s_least_tick : Stmt := topS 4
abbrev n_least_tick : List Str := ["timeline", "skew", "host", "least", "elder", "tick"]
abbrev p_least_tick : List Str := ["timeline", "skew", "host"]
theorem sc_least_tick : FnScope n_least_tick p_least_tick (defScope s_least_tick) := ⟨rfl, rfl, rfl, by decide +kernel, rfl, by decide +kernel, by decide +kernel⟩
abbrev s_hosts_of : Stmt := topS 6
abbrev n_hosts_of : List Str := ["timeline", "host", "tick"]
abbrev p_hosts_of : List Str := ["timeline"]
theorem sc_hosts_of : FnScope n_hosts_of p_hosts_of (defScope s_hosts_of) := ⟨rfl, rfl, rfl, by decide +kernel, rfl, by decide +kernel, by decide +kernel⟩
abbrev s_law_tape : Stmt := topS 12
abbrev n_law_tape : List Str := ["script", "mixed", "cell"]
abbrev p_law_tape : List Str := ["script"]
theorem sc_law_tape : FnScope n_law_tape p_law_tape (defScope s_law_tape) := ⟨rfl, rfl, rfl, by decide +kernel, rfl, by decide +kernel, by decide +kernel⟩
abbrev s_law_draw : Stmt := topS 13
abbrev n_law_draw : List Str := ["tape", "many", "place", "number"]
abbrev p_law_draw : List Str := ["tape", "many"]
theorem sc_law_draw : FnScope n_law_draw p_law_draw (defScope s_law_draw) := ⟨rfl, rfl, rfl, by decide +kernel, rfl, by decide +kernel, by decide +kernel⟩
abbrev s_law_k_alike : Stmt := topS 17
abbrev n_law_k_alike : List Str := ["told", "wanted"]
abbrev p_law_k_alike : List Str := ["told", "wanted"]
theorem sc_law_k_alike : FnScope n_law_k_alike p_law_k_alike (defScope s_law_k_alike) := ⟨rfl, rfl, rfl, by decide +kernel, rfl, by decide +kernel, by decide +kernel⟩
abbrev s_law_exceeds : Stmt := topS 18
abbrev n_law_exceeds : List Str := ["timeline", "told", "j", "i"]
abbrev p_law_exceeds : List Str := ["timeline"]
theorem sc_law_exceeds : FnScope n_law_exceeds p_law_exceeds (defScope s_law_exceeds) := ⟨rfl, rfl, rfl, by decide +kernel, rfl, by decide +kernel, by decide +kernel⟩
abbrev s_law_goes_back : Stmt := topS 19
abbrev n_law_goes_back : List Str := ["timeline", "j", "i"]
abbrev p_law_goes_back : List Str := ["timeline"]
theorem sc_law_goes_back : FnScope n_law_goes_back p_law_goes_back (defScope s_law_goes_back) := ⟨rfl, rfl, rfl, by decide +kernel, rfl, by decide +kernel, by decide +kernel⟩
abbrev s_law_kept : Stmt := topS 24
abbrev n_law_kept : List Str := ["timeline", "skew", "j", "i", "least"]
abbrev p_law_kept : List Str := ["timeline", "skew"]
theorem sc_law_kept : FnScope n_law_kept p_law_kept (defScope s_law_kept) := ⟨rfl, rfl, rfl, by decide +kernel, rfl, by decide +kernel, by decide +kernel⟩
abbrev s_law_hosts : Stmt := topS 25
abbrev n_law_hosts : List Str := ["timeline", "event"]
abbrev p_law_hosts : List Str := ["timeline"]
theorem sc_law_hosts : FnScope n_law_hosts p_law_hosts (defScope s_law_hosts) := ⟨rfl, rfl, rfl, by decide +kernel, rfl, by decide +kernel, by decide +kernel⟩
abbrev s_law_crossing_of : Stmt := topS 28
abbrev n_law_crossing_of : List Str := ["lease", "skew", "wait"]
abbrev p_law_crossing_of : List Str := ["lease", "skew", "wait"]
theorem sc_law_crossing_of : FnScope n_law_crossing_of p_law_crossing_of (defScope s_law_crossing_of) := ⟨rfl, rfl, rfl, by decide +kernel, rfl, by decide +kernel, by decide +kernel⟩
abbrev s_law_lingering_of : Stmt := topS 29
abbrev n_law_lingering_of : List Str := ["lease", "skew", "wait"]
abbrev p_law_lingering_of : List Str := ["lease", "skew", "wait"]
theorem sc_law_lingering_of : FnScope n_law_lingering_of p_law_lingering_of (defScope s_law_lingering_of) := ⟨rfl, rfl, rfl, by decide +kernel, rfl, by decide +kernel, by decide +kernel⟩
abbrev s_keeps : Stmt := topS 3
abbrev n_keeps : List Str := ["timeline", "skew"]
abbrev p_keeps : List Str := ["timeline", "skew"]
theorem sc_keeps : FnScope n_keeps p_keeps (defScope s_keeps) := ⟨rfl, rfl, rfl, by decide +kernel, rfl, by decide +kernel, by decide +kernel⟩
abbrev s_told_next : Stmt := topS 5
abbrev n_told_next : List Str := ["timeline", "skew", "host"]
abbrev p_told_next : List Str := ["timeline", "skew", "host"]
theorem sc_told_next : FnScope n_told_next p_told_next (defScope s_told_next) := ⟨rfl, rfl, rfl, by decide +kernel, rfl, by decide +kernel, by decide +kernel⟩
abbrev s_law_pick : Stmt := topS 14
abbrev n_law_pick : List Str := ["tape", "menu"]
abbrev p_law_pick : List Str := ["tape", "menu"]
theorem sc_law_pick : FnScope n_law_pick p_law_pick (defScope s_law_pick) := ⟨rfl, rfl, rfl, by decide +kernel, rfl, by decide +kernel, by decide +kernel⟩
abbrev s_law_turns : Stmt := topS 15
abbrev n_law_turns : List Str := ["tape", "many", "held", "turns", "k"]
abbrev p_law_turns : List Str := ["tape", "many"]
theorem sc_law_turns : FnScope n_law_turns p_law_turns (defScope s_law_turns) := ⟨rfl, rfl, rfl, by decide +kernel, rfl, by decide +kernel, by decide +kernel⟩
abbrev s_law_shuffled : Stmt := topS 16
abbrev n_law_shuffled : List Str := ["tape", "menu", "held", "turned", "k"]
abbrev p_law_shuffled : List Str := ["tape", "menu"]
theorem sc_law_shuffled : FnScope n_law_shuffled p_law_shuffled (defScope s_law_shuffled) := ⟨rfl, rfl, rfl, by decide +kernel, rfl, by decide +kernel, by decide +kernel⟩
abbrev s_law_crosses : Stmt := topS 26
abbrev n_law_crosses : List Str := ["lease", "skew", "wait", "timeline"]
abbrev p_law_crosses : List Str := ["lease", "skew", "wait", "timeline"]
theorem sc_law_crosses : FnScope n_law_crosses p_law_crosses (defScope s_law_crosses) := ⟨rfl, rfl, rfl, by decide +kernel, rfl, by decide +kernel, by decide +kernel⟩
abbrev s_law_lingers : Stmt := topS 27
abbrev n_law_lingers : List Str := ["lease", "skew", "wait", "timeline"]
abbrev p_law_lingers : List Str := ["lease", "skew", "wait", "timeline"]
theorem sc_law_lingers : FnScope n_law_lingers p_law_lingers (defScope s_law_lingers) := ⟨rfl, rfl, rfl, by decide +kernel, rfl, by decide +kernel, by decide +kernel⟩
abbrev s_crossing : Stmt := topS 7
abbrev n_crossing : List Str := ["lease", "skew", "wait", "timeline"]
abbrev p_crossing : List Str := ["lease", "skew", "wait"]
theorem sc_crossing : FnScope n_crossing p_crossing (defScope s_crossing) := ⟨rfl, rfl, rfl, by decide +kernel, rfl, by decide +kernel, by decide +kernel⟩
abbrev s_is_crossing : Stmt := topS 8
abbrev n_is_crossing : List Str := ["lease", "skew", "wait", "timeline", "told", "heard", "granted", "fetched", "later", "host", "tick"]
abbrev p_is_crossing : List Str := ["lease", "skew", "wait", "timeline"]
theorem sc_is_crossing : FnScope n_is_crossing p_is_crossing (defScope s_is_crossing) := ⟨rfl, rfl, rfl, by decide +kernel, rfl, by decide +kernel, by decide +kernel⟩
abbrev s_lingering : Stmt := topS 9
abbrev n_lingering : List Str := ["lease", "skew", "wait"]
abbrev p_lingering : List Str := ["lease", "skew", "wait"]
theorem sc_lingering : FnScope n_lingering p_lingering (defScope s_lingering) := ⟨rfl, rfl, rfl, by decide +kernel, rfl, by decide +kernel, by decide +kernel⟩
abbrev s_is_lingering : Stmt := topS 10
abbrev n_is_lingering : List Str := ["lease", "skew", "wait", "timeline", "told", "learned", "nowhere", "later", "host", "tick"]
abbrev p_is_lingering : List Str := ["lease", "skew", "wait", "timeline"]
theorem sc_is_lingering : FnScope n_is_lingering p_is_lingering (defScope s_is_lingering) := ⟨rfl, rfl, rfl, by decide +kernel, rfl, by decide +kernel, by decide +kernel⟩
abbrev s_law_names : Stmt := topS 20
abbrev n_law_names : List Str := ["tape", "signs", "stem", "first", "k"]
abbrev p_law_names : List Str := ["tape"]
theorem sc_law_names : FnScope n_law_names p_law_names (defScope s_law_names) := ⟨rfl, rfl, rfl, by decide +kernel, rfl, by decide +kernel, by decide +kernel⟩
abbrev s_law_timeline : Stmt := topS 21
abbrev n_law_timeline : List Str := ["tape", "names", "wide", "kind", "tick", "last", "events", "k", "name", "here"]
abbrev p_law_timeline : List Str := ["tape", "names"]
theorem sc_law_timeline : FnScope n_law_timeline p_law_timeline (defScope s_law_timeline) := ⟨rfl, rfl, rfl, by decide +kernel, rfl, by decide +kernel, by decide +kernel⟩
abbrev s_law_moved : Stmt := topS 22
abbrev n_law_moved : List Str := ["tape", "timeline", "names", "k", "name", "here", "fresh"]
abbrev p_law_moved : List Str := ["tape", "timeline", "names"]
theorem sc_law_moved : FnScope n_law_moved p_law_moved (defScope s_law_moved) := ⟨rfl, rfl, rfl, by decide +kernel, rfl, by decide +kernel, by decide +kernel⟩
abbrev s_law_strays : Stmt := topS 23
abbrev n_law_strays : List Str := ["tape", "timeline", "gap", "back", "door", "skew"]
abbrev p_law_strays : List Str := ["tape", "timeline"]
theorem sc_law_strays : FnScope n_law_strays p_law_strays (defScope s_law_strays) := ⟨rfl, rfl, rfl, by decide +kernel, rfl, by decide +kernel, by decide +kernel⟩
abbrev s_law_own : Stmt := topS 30
abbrev n_law_own : List Str := ["tape", "lease", "skew", "wait", "crosses", "first", "low", "high", "top", "fetch", "end"]
abbrev p_law_own : List Str := ["tape", "lease", "skew", "wait", "crosses"]
theorem sc_law_own : FnScope n_law_own p_law_own (defScope s_law_own) := ⟨rfl, rfl, rfl, by decide +kernel, rfl, by decide +kernel, by decide +kernel⟩
abbrev s_law_changed : Stmt := topS 31
abbrev n_law_changed : List Str := ["tape", "timeline", "k", "name", "tick", "choice"]
abbrev p_law_changed : List Str := ["tape", "timeline"]
theorem sc_law_changed : FnScope n_law_changed p_law_changed (defScope s_law_changed) := ⟨rfl, rfl, rfl, by decide +kernel, rfl, by decide +kernel, by decide +kernel⟩
abbrev s_law_judged : Stmt := topS 32
abbrev n_law_judged : List Str := ["tape", "lease", "skew", "wait", "timeline", "crosses", "settings", "other", "told", "wanted"]
abbrev p_law_judged : List Str := ["tape", "lease", "skew", "wait", "timeline", "crosses"]
theorem sc_law_judged : FnScope n_law_judged p_law_judged (defScope s_law_judged) := ⟨rfl, rfl, rfl, by decide +kernel, rfl, by decide +kernel, by decide +kernel⟩
abbrev s_law_told : Stmt := topS 33
abbrev n_law_told : List Str := ["lease", "skew", "wait", "crosses"]
abbrev p_law_told : List Str := ["lease", "skew", "wait", "crosses"]
theorem sc_law_told : FnScope n_law_told p_law_told (defScope s_law_told) := ⟨rfl, rfl, rfl, by decide +kernel, rfl, by decide +kernel, by decide +kernel⟩
abbrev s_law_asked : Stmt := topS 34
abbrev n_law_asked : List Str := ["tape", "lease", "skew", "wait", "crosses", "door", "other", "timeline", "ready", "one"]
abbrev p_law_asked : List Str := ["tape", "lease", "skew", "wait", "crosses"]
theorem sc_law_asked : FnScope n_law_asked p_law_asked (defScope s_law_asked) := ⟨rfl, rfl, rfl, by decide +kernel, rfl, by decide +kernel, by decide +kernel⟩
abbrev s_law_apart : Stmt := topS 35
abbrev n_law_apart : List Str := ["tape", "lease", "skew", "span", "wait"]
abbrev p_law_apart : List Str := ["tape"]
theorem sc_law_apart : FnScope n_law_apart p_law_apart (defScope s_law_apart) := ⟨rfl, rfl, rfl, by decide +kernel, rfl, by decide +kernel, by decide +kernel⟩
abbrev s_law : Stmt := topS 36
abbrev n_law : List Str := ["script", "tape", "names", "first", "timeline"]
abbrev p_law : List Str := ["script"]
theorem sc_law : FnScope n_law p_law (defScope s_law) := ⟨rfl, rfl, rfl, by decide +kernel, rfl, by decide +kernel, by decide +kernel⟩
structure Tx (K : PySem.W.Frag) (mg : Str → Option Value) where
  f_stray : Addr
  d_stray : FuncData
  D_stray : Fun K "stray" "stray" s_stray f_stray d_stray
  g_stray : mg "stray" = some (.ref f_stray)
  b_stray : Binds K d_stray p_stray []
  f_goes_back : Addr
  d_goes_back : FuncData
  D_goes_back : Fun K "goes_back" "goes_back" s_goes_back f_goes_back d_goes_back
  g_goes_back : mg "goes_back" = some (.ref f_goes_back)
  b_goes_back : Binds K d_goes_back p_goes_back []
  f_least_tick : Addr
  d_least_tick : FuncData
  D_least_tick : Fun K "least_tick" "least_tick" s_least_tick f_least_tick d_least_tick
  g_least_tick : mg "least_tick" = some (.ref f_least_tick)
  b_least_tick : Binds K d_least_tick p_least_tick []
  f_hosts_of : Addr
  d_hosts_of : FuncData
  D_hosts_of : Fun K "hosts_of" "hosts_of" s_hosts_of f_hosts_of d_hosts_of
  g_hosts_of : mg "hosts_of" = some (.ref f_hosts_of)
  b_hosts_of : Binds K d_hosts_of p_hosts_of []
  f_law_tape : Addr
  d_law_tape : FuncData
  D_law_tape : Fun K "_law_tape" "_law_tape" s_law_tape f_law_tape d_law_tape
  g_law_tape : mg "_law_tape" = some (.ref f_law_tape)
  b_law_tape : Binds K d_law_tape p_law_tape []
  f_law_draw : Addr
  d_law_draw : FuncData
  D_law_draw : Fun K "_law_draw" "_law_draw" s_law_draw f_law_draw d_law_draw
  g_law_draw : mg "_law_draw" = some (.ref f_law_draw)
  b_law_draw : Binds K d_law_draw p_law_draw []
  f_law_k_alike : Addr
  d_law_k_alike : FuncData
  D_law_k_alike : Fun K "_law_k_alike" "_law_k_alike" s_law_k_alike f_law_k_alike d_law_k_alike
  g_law_k_alike : mg "_law_k_alike" = some (.ref f_law_k_alike)
  b_law_k_alike : Binds K d_law_k_alike p_law_k_alike []
  f_law_exceeds : Addr
  d_law_exceeds : FuncData
  D_law_exceeds : Fun K "_law_exceeds" "_law_exceeds" s_law_exceeds f_law_exceeds d_law_exceeds
  g_law_exceeds : mg "_law_exceeds" = some (.ref f_law_exceeds)
  b_law_exceeds : Binds K d_law_exceeds p_law_exceeds []
  f_law_goes_back : Addr
  d_law_goes_back : FuncData
  D_law_goes_back : Fun K "_law_goes_back" "_law_goes_back" s_law_goes_back f_law_goes_back d_law_goes_back
  g_law_goes_back : mg "_law_goes_back" = some (.ref f_law_goes_back)
  b_law_goes_back : Binds K d_law_goes_back p_law_goes_back []
  f_law_kept : Addr
  d_law_kept : FuncData
  D_law_kept : Fun K "_law_kept" "_law_kept" s_law_kept f_law_kept d_law_kept
  g_law_kept : mg "_law_kept" = some (.ref f_law_kept)
  b_law_kept : Binds K d_law_kept p_law_kept []
  f_law_hosts : Addr
  d_law_hosts : FuncData
  D_law_hosts : Fun K "_law_hosts" "_law_hosts" s_law_hosts f_law_hosts d_law_hosts
  g_law_hosts : mg "_law_hosts" = some (.ref f_law_hosts)
  b_law_hosts : Binds K d_law_hosts p_law_hosts []
  f_law_crossing_of : Addr
  d_law_crossing_of : FuncData
  D_law_crossing_of : Fun K "_law_crossing_of" "_law_crossing_of" s_law_crossing_of f_law_crossing_of d_law_crossing_of
  g_law_crossing_of : mg "_law_crossing_of" = some (.ref f_law_crossing_of)
  b_law_crossing_of : Binds K d_law_crossing_of p_law_crossing_of []
  f_law_lingering_of : Addr
  d_law_lingering_of : FuncData
  D_law_lingering_of : Fun K "_law_lingering_of" "_law_lingering_of" s_law_lingering_of f_law_lingering_of d_law_lingering_of
  g_law_lingering_of : mg "_law_lingering_of" = some (.ref f_law_lingering_of)
  b_law_lingering_of : Binds K d_law_lingering_of p_law_lingering_of []
  f_keeps : Addr
  d_keeps : FuncData
  D_keeps : Fun K "keeps" "keeps" s_keeps f_keeps d_keeps
  g_keeps : mg "keeps" = some (.ref f_keeps)
  b_keeps : Binds K d_keeps p_keeps []
  f_told_next : Addr
  d_told_next : FuncData
  D_told_next : Fun K "told_next" "told_next" s_told_next f_told_next d_told_next
  g_told_next : mg "told_next" = some (.ref f_told_next)
  b_told_next : Binds K d_told_next p_told_next []
  f_law_pick : Addr
  d_law_pick : FuncData
  D_law_pick : Fun K "_law_pick" "_law_pick" s_law_pick f_law_pick d_law_pick
  g_law_pick : mg "_law_pick" = some (.ref f_law_pick)
  b_law_pick : Binds K d_law_pick p_law_pick []
  f_law_turns : Addr
  d_law_turns : FuncData
  D_law_turns : Fun K "_law_turns" "_law_turns" s_law_turns f_law_turns d_law_turns
  g_law_turns : mg "_law_turns" = some (.ref f_law_turns)
  b_law_turns : Binds K d_law_turns p_law_turns []
  f_law_shuffled : Addr
  d_law_shuffled : FuncData
  D_law_shuffled : Fun K "_law_shuffled" "_law_shuffled" s_law_shuffled f_law_shuffled d_law_shuffled
  g_law_shuffled : mg "_law_shuffled" = some (.ref f_law_shuffled)
  b_law_shuffled : Binds K d_law_shuffled p_law_shuffled []
  f_law_crosses : Addr
  d_law_crosses : FuncData
  D_law_crosses : Fun K "_law_crosses" "_law_crosses" s_law_crosses f_law_crosses d_law_crosses
  g_law_crosses : mg "_law_crosses" = some (.ref f_law_crosses)
  b_law_crosses : Binds K d_law_crosses p_law_crosses []
  f_law_lingers : Addr
  d_law_lingers : FuncData
  D_law_lingers : Fun K "_law_lingers" "_law_lingers" s_law_lingers f_law_lingers d_law_lingers
  g_law_lingers : mg "_law_lingers" = some (.ref f_law_lingers)
  b_law_lingers : Binds K d_law_lingers p_law_lingers []
  f_crossing : Addr
  d_crossing : FuncData
  D_crossing : Fun K "crossing" "crossing" s_crossing f_crossing d_crossing
  g_crossing : mg "crossing" = some (.ref f_crossing)
  b_crossing : Binds K d_crossing p_crossing []
  f_is_crossing : Addr
  d_is_crossing : FuncData
  D_is_crossing : Fun K "is_crossing" "is_crossing" s_is_crossing f_is_crossing d_is_crossing
  g_is_crossing : mg "is_crossing" = some (.ref f_is_crossing)
  b_is_crossing : Binds K d_is_crossing p_is_crossing []
  f_lingering : Addr
  d_lingering : FuncData
  D_lingering : Fun K "lingering" "lingering" s_lingering f_lingering d_lingering
  g_lingering : mg "lingering" = some (.ref f_lingering)
  b_lingering : Binds K d_lingering p_lingering []
  f_is_lingering : Addr
  d_is_lingering : FuncData
  D_is_lingering : Fun K "is_lingering" "is_lingering" s_is_lingering f_is_lingering d_is_lingering
  g_is_lingering : mg "is_lingering" = some (.ref f_is_lingering)
  b_is_lingering : Binds K d_is_lingering p_is_lingering []
  f_law_names : Addr
  d_law_names : FuncData
  D_law_names : Fun K "_law_names" "_law_names" s_law_names f_law_names d_law_names
  g_law_names : mg "_law_names" = some (.ref f_law_names)
  b_law_names : Binds K d_law_names p_law_names []
  f_law_timeline : Addr
  d_law_timeline : FuncData
  D_law_timeline : Fun K "_law_timeline" "_law_timeline" s_law_timeline f_law_timeline d_law_timeline
  g_law_timeline : mg "_law_timeline" = some (.ref f_law_timeline)
  b_law_timeline : Binds K d_law_timeline p_law_timeline []
  f_law_moved : Addr
  d_law_moved : FuncData
  D_law_moved : Fun K "_law_moved" "_law_moved" s_law_moved f_law_moved d_law_moved
  g_law_moved : mg "_law_moved" = some (.ref f_law_moved)
  b_law_moved : Binds K d_law_moved p_law_moved []
  f_law_strays : Addr
  d_law_strays : FuncData
  D_law_strays : Fun K "_law_strays" "_law_strays" s_law_strays f_law_strays d_law_strays
  g_law_strays : mg "_law_strays" = some (.ref f_law_strays)
  b_law_strays : Binds K d_law_strays p_law_strays []
  f_law_own : Addr
  d_law_own : FuncData
  D_law_own : Fun K "_law_own" "_law_own" s_law_own f_law_own d_law_own
  g_law_own : mg "_law_own" = some (.ref f_law_own)
  b_law_own : Binds K d_law_own p_law_own []
  f_law_changed : Addr
  d_law_changed : FuncData
  D_law_changed : Fun K "_law_changed" "_law_changed" s_law_changed f_law_changed d_law_changed
  g_law_changed : mg "_law_changed" = some (.ref f_law_changed)
  b_law_changed : Binds K d_law_changed p_law_changed []
  f_law_judged : Addr
  d_law_judged : FuncData
  D_law_judged : Fun K "_law_judged" "_law_judged" s_law_judged f_law_judged d_law_judged
  g_law_judged : mg "_law_judged" = some (.ref f_law_judged)
  b_law_judged : Binds K d_law_judged p_law_judged []
  f_law_told : Addr
  d_law_told : FuncData
  D_law_told : Fun K "_law_told" "_law_told" s_law_told f_law_told d_law_told
  g_law_told : mg "_law_told" = some (.ref f_law_told)
  b_law_told : Binds K d_law_told p_law_told []
  f_law_asked : Addr
  d_law_asked : FuncData
  D_law_asked : Fun K "_law_asked" "_law_asked" s_law_asked f_law_asked d_law_asked
  g_law_asked : mg "_law_asked" = some (.ref f_law_asked)
  b_law_asked : Binds K d_law_asked p_law_asked []
  f_law_apart : Addr
  d_law_apart : FuncData
  D_law_apart : Fun K "_law_apart" "_law_apart" s_law_apart f_law_apart d_law_apart
  g_law_apart : mg "_law_apart" = some (.ref f_law_apart)
  b_law_apart : Binds K d_law_apart p_law_apart []
  f_law : Addr
  d_law : FuncData
  D_law : Fun K "law" "law" s_law f_law d_law
  g_law : mg "law" = some (.ref f_law)
  b_law : Binds K d_law p_law []
  n_abs : mg "abs" = none
  n_int : mg "int" = none
  n_len : mg "len" = none
  n_list : mg "list" = none
  n_max : mg "max" = none
  n_min : mg "min" = none
  n_range : mg "range" = none
  n_repr : mg "repr" = none
  n_tuple : mg "tuple" = none
section
variable {P : Program} {w : World} {K : PySem.W.Frag} {mg : Str → Option Value} {base : Heap}
theorem ok_stray (T : Tx K mg) (h : ∀ (args : List Sl) (Q : Sl → (Nat → Option Sl) → Prop), args.length = 1 → sp_stray args Q → t_stray { nx := fun env => Q (.d .none) (osOf env), rt := fun r env => Q r (osOf env) } (startE 5 args)) : FnG P w K mg base 1 T.f_stray T.d_stray p_stray (spD K ([], []) 1 sp_stray) := by
  refine fndG T.D_stray sc_stray rfl fun cdv A outer s H E hr hgd => ⟨t_stray, ?_, h⟩
  have nd := sc_stray.nd
  exact (psds_cons (psd_setD (i := 1) nd rfl (by first | exact Or.inl rfl | exact Or.inr rfl) pd_int)
      (psds_cons (psd_setD (i := 2) nd rfl (by first | exact Or.inl rfl | exact Or.inr rfl) pd_int)
      (psds_cons (psd_for PassesOwn.never rfl (pdi_seq (pdv 0)) (pdg_tup rfl (pdgs_cons (pdg_name (i := 3) nd rfl (by first | exact Or.inl rfl | exact Or.inr rfl)) (pdgs_cons (pdg_name (i := 4) nd rfl (by first | exact Or.inl rfl | exact Or.inr rfl)) pdgs_nil))) (psds_cons (psd_setD (i := 1) nd rfl (by first | exact Or.inl rfl | exact Or.inr rfl) (pd_callB (bd_max2 rfl) rfl T.n_max bt_max (pda_cons (pdv 1) (pda_cons (pdv 4) pda_nil))))
      (psds_one (psd_setD (i := 2) nd rfl (by first | exact Or.inl rfl | exact Or.inr rfl) (pd_callB (bd_max2 rfl) rfl T.n_max bt_max (pda_cons (pdv 2) (pda_cons (pd_op od_sub (pdv 1) (pdv 4)) pda_nil)))))))
      (psds_one (psd_ret (pdv 2))))))
theorem ok_goes_back (T : Tx K mg) (h : ∀ (args : List Sl) (Q : Sl → (Nat → Option Sl) → Prop), args.length = 1 → sp_goes_back args Q → t_goes_back { nx := fun env => Q (.d .none) (osOf env), rt := fun r env => Q r (osOf env) } (startE 4 args)) : FnG P w K mg base 1 T.f_goes_back T.d_goes_back p_goes_back (spD K ([], []) 1 sp_goes_back) := by
  refine fndG T.D_goes_back sc_goes_back rfl fun cdv A outer s H E hr hgd => ⟨t_goes_back, ?_, h⟩
  have nd := sc_goes_back.nd
  exact (psds_cons (psd_set (i := 1) nd rfl (by first | exact Or.inl rfl | exact Or.inr rfl) pd_new)
      (psds_cons (psd_for PassesOwn.never rfl (pdi_seq (pdv 0)) (pdg_tup rfl (pdgs_cons (pdg_name (i := 2) nd rfl (by first | exact Or.inl rfl | exact Or.inr rfl)) (pdgs_cons (pdg_name (i := 3) nd rfl (by first | exact Or.inl rfl | exact Or.inr rfl)) pdgs_nil))) (psds_cons (psd_if (pdt_cmp od_lt (pdv 3) (pd_get2 (u1 hr) (pv 1) (pdv 2) pd_int)) (psds_one (psd_ret pd_bl)) psds_nil)
      (psds_one (psd_put (u1 hr) (pv 1) (pdv 2) (pdv 3)))))
      (psds_one (psd_ret pd_bl))))
theorem ok_least_tick (T : Tx K mg) (h : ∀ (args : List Sl) (Q : Sl → (Nat → Option Sl) → Prop), args.length = 3 → sp_least_tick args Q → t_least_tick { nx := fun env => Q (.d .none) (osOf env), rt := fun r env => Q r (osOf env) } (startE 6 args)) : FnG P w K mg base 1 T.f_least_tick T.d_least_tick p_least_tick (spD K ([], []) 3 sp_least_tick) := by
  refine fndG T.D_least_tick sc_least_tick rfl fun cdv A outer s H E hr hgd => ⟨t_least_tick, ?_, h⟩
  have nd := sc_least_tick.nd
  exact (psds_cons (psd_setD (i := 3) nd rfl (by first | exact Or.inl rfl | exact Or.inr rfl) pd_int)
      (psds_cons (psd_for PassesOwn.never rfl (pdi_seq (pdv 0)) (pdg_tup rfl (pdgs_cons (pdg_name (i := 4) nd rfl (by first | exact Or.inl rfl | exact Or.inr rfl)) (pdgs_cons (pdg_name (i := 5) nd rfl (by first | exact Or.inl rfl | exact Or.inr rfl)) pdgs_nil))) (psds_one (psd_if (pdt_cmp (od_eq (u64 hr)) (pdv 4) (pdv 2)) (psds_one (psd_setD (i := 3) nd rfl (by first | exact Or.inl rfl | exact Or.inr rfl) (pd_callB (bd_max2 rfl) rfl T.n_max bt_max (pda_cons (pdv 3) (pda_cons (pdv 5) pda_nil))))) (psds_one (psd_setD (i := 3) nd rfl (by first | exact Or.inl rfl | exact Or.inr rfl) (pd_callB (bd_max2 rfl) rfl T.n_max bt_max (pda_cons (pdv 3) (pda_cons (pd_op od_sub (pdv 5) (pdv 1)) pda_nil))))))))
      (psds_one (psd_ret (pdv 3)))))
theorem ok_hosts_of (T : Tx K mg) (h : ∀ (args : List Sl) (Q : Sl → (Nat → Option Sl) → Prop), args.length = 1 → sp_hosts_of args Q → t_hosts_of { nx := fun env => Q (.d .none) (osOf env), rt := fun r env => Q r (osOf env) } (startE 3 args)) : FnG P w K mg base 1 T.f_hosts_of T.d_hosts_of p_hosts_of (spD K ([], []) 1 sp_hosts_of) := by
  refine fndG T.D_hosts_of sc_hosts_of rfl fun cdv A outer s H E hr hgd => ⟨t_hosts_of, ?_, h⟩
  have nd := sc_hosts_of.nd
  exact (psds_one (psd_ret (pd_callTy bd_tuple rfl T.n_tuple bt_tuple (pda_cons (pd_lcV [("host", 1), ("tick", 2)] rfl rfl nd (pdi_seq (pdv 0)) (blkOk_by (own := [("host", 1), ("tick", 2)]) (N := n_hosts_of) (sc := defScope s_hosts_of) (by decide +kernel)) (fun _ _ _ _ _ => (pdc_tup rfl (pdcs_cons (pdc_name (i := 1) (pg_name nd rfl (by first | exact Or.inl rfl | exact Or.inr rfl))) (pdcs_cons (pdc_name (i := 2) (pg_name nd rfl (by first | exact Or.inl rfl | exact Or.inr rfl))) pdcs_nil)))) (fun _ _ _ _ _ => pdts_nil) (fun _ _ _ _ _ => (pdv 1))) pda_nil))))
theorem ok_law_tape (T : Tx K mg) (h : ∀ (args : List Sl) (Q : Sl → (Nat → Option Sl) → Prop), args.length = 1 → sp_law_tape args Q → t_law_tape { nx := fun env => Q (.d .none) (osOf env), rt := fun r env => Q r (osOf env) } (startE 3 args)) : FnG P w K mg base 1 T.f_law_tape T.d_law_tape p_law_tape (spD K ([], []) 1 sp_law_tape) := by
  refine fndG T.D_law_tape sc_law_tape rfl fun cdv A outer s H E hr hgd => ⟨t_law_tape, ?_, h⟩
  have nd := sc_law_tape.nd
  exact (psds_cons (psd_setD (i := 1) nd rfl (by first | exact Or.inl rfl | exact Or.inr rfl) pd_int)
      (psds_cons (psd_for PassesOwn.never rfl (pdi_seq (pdv 0)) (pdg_name (i := 2) nd rfl (by first | exact Or.inl rfl | exact Or.inr rfl)) (psds_one (psd_setD (i := 1) nd rfl (by first | exact Or.inl rfl | exact Or.inr rfl) (pd_op od_mod (pd_callTy bd_int rfl T.n_int bt_int (pda_cons (pd_op od_add (pd_op od_mul (pdv 1) pd_int) (pd_callB bd_abs rfl T.n_abs bt_abs (pda_cons (pd_callTy bd_int rfl T.n_int bt_int (pda_cons (pdv 2) pda_nil)) pda_nil))) pda_nil)) pd_int))))
      (psds_one (psd_ret (pd_lst (pda_cons (pd_callTy bd_list rfl T.n_list bt_list (pda_cons (pdv 0) pda_nil)) (pda_cons pd_int (pda_cons pd_int (pda_cons (pdv 1) pda_nil)))))))))
theorem ok_law_draw (T : Tx K mg) (h : ∀ (args : List Sl) (Q : Sl → (Nat → Option Sl) → Prop), args.length = 2 → sp_law_draw args Q → t_law_draw { nx := fun env => Q (.d .none) (osOf env), rt := fun r env => Q r (osOf env) } (startE 4 args)) : FnG P w K mg base 1 T.f_law_draw T.d_law_draw p_law_draw (spD K ([0], []) 2 sp_law_draw) := by
  refine fndG T.D_law_draw sc_law_draw rfl fun cdv A outer s H E hr hgd => ⟨t_law_draw, ?_, h⟩
  have nd := sc_law_draw.nd
  exact (psds_cons (psd_if (pdt_cmp (od_eq (u64 hr)) (pd_ix (pdv 0) pd_int) pd_int) (psds_cons (psd_setD (i := 2) nd rfl (by first | exact Or.inl rfl | exact Or.inr rfl) (pd_ix (pdv 0) pd_int))
      (psds_cons (psd_setD (i := 3) nd rfl (by first | exact Or.inl rfl | exact Or.inr rfl) pd_int)
      (psds_cons (psd_if (pdt_cmp od_lt (pdv 2) (pd_callB bd_len rfl T.n_len bt_len (pda_cons (pd_ix (pdv 0) pd_int) pda_nil))) (psds_one (psd_setD (i := 3) nd rfl (by first | exact Or.inl rfl | exact Or.inr rfl) (pd_callB bd_abs rfl T.n_abs bt_abs (pda_cons (pd_callTy bd_int rfl T.n_int bt_int (pda_cons (pd_ix (pd_ix (pdv 0) pd_int) (pdv 2)) pda_nil)) pda_nil)))) (psds_cons (psd_setIx (pv 0) pd_int (pd_op od_mod (pd_callTy bd_int rfl T.n_int bt_int (pda_cons (pd_op od_add (pd_op od_add (pd_op od_mul (pd_ix (pdv 0) pd_int) pd_int) (pdv 2)) pd_int) pda_nil)) pd_int))
      (psds_one (psd_setD (i := 3) nd rfl (by first | exact Or.inl rfl | exact Or.inr rfl) (pd_ix (pdv 0) pd_int)))))
      (psds_cons (psd_setIx (pv 0) pd_int (pd_op od_add (pdv 2) pd_int))
      (psds_cons (psd_if (pdt_cmp od_lt (pdv 3) (pd_op od_pow pd_int pd_int)) (psds_cons (psd_setD (i := 3) nd rfl (by first | exact Or.inl rfl | exact Or.inr rfl) (pd_op od_mod (pd_callTy bd_int rfl T.n_int bt_int (pda_cons (pd_op od_add (pd_op od_add (pd_op od_mul (pdv 3) pd_int) (pd_op od_mul (pdv 2) pd_int)) pd_int) pda_nil)) pd_int))
      (psds_cons (psd_setD (i := 3) nd rfl (by first | exact Or.inl rfl | exact Or.inr rfl) (pd_op od_mod (pd_callTy bd_int rfl T.n_int bt_int (pda_cons (pd_op od_mul (pdv 3) pd_int) pda_nil)) pd_int))
      (psds_one (psd_ret (pd_op od_mod (pd_callTy bd_int rfl T.n_int bt_int (pda_cons (pdv 3) pda_nil)) (pd_callB (bd_max2 rfl) rfl T.n_max bt_max (pda_cons (pdv 1) (pda_cons pd_int pda_nil)))))))) psds_nil)
      (psds_one (psd_setIx (pv 0) pd_int (pdv 3)))))))) psds_nil)
      (psds_cons (psd_setD (i := 3) nd rfl (by first | exact Or.inl rfl | exact Or.inr rfl) (pd_ix (pdv 0) pd_int))
      (psds_cons (psd_setIx (pv 0) pd_int (pd_op od_div (pdv 3) (pd_callB (bd_max2 rfl) rfl T.n_max bt_max (pda_cons (pdv 1) (pda_cons pd_int pda_nil)))))
      (psds_one (psd_ret (pd_op od_mod (pd_callTy bd_int rfl T.n_int bt_int (pda_cons (pdv 3) pda_nil)) (pd_callB (bd_max2 rfl) rfl T.n_max bt_max (pda_cons (pdv 1) (pda_cons pd_int pda_nil)))))))))
theorem ok_law_k_alike (T : Tx K mg) (h : ∀ (args : List Sl) (Q : Sl → (Nat → Option Sl) → Prop), args.length = 2 → sp_law_k_alike args Q → t_law_k_alike { nx := fun env => Q (.d .none) (osOf env), rt := fun r env => Q r (osOf env) } (startE 2 args)) : FnG P w K mg base 1 T.f_law_k_alike T.d_law_k_alike p_law_k_alike (spD K ([], []) 2 sp_law_k_alike) := by
  refine fndG T.D_law_k_alike sc_law_k_alike rfl fun cdv A outer s H E hr hgd => ⟨t_law_k_alike, ?_, h⟩
  have nd := sc_law_k_alike.nd
  exact (psds_one (psd_ret (pd_and (pd_cmp (od_eqS (u64 hr)) (pdv 0) (pdv 1)) (pd_one (pd_cmp (od_eqS (u64 hr)) (pd_callB (bd_repr (u66 hr) hgd) rfl T.n_repr bt_repr (pda_cons (pdv 0) pda_nil)) (pd_callB (bd_repr (u66 hr) hgd) rfl T.n_repr bt_repr (pda_cons (pdv 1) pda_nil)))))))
theorem ok_law_exceeds (T : Tx K mg) (h : ∀ (args : List Sl) (Q : Sl → (Nat → Option Sl) → Prop), args.length = 1 → sp_law_exceeds args Q → t_law_exceeds { nx := fun env => Q (.d .none) (osOf env), rt := fun r env => Q r (osOf env) } (startE 4 args)) : FnG P w K mg base 1 T.f_law_exceeds T.d_law_exceeds p_law_exceeds (spD K ([], []) 1 sp_law_exceeds) := by
  refine fndG T.D_law_exceeds sc_law_exceeds rfl fun cdv A outer s H E hr hgd => ⟨t_law_exceeds, ?_, h⟩
  have nd := sc_law_exceeds.nd
  exact (psds_cons (psd_setD (i := 1) nd rfl (by first | exact Or.inl rfl | exact Or.inr rfl) pd_int)
      (psds_cons (psd_for PassesOwn.never rfl (pdi_rng1 rfl T.n_range (pda_cons (pd_callB bd_len rfl T.n_len bt_len (pda_cons (pdv 0) pda_nil)) pda_nil)) (pdg_name (i := 2) nd rfl (by first | exact Or.inl rfl | exact Or.inr rfl)) (psds_one (psd_for PassesOwn.never rfl (pdi_rng1 rfl T.n_range (pda_cons (pdv 2) pda_nil)) (pdg_name (i := 3) nd rfl (by first | exact Or.inl rfl | exact Or.inr rfl)) (psds_one (psd_setD (i := 1) nd rfl (by first | exact Or.inl rfl | exact Or.inr rfl) (pd_callB (bd_max2 rfl) rfl T.n_max bt_max (pda_cons (pdv 1) (pda_cons (pd_op od_sub (pd_ix (pd_ix (pdv 0) (pdv 3)) pd_int) (pd_ix (pd_ix (pdv 0) (pdv 2)) pd_int)) pda_nil))))))))
      (psds_one (psd_ret (pdv 1)))))
theorem ok_law_goes_back (T : Tx K mg) (h : ∀ (args : List Sl) (Q : Sl → (Nat → Option Sl) → Prop), args.length = 1 → sp_law_goes_back args Q → t_law_goes_back { nx := fun env => Q (.d .none) (osOf env), rt := fun r env => Q r (osOf env) } (startE 3 args)) : FnG P w K mg base 1 T.f_law_goes_back T.d_law_goes_back p_law_goes_back (spD K ([], []) 1 sp_law_goes_back) := by
  refine fndG T.D_law_goes_back sc_law_goes_back rfl fun cdv A outer s H E hr hgd => ⟨t_law_goes_back, ?_, h⟩
  have nd := sc_law_goes_back.nd
  exact (psds_cons (psd_for PassesOwn.never rfl (pdi_rng1 rfl T.n_range (pda_cons (pd_callB bd_len rfl T.n_len bt_len (pda_cons (pdv 0) pda_nil)) pda_nil)) (pdg_name (i := 1) nd rfl (by first | exact Or.inl rfl | exact Or.inr rfl)) (psds_one (psd_if (pdt_cmp (od_in (u65 hr)) pd_bl (pd_lcV [("i", 2)] rfl rfl nd (pdi_rng1 rfl T.n_range (pda_cons (pdv 1) pda_nil)) (blkOk_by (own := [("i", 2)]) (N := n_law_goes_back) (sc := defScope s_law_goes_back) (by decide +kernel)) (fun _ _ _ _ _ => (pdc_name (i := 2) (pg_name nd rfl (by first | exact Or.inl rfl | exact Or.inr rfl)))) (fun _ _ _ _ _ => pdts_nil) (fun _ _ _ _ _ => (pd_and (pd_cmp (od_eq (u64 hr)) (pd_ix (pd_ix (pdv 0) (pdv 2)) pd_int) (pd_ix (pd_ix (pdv 0) (pdv 1)) pd_int)) (pd_one (pd_cmp od_gt (pd_ix (pd_ix (pdv 0) (pdv 2)) pd_int) (pd_ix (pd_ix (pdv 0) (pdv 1)) pd_int))))))) (psds_one (psd_ret pd_bl)) psds_nil)))
      (psds_one (psd_ret pd_bl)))
theorem ok_law_kept (T : Tx K mg) (h : ∀ (args : List Sl) (Q : Sl → (Nat → Option Sl) → Prop), args.length = 2 → sp_law_kept args Q → t_law_kept { nx := fun env => Q (.d .none) (osOf env), rt := fun r env => Q r (osOf env) } (startE 5 args)) : FnG P w K mg base 1 T.f_law_kept T.d_law_kept p_law_kept (spD K ([], []) 2 sp_law_kept) := by
  refine fndG T.D_law_kept sc_law_kept rfl fun cdv A outer s H E hr hgd => ⟨t_law_kept, ?_, h⟩
  have nd := sc_law_kept.nd
  exact (psds_cons (psd_for PassesOwn.never rfl (pdi_rng1 rfl T.n_range (pda_cons (pd_callB bd_len rfl T.n_len bt_len (pda_cons (pdv 0) pda_nil)) pda_nil)) (pdg_name (i := 2) nd rfl (by first | exact Or.inl rfl | exact Or.inr rfl)) (psds_one (psd_for PassesOwn.never rfl (pdi_rng1 rfl T.n_range (pda_cons (pdv 2) pda_nil)) (pdg_name (i := 3) nd rfl (by first | exact Or.inl rfl | exact Or.inr rfl)) (psds_cons (psd_setD (i := 4) nd rfl (by first | exact Or.inl rfl | exact Or.inr rfl) (pd_op od_sub (pd_ix (pd_ix (pdv 0) (pdv 3)) pd_int) (pd_ifExp (pdt_cmp (od_eq (u64 hr)) (pd_ix (pd_ix (pdv 0) (pdv 3)) pd_int) (pd_ix (pd_ix (pdv 0) (pdv 2)) pd_int)) pd_int (pdv 1))))
      (psds_one (psd_if (pdt_cmp od_lt (pd_ix (pd_ix (pdv 0) (pdv 2)) pd_int) (pdv 4)) (psds_one (psd_ret pd_bl)) psds_nil))))))
      (psds_one (psd_ret pd_bl)))
theorem ok_law_hosts (T : Tx K mg) (h : ∀ (args : List Sl) (Q : Sl → (Nat → Option Sl) → Prop), args.length = 1 → sp_law_hosts args Q → t_law_hosts { nx := fun env => Q (.d .none) (osOf env), rt := fun r env => Q r (osOf env) } (startE 2 args)) : FnG P w K mg base 1 T.f_law_hosts T.d_law_hosts p_law_hosts (spD K ([], []) 1 sp_law_hosts) := by
  refine fndG T.D_law_hosts sc_law_hosts rfl fun cdv A outer s H E hr hgd => ⟨t_law_hosts, ?_, h⟩
  have nd := sc_law_hosts.nd
  exact (psds_one (psd_ret (pd_lcV [("event", 1)] rfl rfl nd (pdi_seq (pdv 0)) (blkOk_by (own := [("event", 1)]) (N := n_law_hosts) (sc := defScope s_law_hosts) (by decide +kernel)) (fun _ _ _ _ _ => (pdc_name (i := 1) (pg_name nd rfl (by first | exact Or.inl rfl | exact Or.inr rfl)))) (fun _ _ _ _ _ => pdts_nil) (fun _ _ _ _ _ => (pd_ix (pdv 1) pd_int)))))
theorem ok_law_crossing_of (T : Tx K mg) (h : ∀ (args : List Sl) (Q : Sl → (Nat → Option Sl) → Prop), args.length = 3 → sp_law_crossing_of args Q → t_law_crossing_of { nx := fun env => Q (.d .none) (osOf env), rt := fun r env => Q r (osOf env) } (startE 3 args)) : FnG P w K mg base 1 T.f_law_crossing_of T.d_law_crossing_of p_law_crossing_of (spD K ([], []) 3 sp_law_crossing_of) := by
  refine fndG T.D_law_crossing_of sc_law_crossing_of rfl fun cdv A outer s H E hr hgd => ⟨t_law_crossing_of, ?_, h⟩
  have nd := sc_law_crossing_of.nd
  exact (psds_cons (psd_if (pdt_cmp od_ge (pdv 2) (pd_op od_add (pdv 0) (pd_op od_mul pd_int (pdv 1)))) (psds_one (psd_ret pd_non)) psds_nil)
      (psds_one (psd_ret (pd_tup (pda_cons (pd_tup (pda_cons pd_str (pda_cons (pdv 1) pda_nil))) (pda_cons (pd_tup (pda_cons pd_str (pda_cons pd_int pda_nil))) (pda_cons (pd_tup (pda_cons pd_str (pda_cons (pd_op od_add (pdv 2) pd_int) pda_nil))) (pda_cons (pd_tup (pda_cons pd_str (pda_cons (pd_callB (bd_max2 rfl) rfl T.n_max bt_max (pda_cons pd_int (pda_cons (pd_op od_sub (pd_op od_add (pdv 2) pd_int) (pdv 1)) pda_nil))) pda_nil))) (pda_cons (pd_tup (pda_cons pd_str (pda_cons (pd_callB (bd_max2 rfl) rfl T.n_max bt_max (pda_cons (pdv 1) (pda_cons (pd_op od_sub (pd_op od_add (pdv 2) pd_int) (pdv 1)) pda_nil))) pda_nil))) pda_nil)))))))))
theorem ok_law_lingering_of (T : Tx K mg) (h : ∀ (args : List Sl) (Q : Sl → (Nat → Option Sl) → Prop), args.length = 3 → sp_law_lingering_of args Q → t_law_lingering_of { nx := fun env => Q (.d .none) (osOf env), rt := fun r env => Q r (osOf env) } (startE 3 args)) : FnG P w K mg base 1 T.f_law_lingering_of T.d_law_lingering_of p_law_lingering_of (spD K ([], []) 3 sp_law_lingering_of) := by
  refine fndG T.D_law_lingering_of sc_law_lingering_of rfl fun cdv A outer s H E hr hgd => ⟨t_law_lingering_of, ?_, h⟩
  have nd := sc_law_lingering_of.nd
  exact (psds_cons (psd_if (pdt_cmp od_gt (pdv 2) (pd_op od_add (pdv 0) (pd_op od_mul pd_int (pdv 1)))) (psds_one (psd_ret pd_non)) psds_nil)
      (psds_one (psd_ret (pd_tup (pda_cons (pd_tup (pda_cons pd_str (pda_cons (pdv 1) pda_nil))) (pda_cons (pd_tup (pda_cons pd_str (pda_cons pd_int pda_nil))) (pda_cons (pd_tup (pda_cons pd_str (pda_cons (pdv 2) pda_nil))) (pda_cons (pd_tup (pda_cons pd_str (pda_cons (pd_callB (bd_max2 rfl) rfl T.n_max bt_max (pda_cons (pdv 1) (pda_cons (pd_op od_sub (pdv 2) (pdv 1)) pda_nil))) pda_nil))) pda_nil))))))))
theorem ok_keeps (T : Tx K mg) (G_stray : FnG P w K mg base 1 T.f_stray T.d_stray p_stray (spD K ([], []) 1 sp_stray)) (G_goes_back : FnG P w K mg base 1 T.f_goes_back T.d_goes_back p_goes_back (spD K ([], []) 1 sp_goes_back)) (h : ∀ (args : List Sl) (Q : Sl → (Nat → Option Sl) → Prop), args.length = 2 → sp_keeps args Q → t_keeps { nx := fun env => Q (.d .none) (osOf env), rt := fun r env => Q r (osOf env) } (startE 2 args)) : FnG P w K mg base 2 T.f_keeps T.d_keeps p_keeps (spD K ([], []) 2 sp_keeps) := by
  refine fndG T.D_keeps sc_keeps rfl fun cdv A outer s H E hr hgd => ⟨t_keeps, ?_, h⟩
  have nd := sc_keeps.nd
  exact (psds_one (psd_ret (pd_and (pd_not (pd_callG G_goes_back ⟨hr.mono (by decide), hgd⟩ (by rfl) T.g_goes_back T.D_goes_back.kp T.b_goes_back (pda_cons (pdv 0) pda_nil))) (pd_one (pd_cmp od_le (pd_callG G_stray ⟨hr.mono (by decide), hgd⟩ (by rfl) T.g_stray T.D_stray.kp T.b_stray (pda_cons (pdv 0) pda_nil)) (pdv 1))))))
theorem ok_told_next (T : Tx K mg) (G_least_tick : FnG P w K mg base 1 T.f_least_tick T.d_least_tick p_least_tick (spD K ([], []) 3 sp_least_tick)) (h : ∀ (args : List Sl) (Q : Sl → (Nat → Option Sl) → Prop), args.length = 3 → sp_told_next args Q → t_told_next { nx := fun env => Q (.d .none) (osOf env), rt := fun r env => Q r (osOf env) } (startE 3 args)) : FnG P w K mg base 2 T.f_told_next T.d_told_next p_told_next (spD K ([], []) 3 sp_told_next) := by
  refine fndG T.D_told_next sc_told_next rfl fun cdv A outer s H E hr hgd => ⟨t_told_next, ?_, h⟩
  have nd := sc_told_next.nd
  exact (psds_one (psd_ret (pd_op od_add (pdv 0) (pd_tup (pda_cons (pd_tup (pda_cons (pdv 2) (pda_cons (pd_callG G_least_tick ⟨hr.mono (by decide), hgd⟩ (by rfl) T.g_least_tick T.D_least_tick.kp T.b_least_tick (pda_cons (pdv 0) (pda_cons (pdv 1) (pda_cons (pdv 2) pda_nil)))) pda_nil))) pda_nil)))))
theorem ok_law_pick (T : Tx K mg) (G_law_draw : FnG P w K mg base 1 T.f_law_draw T.d_law_draw p_law_draw (spD K ([0], []) 2 sp_law_draw)) (h : ∀ (args : List Sl) (Q : Sl → (Nat → Option Sl) → Prop), args.length = 2 → sp_law_pick args Q → t_law_pick { nx := fun env => Q (.d .none) (osOf env), rt := fun r env => Q r (osOf env) } (startE 2 args)) : FnG P w K mg base 2 T.f_law_pick T.d_law_pick p_law_pick (spD K ([0], []) 2 sp_law_pick) := by
  refine fndG T.D_law_pick sc_law_pick rfl fun cdv A outer s H E hr hgd => ⟨t_law_pick, ?_, h⟩
  have nd := sc_law_pick.nd
  exact (psds_one (psd_ret (pd_ix (pdv 1) (pd_callG G_law_draw ⟨hr.mono (by decide), hgd⟩ (by rfl) T.g_law_draw T.D_law_draw.kp T.b_law_draw (pda_cons (pdv 0) (pda_cons (pd_callB bd_len rfl T.n_len bt_len (pda_cons (pdv 1) pda_nil)) pda_nil))))))
theorem ok_law_turns (T : Tx K mg) (G_law_draw : FnG P w K mg base 1 T.f_law_draw T.d_law_draw p_law_draw (spD K ([0], []) 2 sp_law_draw)) (h : ∀ (args : List Sl) (Q : Sl → (Nat → Option Sl) → Prop), args.length = 2 → sp_law_turns args Q → t_law_turns { nx := fun env => Q (.d .none) (osOf env), rt := fun r env => Q r (osOf env) } (startE 5 args)) : FnG P w K mg base 2 T.f_law_turns T.d_law_turns p_law_turns (spD K ([0], []) 2 sp_law_turns) := by
  refine fndG T.D_law_turns sc_law_turns rfl fun cdv A outer s H E hr hgd => ⟨t_law_turns, ?_, h⟩
  have nd := sc_law_turns.nd
  exact (psds_cons (psd_set (i := 2) nd rfl (by first | exact Or.inl rfl | exact Or.inr rfl) (pd_listRg rfl rfl T.n_list rfl T.n_range (pdv 1)))
      (psds_cons (psd_set (i := 3) nd rfl (by first | exact Or.inl rfl | exact Or.inr rfl) (pd_lst pda_nil))
      (psds_cons (psd_for PassesOwn.never rfl (pdi_rng1 rfl T.n_range (pda_cons (pdv 1) pda_nil)) (pdg_name (i := 4) nd rfl (by first | exact Or.inl rfl | exact Or.inr rfl)) (psds_one (psd_expr (pd_m PySem.F.plainAttrs_list PySem.F.slot_list_append PySem.F.type_list_append md_append (pv 3) (pda_cons (pd_m PySem.F.plainAttrs_list PySem.F.slot_list_pop PySem.F.type_list_pop md_popAt (pv 2) (pda_cons (pd_callG G_law_draw ⟨hr.mono (by decide), hgd⟩ (by rfl) T.g_law_draw T.D_law_draw.kp T.b_law_draw (pda_cons (pdv 0) (pda_cons (pd_callB bd_len rfl T.n_len bt_len (pda_cons (pdv 2) pda_nil)) pda_nil))) pda_nil)) pda_nil)))))
      (psds_one (psd_ret (pd_slice (pdv 3) pdo_none (pdo_some (pd_ix (pd_lst (pda_cons (pdv 1) (pda_cons (pdv 1) (pda_cons pd_int pda_nil)))) (pd_callG G_law_draw ⟨hr.mono (by decide), hgd⟩ (by rfl) T.g_law_draw T.D_law_draw.kp T.b_law_draw (pda_cons (pdv 0) (pda_cons pd_int pda_nil)))))))))))
theorem ok_law_shuffled (T : Tx K mg) (G_law_draw : FnG P w K mg base 1 T.f_law_draw T.d_law_draw p_law_draw (spD K ([0], []) 2 sp_law_draw)) (h : ∀ (args : List Sl) (Q : Sl → (Nat → Option Sl) → Prop), args.length = 2 → sp_law_shuffled args Q → t_law_shuffled { nx := fun env => Q (.d .none) (osOf env), rt := fun r env => Q r (osOf env) } (startE 5 args)) : FnG P w K mg base 2 T.f_law_shuffled T.d_law_shuffled p_law_shuffled (spD K ([0], []) 2 sp_law_shuffled) := by
  refine fndG T.D_law_shuffled sc_law_shuffled rfl fun cdv A outer s H E hr hgd => ⟨t_law_shuffled, ?_, h⟩
  have nd := sc_law_shuffled.nd
  exact (psds_cons (psd_set (i := 2) nd rfl (by first | exact Or.inl rfl | exact Or.inr rfl) (pd_callTy bd_list rfl T.n_list bt_list (pda_cons (pdv 1) pda_nil)))
      (psds_cons (psd_set (i := 3) nd rfl (by first | exact Or.inl rfl | exact Or.inr rfl) (pd_lst pda_nil))
      (psds_cons (psd_for PassesOwn.never rfl (pdi_rng1 rfl T.n_range (pda_cons (pd_callB bd_len rfl T.n_len bt_len (pda_cons (pdv 1) pda_nil)) pda_nil)) (pdg_name (i := 4) nd rfl (by first | exact Or.inl rfl | exact Or.inr rfl)) (psds_one (psd_expr (pd_m PySem.F.plainAttrs_list PySem.F.slot_list_append PySem.F.type_list_append md_append (pv 3) (pda_cons (pd_m PySem.F.plainAttrs_list PySem.F.slot_list_pop PySem.F.type_list_pop md_popAt (pv 2) (pda_cons (pd_callG G_law_draw ⟨hr.mono (by decide), hgd⟩ (by rfl) T.g_law_draw T.D_law_draw.kp T.b_law_draw (pda_cons (pdv 0) (pda_cons (pd_callB bd_len rfl T.n_len bt_len (pda_cons (pdv 2) pda_nil)) pda_nil))) pda_nil)) pda_nil)))))
      (psds_one (psd_ret (pdv 3))))))
theorem ok_law_crosses (T : Tx K mg) (G_law_kept : FnG P w K mg base 1 T.f_law_kept T.d_law_kept p_law_kept (spD K ([], []) 2 sp_law_kept)) (G_law_hosts : FnG P w K mg base 1 T.f_law_hosts T.d_law_hosts p_law_hosts (spD K ([], []) 1 sp_law_hosts)) (h : ∀ (args : List Sl) (Q : Sl → (Nat → Option Sl) → Prop), args.length = 4 → sp_law_crosses args Q → t_law_crosses { nx := fun env => Q (.d .none) (osOf env), rt := fun r env => Q r (osOf env) } (startE 4 args)) : FnG P w K mg base 2 T.f_law_crosses T.d_law_crosses p_law_crosses (spD K ([], []) 4 sp_law_crosses) := by
  refine fndG T.D_law_crosses sc_law_crosses rfl fun cdv A outer s H E hr hgd => ⟨t_law_crosses, ?_, h⟩
  have nd := sc_law_crosses.nd
  exact (psds_cons (psd_if (PDW.pt (pdw_or (pdt_cmp (od_ne (u64 hr)) (pd_callG G_law_hosts ⟨hr.mono (by decide), hgd⟩ (by rfl) T.g_law_hosts T.D_law_hosts.kp T.b_law_hosts (pda_cons (pdv 3) pda_nil)) (pd_lst (pda_cons pd_str (pda_cons pd_str (pda_cons pd_str (pda_cons pd_str (pda_cons pd_str pda_nil))))))) (pdw_or1 (pdt_not (pdt_val (pd_callG G_law_kept ⟨hr.mono (by decide), hgd⟩ (by rfl) T.g_law_kept T.D_law_kept.kp T.b_law_kept (pda_cons (pdv 3) (pda_cons (pdv 1) pda_nil)))))))) (psds_one (psd_ret pd_bl)) psds_nil)
      (psds_one (psd_ret (pd_and (pd_cmp od_gt (pd_ix (pd_ix (pdv 3) pd_int) pd_int) (pd_op od_add (pd_ix (pd_ix (pdv 3) pd_int) pd_int) (pdv 2))) (pd_one (pd_cmp od_le (pd_ix (pd_ix (pdv 3) pd_int) pd_int) (pd_op od_add (pd_ix (pd_ix (pdv 3) pd_int) pd_int) (pdv 0))))))))
theorem ok_law_lingers (T : Tx K mg) (G_law_kept : FnG P w K mg base 1 T.f_law_kept T.d_law_kept p_law_kept (spD K ([], []) 2 sp_law_kept)) (G_law_hosts : FnG P w K mg base 1 T.f_law_hosts T.d_law_hosts p_law_hosts (spD K ([], []) 1 sp_law_hosts)) (h : ∀ (args : List Sl) (Q : Sl → (Nat → Option Sl) → Prop), args.length = 4 → sp_law_lingers args Q → t_law_lingers { nx := fun env => Q (.d .none) (osOf env), rt := fun r env => Q r (osOf env) } (startE 4 args)) : FnG P w K mg base 2 T.f_law_lingers T.d_law_lingers p_law_lingers (spD K ([], []) 4 sp_law_lingers) := by
  refine fndG T.D_law_lingers sc_law_lingers rfl fun cdv A outer s H E hr hgd => ⟨t_law_lingers, ?_, h⟩
  have nd := sc_law_lingers.nd
  exact (psds_cons (psd_if (PDW.pt (pdw_or (pdt_cmp (od_ne (u64 hr)) (pd_callG G_law_hosts ⟨hr.mono (by decide), hgd⟩ (by rfl) T.g_law_hosts T.D_law_hosts.kp T.b_law_hosts (pda_cons (pdv 3) pda_nil)) (pd_lst (pda_cons pd_str (pda_cons pd_str (pda_cons pd_str (pda_cons pd_str pda_nil)))))) (pdw_or1 (pdt_not (pdt_val (pd_callG G_law_kept ⟨hr.mono (by decide), hgd⟩ (by rfl) T.g_law_kept T.D_law_kept.kp T.b_law_kept (pda_cons (pdv 3) (pda_cons (pdv 1) pda_nil)))))))) (psds_one (psd_ret pd_bl)) psds_nil)
      (psds_one (psd_ret (pd_and (pd_cmp od_ge (pd_ix (pd_ix (pdv 3) pd_int) pd_int) (pd_op od_add (pd_ix (pd_ix (pdv 3) pd_int) pd_int) (pdv 2))) (pd_one (pd_cmp od_le (pd_ix (pd_ix (pdv 3) pd_int) pd_int) (pd_op od_add (pd_ix (pd_ix (pdv 3) pd_int) pd_int) (pdv 0))))))))
theorem ok_crossing (T : Tx K mg) (G_told_next : FnG P w K mg base 2 T.f_told_next T.d_told_next p_told_next (spD K ([], []) 3 sp_told_next)) (h : ∀ (args : List Sl) (Q : Sl → (Nat → Option Sl) → Prop), args.length = 3 → sp_crossing args Q → t_crossing { nx := fun env => Q (.d .none) (osOf env), rt := fun r env => Q r (osOf env) } (startE 4 args)) : FnG P w K mg base 3 T.f_crossing T.d_crossing p_crossing (spD K ([], []) 3 sp_crossing) := by
  refine fndG T.D_crossing sc_crossing rfl fun cdv A outer s H E hr hgd => ⟨t_crossing, ?_, h⟩
  have nd := sc_crossing.nd
  exact (psds_cons (psd_if (pdt_cmp od_ge (pdv 2) (pd_op od_add (pdv 0) (pd_op od_mul pd_int (pdv 1)))) (psds_one (psd_ret pd_non)) psds_nil)
      (psds_cons (psd_setD (i := 3) nd rfl (by first | exact Or.inl rfl | exact Or.inr rfl) (pd_tup (pda_cons (pd_tup (pda_cons pd_str (pda_cons (pdv 1) pda_nil))) (pda_cons (pd_tup (pda_cons pd_str (pda_cons pd_int pda_nil))) (pda_cons (pd_tup (pda_cons pd_str (pda_cons (pd_op od_add (pdv 2) pd_int) pda_nil))) pda_nil)))))
      (psds_one (psd_ret (pd_callG G_told_next ⟨hr.mono (by decide), hgd⟩ (by rfl) T.g_told_next T.D_told_next.kp T.b_told_next (pda_cons (pd_callG G_told_next ⟨hr.mono (by decide), hgd⟩ (by rfl) T.g_told_next T.D_told_next.kp T.b_told_next (pda_cons (pdv 3) (pda_cons (pdv 1) (pda_cons pd_str pda_nil)))) (pda_cons (pdv 1) (pda_cons pd_str pda_nil))))))))
theorem ok_is_crossing (T : Tx K mg) (G_keeps : FnG P w K mg base 2 T.f_keeps T.d_keeps p_keeps (spD K ([], []) 2 sp_keeps)) (G_hosts_of : FnG P w K mg base 1 T.f_hosts_of T.d_hosts_of p_hosts_of (spD K ([], []) 1 sp_hosts_of)) (h : ∀ (args : List Sl) (Q : Sl → (Nat → Option Sl) → Prop), args.length = 4 → sp_is_crossing args Q → t_is_crossing { nx := fun env => Q (.d .none) (osOf env), rt := fun r env => Q r (osOf env) } (startE 11 args)) : FnG P w K mg base 3 T.f_is_crossing T.d_is_crossing p_is_crossing (spD K ([], []) 4 sp_is_crossing) := by
  refine fndG T.D_is_crossing sc_is_crossing rfl fun cdv A outer s H E hr hgd => ⟨t_is_crossing, ?_, h⟩
  have nd := sc_is_crossing.nd
  exact (psds_cons (psd_if (PDW.pt (pdw_or (pdt_cmp (od_ne (u64 hr)) (pd_callG G_hosts_of ⟨hr.mono (by decide), hgd⟩ (by rfl) T.g_hosts_of T.D_hosts_of.kp T.b_hosts_of (pda_cons (pdv 3) pda_nil)) (pd_tup (pda_cons pd_str (pda_cons pd_str (pda_cons pd_str (pda_cons pd_str (pda_cons pd_str pda_nil))))))) (pdw_or1 (pdt_not (pdt_val (pd_callG G_keeps ⟨hr.mono (by decide), hgd⟩ (by rfl) T.g_keeps T.D_keeps.kp T.b_keeps (pda_cons (pdv 3) (pda_cons (pdv 1) pda_nil)))))))) (psds_one (psd_ret pd_bl)) psds_nil)
      (psds_cons (psd_asg (pd_lcV [("host", 9), ("tick", 10)] rfl rfl nd (pdi_seq (pdv 3)) (blkOk_by (own := [("host", 9), ("tick", 10)]) (N := n_is_crossing) (sc := defScope s_is_crossing) (by decide +kernel)) (fun _ _ _ _ _ => (pdc_tup rfl (pdcs_cons (pdc_name (i := 9) (pg_name nd rfl (by first | exact Or.inl rfl | exact Or.inr rfl))) (pdcs_cons (pdc_name (i := 10) (pg_name nd rfl (by first | exact Or.inl rfl | exact Or.inr rfl))) pdcs_nil)))) (fun _ _ _ _ _ => pdts_nil) (fun _ _ _ _ _ => (pdv 10))) (pdg_lst rfl (pdgs_cons (pdg_name (i := 4) nd rfl (by first | exact Or.inl rfl | exact Or.inr rfl)) (pdgs_cons (pdg_name (i := 5) nd rfl (by first | exact Or.inl rfl | exact Or.inr rfl)) (pdgs_cons (pdg_name (i := 6) nd rfl (by first | exact Or.inl rfl | exact Or.inr rfl)) (pdgs_cons (pdg_name (i := 7) nd rfl (by first | exact Or.inl rfl | exact Or.inr rfl)) (pdgs_cons (pdg_name (i := 8) nd rfl (by first | exact Or.inl rfl | exact Or.inr rfl)) pdgs_nil)))))))
      (psds_one (psd_ret (pd_and (pd_cmp od_gt (pdv 6) (pd_op od_add (pdv 5) (pdv 2))) (pd_one (pd_cmp od_le (pdv 8) (pd_op od_add (pdv 4) (pdv 0)))))))))
theorem ok_lingering (T : Tx K mg) (G_told_next : FnG P w K mg base 2 T.f_told_next T.d_told_next p_told_next (spD K ([], []) 3 sp_told_next)) (h : ∀ (args : List Sl) (Q : Sl → (Nat → Option Sl) → Prop), args.length = 3 → sp_lingering args Q → t_lingering { nx := fun env => Q (.d .none) (osOf env), rt := fun r env => Q r (osOf env) } (startE 3 args)) : FnG P w K mg base 3 T.f_lingering T.d_lingering p_lingering (spD K ([], []) 3 sp_lingering) := by
  refine fndG T.D_lingering sc_lingering rfl fun cdv A outer s H E hr hgd => ⟨t_lingering, ?_, h⟩
  have nd := sc_lingering.nd
  exact (psds_cons (psd_if (pdt_cmp od_gt (pdv 2) (pd_op od_add (pdv 0) (pd_op od_mul pd_int (pdv 1)))) (psds_one (psd_ret pd_non)) psds_nil)
      (psds_one (psd_ret (pd_callG G_told_next ⟨hr.mono (by decide), hgd⟩ (by rfl) T.g_told_next T.D_told_next.kp T.b_told_next (pda_cons (pd_tup (pda_cons (pd_tup (pda_cons pd_str (pda_cons (pdv 1) pda_nil))) (pda_cons (pd_tup (pda_cons pd_str (pda_cons pd_int pda_nil))) (pda_cons (pd_tup (pda_cons pd_str (pda_cons (pdv 2) pda_nil))) pda_nil)))) (pda_cons (pdv 1) (pda_cons pd_str pda_nil)))))))
theorem ok_is_lingering (T : Tx K mg) (G_keeps : FnG P w K mg base 2 T.f_keeps T.d_keeps p_keeps (spD K ([], []) 2 sp_keeps)) (G_hosts_of : FnG P w K mg base 1 T.f_hosts_of T.d_hosts_of p_hosts_of (spD K ([], []) 1 sp_hosts_of)) (h : ∀ (args : List Sl) (Q : Sl → (Nat → Option Sl) → Prop), args.length = 4 → sp_is_lingering args Q → t_is_lingering { nx := fun env => Q (.d .none) (osOf env), rt := fun r env => Q r (osOf env) } (startE 10 args)) : FnG P w K mg base 3 T.f_is_lingering T.d_is_lingering p_is_lingering (spD K ([], []) 4 sp_is_lingering) := by
  refine fndG T.D_is_lingering sc_is_lingering rfl fun cdv A outer s H E hr hgd => ⟨t_is_lingering, ?_, h⟩
  have nd := sc_is_lingering.nd
  exact (psds_cons (psd_if (PDW.pt (pdw_or (pdt_cmp (od_ne (u64 hr)) (pd_callG G_hosts_of ⟨hr.mono (by decide), hgd⟩ (by rfl) T.g_hosts_of T.D_hosts_of.kp T.b_hosts_of (pda_cons (pdv 3) pda_nil)) (pd_tup (pda_cons pd_str (pda_cons pd_str (pda_cons pd_str (pda_cons pd_str pda_nil)))))) (pdw_or1 (pdt_not (pdt_val (pd_callG G_keeps ⟨hr.mono (by decide), hgd⟩ (by rfl) T.g_keeps T.D_keeps.kp T.b_keeps (pda_cons (pdv 3) (pda_cons (pdv 1) pda_nil)))))))) (psds_one (psd_ret pd_bl)) psds_nil)
      (psds_cons (psd_asg (pd_lcV [("host", 8), ("tick", 9)] rfl rfl nd (pdi_seq (pdv 3)) (blkOk_by (own := [("host", 8), ("tick", 9)]) (N := n_is_lingering) (sc := defScope s_is_lingering) (by decide +kernel)) (fun _ _ _ _ _ => (pdc_tup rfl (pdcs_cons (pdc_name (i := 8) (pg_name nd rfl (by first | exact Or.inl rfl | exact Or.inr rfl))) (pdcs_cons (pdc_name (i := 9) (pg_name nd rfl (by first | exact Or.inl rfl | exact Or.inr rfl))) pdcs_nil)))) (fun _ _ _ _ _ => pdts_nil) (fun _ _ _ _ _ => (pdv 9))) (pdg_lst rfl (pdgs_cons (pdg_name (i := 4) nd rfl (by first | exact Or.inl rfl | exact Or.inr rfl)) (pdgs_cons (pdg_name (i := 5) nd rfl (by first | exact Or.inl rfl | exact Or.inr rfl)) (pdgs_cons (pdg_name (i := 6) nd rfl (by first | exact Or.inl rfl | exact Or.inr rfl)) (pdgs_cons (pdg_name (i := 7) nd rfl (by first | exact Or.inl rfl | exact Or.inr rfl)) pdgs_nil))))))
      (psds_one (psd_ret (pd_and (pd_cmp od_ge (pdv 6) (pd_op od_add (pdv 5) (pdv 2))) (pd_one (pd_cmp od_le (pdv 7) (pd_op od_add (pdv 4) (pdv 0)))))))))
theorem ok_law_names (T : Tx K mg) (G_law_draw : FnG P w K mg base 1 T.f_law_draw T.d_law_draw p_law_draw (spD K ([0], []) 2 sp_law_draw)) (G_law_pick : FnG P w K mg base 2 T.f_law_pick T.d_law_pick p_law_pick (spD K ([0], []) 2 sp_law_pick)) (h : ∀ (args : List Sl) (Q : Sl → (Nat → Option Sl) → Prop), args.length = 1 → sp_law_names args Q → t_law_names { nx := fun env => Q (.d .none) (osOf env), rt := fun r env => Q r (osOf env) } (startE 5 args)) : FnG P w K mg base 3 T.f_law_names T.d_law_names p_law_names (spD K ([0], []) 1 sp_law_names) := by
  refine fndG T.D_law_names sc_law_names rfl fun cdv A outer s H E hr hgd => ⟨t_law_names, ?_, h⟩
  have nd := sc_law_names.nd
  exact (psds_cons (psd_setD (i := 1) nd rfl (by first | exact Or.inl rfl | exact Or.inr rfl) pd_str)
      (psds_cons (psd_setD (i := 2) nd rfl (by first | exact Or.inl rfl | exact Or.inr rfl) (pd_callG G_law_pick ⟨hr.mono (by decide), hgd⟩ (by rfl) T.g_law_pick T.D_law_pick.kp T.b_law_pick (pda_cons (pdv 0) (pda_cons (pd_lst (pda_cons pd_str (pda_cons pd_str (pda_cons pd_str (pda_cons pd_str pda_nil))))) pda_nil))))
      (psds_cons (psd_setD (i := 3) nd rfl (by first | exact Or.inl rfl | exact Or.inr rfl) (pd_callG G_law_draw ⟨hr.mono (by decide), hgd⟩ (by rfl) T.g_law_draw T.D_law_draw.kp T.b_law_draw (pda_cons (pdv 0) (pda_cons pd_int pda_nil))))
      (psds_one (psd_ret (pd_lcV [("k", 4)] rfl rfl nd (pdi_rng1 rfl T.n_range (pda_cons (pd_op od_add pd_int (pd_callG G_law_draw ⟨hr.mono (by decide), hgd⟩ (by rfl) T.g_law_draw T.D_law_draw.kp T.b_law_draw (pda_cons (pdv 0) (pda_cons pd_int pda_nil)))) pda_nil)) (blkOk_by (own := [("k", 4)]) (N := n_law_names) (sc := defScope s_law_names) (by decide +kernel)) (fun _ _ _ _ _ => (pdc_name (i := 4) (pg_name nd rfl (by first | exact Or.inl rfl | exact Or.inr rfl)))) (fun _ _ _ _ _ => pdts_nil) (fun _ _ _ _ _ => (pd_op od_add (pd_op od_add (pdv 2) (pd_ix (pdv 1) (pd_op od_mod (pd_callTy bd_int rfl T.n_int bt_int (pda_cons (pd_op od_add (pdv 3) (pd_op od_mul pd_int (pdv 4))) pda_nil)) pd_int))) (pd_callG G_law_pick ⟨hr.mono (by decide), hgd⟩ (by rfl) T.g_law_pick T.D_law_pick.kp T.b_law_pick (pda_cons (pdv 0) (pda_cons (pd_lst (pda_cons pd_str (pda_cons pd_str (pda_cons pd_str pda_nil)))) pda_nil)))))))))))
theorem ok_law_timeline (T : Tx K mg) (G_law_draw : FnG P w K mg base 1 T.f_law_draw T.d_law_draw p_law_draw (spD K ([0], []) 2 sp_law_draw)) (G_law_pick : FnG P w K mg base 2 T.f_law_pick T.d_law_pick p_law_pick (spD K ([0], []) 2 sp_law_pick)) (h : ∀ (args : List Sl) (Q : Sl → (Nat → Option Sl) → Prop), args.length = 2 → sp_law_timeline args Q → t_law_timeline { nx := fun env => Q (.d .none) (osOf env), rt := fun r env => Q r (osOf env) } (startE 10 args)) : FnG P w K mg base 3 T.f_law_timeline T.d_law_timeline p_law_timeline (spD K ([0], []) 2 sp_law_timeline) := by
  refine fndG T.D_law_timeline sc_law_timeline rfl fun cdv A outer s H E hr hgd => ⟨t_law_timeline, ?_, h⟩
  have nd := sc_law_timeline.nd
  exact (psds_cons (psd_setD (i := 2) nd rfl (by first | exact Or.inl rfl | exact Or.inr rfl) (pd_callG G_law_pick ⟨hr.mono (by decide), hgd⟩ (by rfl) T.g_law_pick T.D_law_pick.kp T.b_law_pick (pda_cons (pdv 0) (pda_cons (pd_lst (pda_cons pd_int (pda_cons pd_int (pda_cons pd_int (pda_cons pd_int pda_nil))))) pda_nil))))
      (psds_cons (psd_setD (i := 3) nd rfl (by first | exact Or.inl rfl | exact Or.inr rfl) (pd_callG G_law_draw ⟨hr.mono (by decide), hgd⟩ (by rfl) T.g_law_draw T.D_law_draw.kp T.b_law_draw (pda_cons (pdv 0) (pda_cons pd_int pda_nil))))
      (psds_cons (psd_setD (i := 4) nd rfl (by first | exact Or.inl rfl | exact Or.inr rfl) (pd_callG G_law_pick ⟨hr.mono (by decide), hgd⟩ (by rfl) T.g_law_pick T.D_law_pick.kp T.b_law_pick (pda_cons (pdv 0) (pda_cons (pd_lst (pda_cons pd_int (pda_cons pd_int (pda_cons pd_int (pda_cons pd_int pda_nil))))) pda_nil))))
      (psds_cons (psd_set (i := 5) nd rfl (by first | exact Or.inl rfl | exact Or.inr rfl) pd_new)
      (psds_cons (psd_set (i := 6) nd rfl (by first | exact Or.inl rfl | exact Or.inr rfl) (pd_lst pda_nil))
      (psds_cons (psd_for PassesOwn.never rfl (pdi_rng1 rfl T.n_range (pda_cons (pd_callG G_law_pick ⟨hr.mono (by decide), hgd⟩ (by rfl) T.g_law_pick T.D_law_pick.kp T.b_law_pick (pda_cons (pdv 0) (pda_cons (pd_lst (pda_cons pd_int (pda_cons pd_int (pda_cons pd_int (pda_cons pd_int (pda_cons pd_int (pda_cons pd_int (pda_cons pd_int pda_nil)))))))) pda_nil))) pda_nil)) (pdg_name (i := 7) nd rfl (by first | exact Or.inl rfl | exact Or.inr rfl)) (psds_cons (psd_setD (i := 8) nd rfl (by first | exact Or.inl rfl | exact Or.inr rfl) (pd_callG G_law_pick ⟨hr.mono (by decide), hgd⟩ (by rfl) T.g_law_pick T.D_law_pick.kp T.b_law_pick (pda_cons (pdv 0) (pda_cons (pdv 1) pda_nil))))
      (psds_cons (psd_setD (i := 9) nd rfl (by first | exact Or.inl rfl | exact Or.inr rfl) (pd_callB (bd_max2 rfl) rfl T.n_max bt_max (pda_cons (pd_op od_sub (pdv 4) (pd_callG G_law_draw ⟨hr.mono (by decide), hgd⟩ (by rfl) T.g_law_draw T.D_law_draw.kp T.b_law_draw (pda_cons (pdv 0) (pda_cons (pd_op od_add (pdv 2) pd_int) pda_nil)))) (pda_cons (pd_get2 (u1 hr) (pv 5) (pdv 8) pd_int) pda_nil))))
      (psds_cons (psd_if (pdt_cmp (od_eq (u64 hr)) (pdv 3) pd_int) (psds_one (psd_setD (i := 9) nd rfl (by first | exact Or.inl rfl | exact Or.inr rfl) (pdv 4))) psds_nil)
      (psds_cons (psd_if (pdt_cmp (od_eq (u64 hr)) (pdv 3) pd_int) (psds_one (psd_setD (i := 9) nd rfl (by first | exact Or.inl rfl | exact Or.inr rfl) (pd_callG G_law_draw ⟨hr.mono (by decide), hgd⟩ (by rfl) T.g_law_draw T.D_law_draw.kp T.b_law_draw (pda_cons (pdv 0) (pda_cons pd_int pda_nil))))) psds_nil)
      (psds_cons (psd_expr (pd_m PySem.F.plainAttrs_list PySem.F.slot_list_append PySem.F.type_list_append md_append (pv 6) (pda_cons (pd_tup (pda_cons (pdv 8) (pda_cons (pdv 9) pda_nil))) pda_nil)))
      (psds_cons (psd_put (u1 hr) (pv 5) (pdv 8) (pdv 9))
      (psds_one (psd_setD (i := 4) nd rfl (by first | exact Or.inl rfl | exact Or.inr rfl) (pd_op od_add (pd_callB (bd_max2 rfl) rfl T.n_max bt_max (pda_cons (pdv 4) (pda_cons (pdv 9) pda_nil))) (pd_callG G_law_pick ⟨hr.mono (by decide), hgd⟩ (by rfl) T.g_law_pick T.D_law_pick.kp T.b_law_pick (pda_cons (pdv 0) (pda_cons (pd_lst (pda_cons pd_int (pda_cons pd_int (pda_cons pd_int (pda_cons pd_int (pda_cons pd_int pda_nil)))))) pda_nil)))))))))))))
      (psds_cons (psd_if (PDW.pt (pdw_and (pdt_cmp (od_eq (u64 hr)) (pd_callG G_law_draw ⟨hr.mono (by decide), hgd⟩ (by rfl) T.g_law_draw T.D_law_draw.kp T.b_law_draw (pda_cons (pdv 0) (pda_cons pd_int pda_nil))) pd_int) (pdw_and1 (pdt_cmp od_gt (pd_callB bd_len rfl T.n_len bt_len (pda_cons (pdv 6) pda_nil)) pd_int)))) (psds_cons (psd_asg (pd_ix (pdv 6) (pd_neg pd_int)) (pdg_tup rfl (pdgs_cons (pdg_name (i := 8) nd rfl (by first | exact Or.inl rfl | exact Or.inr rfl)) (pdgs_cons (pdg_name (i := 9) nd rfl (by first | exact Or.inl rfl | exact Or.inr rfl)) pdgs_nil))))
      (psds_one (psd_set (i := 6) nd rfl (by first | exact Or.inl rfl | exact Or.inr rfl) (pd_op od_add (pd_slice (pdv 6) pdo_none (pdo_some pd_int)) (pd_lst (pda_cons (pd_tup (pda_cons (pdv 8) (pda_cons (pd_callB (bd_max2 rfl) rfl T.n_max bt_max (pda_cons (pd_op od_sub (pdv 9) pd_int) (pda_cons pd_int pda_nil))) pda_nil))) pda_nil)))))) psds_nil)
      (psds_one (psd_ret (pd_callTy bd_tuple rfl T.n_tuple bt_tuple (pda_cons (pd_slice (pdv 6) pdo_none (pdo_some pd_int)) pda_nil)))))))))))
theorem ok_law_moved (T : Tx K mg) (G_law_draw : FnG P w K mg base 1 T.f_law_draw T.d_law_draw p_law_draw (spD K ([0], []) 2 sp_law_draw)) (G_law_pick : FnG P w K mg base 2 T.f_law_pick T.d_law_pick p_law_pick (spD K ([0], []) 2 sp_law_pick)) (h : ∀ (args : List Sl) (Q : Sl → (Nat → Option Sl) → Prop), args.length = 3 → sp_law_moved args Q → t_law_moved { nx := fun env => Q (.d .none) (osOf env), rt := fun r env => Q r (osOf env) } (startE 7 args)) : FnG P w K mg base 3 T.f_law_moved T.d_law_moved p_law_moved (spD K ([0], []) 3 sp_law_moved) := by
  refine fndG T.D_law_moved sc_law_moved rfl fun cdv A outer s H E hr hgd => ⟨t_law_moved, ?_, h⟩
  have nd := sc_law_moved.nd
  exact (psds_cons (psd_if (pdt_cmp (od_eq (u64 hr)) (pd_callB bd_len rfl T.n_len bt_len (pda_cons (pdv 1) pda_nil)) pd_int) (psds_one (psd_ret (pd_tup (pda_cons (pd_tup (pda_cons (pd_ix (pdv 2) pd_int) (pda_cons pd_int pda_nil))) pda_nil)))) psds_nil)
      (psds_cons (psd_setD (i := 3) nd rfl (by first | exact Or.inl rfl | exact Or.inr rfl) (pd_callG G_law_draw ⟨hr.mono (by decide), hgd⟩ (by rfl) T.g_law_draw T.D_law_draw.kp T.b_law_draw (pda_cons (pdv 0) (pda_cons (pd_callB bd_len rfl T.n_len bt_len (pda_cons (pdv 1) pda_nil)) pda_nil))))
      (psds_cons (psd_asg (pd_ix (pdv 1) (pdv 3)) (pdg_tup rfl (pdgs_cons (pdg_name (i := 4) nd rfl (by first | exact Or.inl rfl | exact Or.inr rfl)) (pdgs_cons (pdg_name (i := 5) nd rfl (by first | exact Or.inl rfl | exact Or.inr rfl)) pdgs_nil))))
      (psds_cons (psd_setD (i := 6) nd rfl (by first | exact Or.inl rfl | exact Or.inr rfl) (pd_callG G_law_pick ⟨hr.mono (by decide), hgd⟩ (by rfl) T.g_law_pick T.D_law_pick.kp T.b_law_pick (pda_cons (pdv 0) (pda_cons (pd_lst (pda_cons (pd_tup (pda_cons (pdv 4) (pda_cons (pd_op od_add (pdv 5) pd_int) pda_nil))) (pda_cons (pd_tup (pda_cons (pdv 4) (pda_cons (pd_callB (bd_max2 rfl) rfl T.n_max bt_max (pda_cons (pd_op od_sub (pdv 5) pd_int) (pda_cons pd_int pda_nil))) pda_nil))) (pda_cons (pd_tup (pda_cons (pd_callG G_law_pick ⟨hr.mono (by decide), hgd⟩ (by rfl) T.g_law_pick T.D_law_pick.kp T.b_law_pick (pda_cons (pdv 0) (pda_cons (pdv 2) pda_nil))) (pda_cons (pdv 5) pda_nil))) (pda_cons (pd_tup (pda_cons (pd_op od_add (pdv 4) pd_str) (pda_cons (pdv 5) pda_nil))) (pda_cons (pd_tup (pda_cons (pdv 4) (pda_cons (pd_op od_add (pdv 5) pd_int) pda_nil))) pda_nil)))))) pda_nil))))
      (psds_one (psd_ret (pd_op od_add (pd_op od_add (pd_slice (pdv 1) pdo_none (pdo_some (pdv 3))) (pd_tup (pda_cons (pd_tup (pda_cons (pd_slice (pd_ix (pdv 6) pd_int) pdo_none (pdo_some pd_int)) (pda_cons (pd_ix (pdv 6) pd_int) pda_nil))) pda_nil))) (pd_slice (pdv 1) (pdo_some (pd_op od_add (pdv 3) pd_int)) pdo_none))))))))
theorem ok_law_strays (T : Tx K mg) (G_stray : FnG P w K mg base 1 T.f_stray T.d_stray p_stray (spD K ([], []) 1 sp_stray)) (G_keeps : FnG P w K mg base 2 T.f_keeps T.d_keeps p_keeps (spD K ([], []) 2 sp_keeps)) (G_law_turns : FnG P w K mg base 2 T.f_law_turns T.d_law_turns p_law_turns (spD K ([0], []) 2 sp_law_turns)) (G_law_shuffled : FnG P w K mg base 2 T.f_law_shuffled T.d_law_shuffled p_law_shuffled (spD K ([0], []) 2 sp_law_shuffled)) (G_law_k_alike : FnG P w K mg base 1 T.f_law_k_alike T.d_law_k_alike p_law_k_alike (spD K ([], []) 2 sp_law_k_alike)) (G_law_exceeds : FnG P w K mg base 1 T.f_law_exceeds T.d_law_exceeds p_law_exceeds (spD K ([], []) 1 sp_law_exceeds)) (G_law_goes_back : FnG P w K mg base 1 T.f_law_goes_back T.d_law_goes_back p_law_goes_back (spD K ([], []) 1 sp_law_goes_back)) (h : ∀ (args : List Sl) (Q : Sl → (Nat → Option Sl) → Prop), args.length = 2 → sp_law_strays args Q → t_law_strays { nx := fun env => Q (.d .none) (osOf env), rt := fun r env => Q r (osOf env) } (startE 6 args)) : FnG P w K mg base 3 T.f_law_strays T.d_law_strays p_law_strays (spD K ([0], []) 2 sp_law_strays) := by
  refine fndG T.D_law_strays sc_law_strays rfl fun cdv A outer s H E hr hgd => ⟨t_law_strays, ?_, h⟩
  have nd := sc_law_strays.nd
  exact (psds_cons (psd_setD (i := 2) nd rfl (by first | exact Or.inl rfl | exact Or.inr rfl) (pd_callG G_law_exceeds ⟨hr.mono (by decide), hgd⟩ (by rfl) T.g_law_exceeds T.D_law_exceeds.kp T.b_law_exceeds (pda_cons (pdv 1) pda_nil)))
      (psds_cons (psd_setD (i := 3) nd rfl (by first | exact Or.inl rfl | exact Or.inr rfl) (pd_callG G_law_goes_back ⟨hr.mono (by decide), hgd⟩ (by rfl) T.g_law_goes_back T.D_law_goes_back.kp T.b_law_goes_back (pda_cons (pdv 1) pda_nil)))
      (psds_cons (psd_for PassesOwn.never rfl (pdi_seq (pd_callG G_law_turns ⟨hr.mono (by decide), hgd⟩ (by rfl) T.g_law_turns T.D_law_turns.kp T.b_law_turns (pda_cons (pdv 0) (pda_cons pd_int pda_nil)))) (pdg_name (i := 4) nd rfl (by first | exact Or.inl rfl | exact Or.inr rfl)) (psds_cons (psd_if (PDW.pt (pdw_and (pdt_cmp (od_eq (u64 hr)) (pdv 4) pd_int) (pdw_and1 (pdt_not (pdt_val (pd_callG G_law_k_alike ⟨hr.mono (by decide), hgd⟩ (by rfl) T.g_law_k_alike T.D_law_k_alike.kp T.b_law_k_alike (pda_cons (pd_callG G_stray ⟨hr.mono (by decide), hgd⟩ (by rfl) T.g_stray T.D_stray.kp T.b_stray (pda_cons (pdv 1) pda_nil)) (pda_cons (pdv 2) pda_nil)))))))) (psds_one (psd_ret pd_bl)) psds_nil)
      (psds_one (psd_if (pdt_cmp (od_eq (u64 hr)) (pdv 4) pd_int) (psds_one (psd_for PassesOwn.never rfl (pdi_seq (pd_callG G_law_shuffled ⟨hr.mono (by decide), hgd⟩ (by rfl) T.g_law_shuffled T.D_law_shuffled.kp T.b_law_shuffled (pda_cons (pdv 0) (pda_cons (pd_lst (pda_cons pd_int (pda_cons pd_int (pda_cons (pd_callB (bd_min2 rfl) rfl T.n_min bt_min (pda_cons (pdv 2) (pda_cons pd_int pda_nil))) (pda_cons (pd_callB (bd_min2 rfl) rfl T.n_min bt_min (pda_cons (pd_callB (bd_max2 rfl) rfl T.n_max bt_max (pda_cons (pd_op od_sub (pdv 2) pd_int) (pda_cons pd_int pda_nil))) (pda_cons pd_int pda_nil))) (pda_cons (pd_callB (bd_min2 rfl) rfl T.n_min bt_min (pda_cons (pd_op od_add (pdv 2) pd_int) (pda_cons pd_int pda_nil))) pda_nil)))))) pda_nil)))) (pdg_name (i := 5) nd rfl (by first | exact Or.inl rfl | exact Or.inr rfl)) (psds_one (psd_if (pdt_not (pdt_val (pd_callG G_law_k_alike ⟨hr.mono (by decide), hgd⟩ (by rfl) T.g_law_k_alike T.D_law_k_alike.kp T.b_law_k_alike (pda_cons (pd_callG G_keeps ⟨hr.mono (by decide), hgd⟩ (by rfl) T.g_keeps T.D_keeps.kp T.b_keeps (pda_cons (pdv 1) (pda_cons (pdv 5) pda_nil))) (pda_cons (pd_and (pd_not (pdv 3)) (pd_one (pd_cmp od_le (pdv 2) (pdv 5)))) pda_nil))))) (psds_one (psd_ret pd_bl)) psds_nil)))) psds_nil))))
      (psds_one (psd_ret pd_bl)))))
theorem ok_law_own (T : Tx K mg) (G_law_draw : FnG P w K mg base 1 T.f_law_draw T.d_law_draw p_law_draw (spD K ([0], []) 2 sp_law_draw)) (G_law_pick : FnG P w K mg base 2 T.f_law_pick T.d_law_pick p_law_pick (spD K ([0], []) 2 sp_law_pick)) (h : ∀ (args : List Sl) (Q : Sl → (Nat → Option Sl) → Prop), args.length = 5 → sp_law_own args Q → t_law_own { nx := fun env => Q (.d .none) (osOf env), rt := fun r env => Q r (osOf env) } (startE 11 args)) : FnG P w K mg base 3 T.f_law_own T.d_law_own p_law_own (spD K ([0], []) 5 sp_law_own) := by
  refine fndG T.D_law_own sc_law_own rfl fun cdv A outer s H E hr hgd => ⟨t_law_own, ?_, h⟩
  have nd := sc_law_own.nd
  exact (psds_cons (psd_setD (i := 5) nd rfl (by first | exact Or.inl rfl | exact Or.inr rfl) (pd_callG G_law_pick ⟨hr.mono (by decide), hgd⟩ (by rfl) T.g_law_pick T.D_law_pick.kp T.b_law_pick (pda_cons (pdv 0) (pda_cons (pd_lst (pda_cons pd_int (pda_cons (pdv 2) (pda_cons (pd_op od_add (pdv 2) (pd_callG G_law_draw ⟨hr.mono (by decide), hgd⟩ (by rfl) T.g_law_draw T.D_law_draw.kp T.b_law_draw (pda_cons (pdv 0) (pda_cons pd_int pda_nil)))) (pda_cons pd_int pda_nil))))) pda_nil))))
      (psds_cons (psd_setD (i := 6) nd rfl (by first | exact Or.inl rfl | exact Or.inr rfl) (pd_op od_add (pd_callB (bd_max2 rfl) rfl T.n_max bt_max (pda_cons pd_int (pda_cons (pd_op od_sub (pdv 5) (pdv 2)) pda_nil))) (pd_callG G_law_pick ⟨hr.mono (by decide), hgd⟩ (by rfl) T.g_law_pick T.D_law_pick.kp T.b_law_pick (pda_cons (pdv 0) (pda_cons (pd_lst (pda_cons pd_int (pda_cons pd_int (pda_cons pd_int (pda_cons pd_int pda_nil))))) pda_nil)))))
      (psds_cons (psd_setD (i := 7) nd rfl (by first | exact Or.inl rfl | exact Or.inr rfl) (pd_op od_add (pd_callB (bd_max2 rfl) rfl T.n_max bt_max (pda_cons (pd_op od_add (pd_op od_add (pdv 6) (pdv 3)) (pd_callTy bd_int rfl T.n_int bt_int (pda_cons (pdv 4) pda_nil))) (pda_cons (pd_op od_sub (pdv 5) (pdv 2)) pda_nil))) (pd_callG G_law_pick ⟨hr.mono (by decide), hgd⟩ (by rfl) T.g_law_pick T.D_law_pick.kp T.b_law_pick (pda_cons (pdv 0) (pda_cons (pd_lst (pda_cons pd_int (pda_cons pd_int (pda_cons pd_int pda_nil)))) pda_nil)))))
      (psds_cons (psd_setD (i := 8) nd rfl (by first | exact Or.inl rfl | exact Or.inr rfl) (pd_callB (bd_max3 rfl) rfl T.n_max bt_max (pda_cons (pdv 5) (pda_cons (pdv 6) (pda_cons (pdv 7) pda_nil)))))
      (psds_cons (psd_setD (i := 9) nd rfl (by first | exact Or.inl rfl | exact Or.inr rfl) (pd_op od_add (pd_callB (bd_max2 rfl) rfl T.n_max bt_max (pda_cons pd_int (pda_cons (pd_op od_sub (pdv 8) (pdv 2)) pda_nil))) (pd_callG G_law_pick ⟨hr.mono (by decide), hgd⟩ (by rfl) T.g_law_pick T.D_law_pick.kp T.b_law_pick (pda_cons (pdv 0) (pda_cons (pd_lst (pda_cons pd_int (pda_cons pd_int (pda_cons pd_int (pda_cons (pdv 2) pda_nil))))) pda_nil)))))
      (psds_cons (psd_setD (i := 10) nd rfl (by first | exact Or.inl rfl | exact Or.inr rfl) (pd_callB (bd_max2 rfl) rfl T.n_max bt_max (pda_cons (pdv 5) (pda_cons (pd_op od_sub (pd_callB (bd_max2 rfl) rfl T.n_max bt_max (pda_cons (pdv 8) (pda_cons (pd_ifExp (pdt_tru (pdv 4)) (pdv 9) pd_int) pda_nil))) (pdv 2)) pda_nil))))
      (psds_cons (psd_setD (i := 10) nd rfl (by first | exact Or.inl rfl | exact Or.inr rfl) (pd_callG G_law_pick ⟨hr.mono (by decide), hgd⟩ (by rfl) T.g_law_pick T.D_law_pick.kp T.b_law_pick (pda_cons (pdv 0) (pda_cons (pd_lst (pda_cons (pdv 10) (pda_cons (pdv 10) (pda_cons (pd_callB (bd_max2 rfl) rfl T.n_max bt_max (pda_cons (pdv 10) (pda_cons (pd_op od_add (pdv 5) (pdv 1)) pda_nil))) (pda_cons (pd_callB (bd_max2 rfl) rfl T.n_max bt_max (pda_cons (pdv 10) (pda_cons (pd_op od_sub (pd_op od_add (pdv 5) (pdv 1)) pd_int) pda_nil))) pda_nil))))) pda_nil))))
      (psds_cons (psd_if (pdt_tru (pdv 4)) (psds_one (psd_ret (pd_tup (pda_cons (pd_tup (pda_cons pd_str (pda_cons (pdv 5) pda_nil))) (pda_cons (pd_tup (pda_cons pd_str (pda_cons (pdv 6) pda_nil))) (pda_cons (pd_tup (pda_cons pd_str (pda_cons (pdv 7) pda_nil))) (pda_cons (pd_tup (pda_cons pd_str (pda_cons (pdv 9) pda_nil))) (pda_cons (pd_tup (pda_cons pd_str (pda_cons (pdv 10) pda_nil))) pda_nil)))))))) psds_nil)
      (psds_one (psd_ret (pd_tup (pda_cons (pd_tup (pda_cons pd_str (pda_cons (pdv 5) pda_nil))) (pda_cons (pd_tup (pda_cons pd_str (pda_cons (pdv 6) pda_nil))) (pda_cons (pd_tup (pda_cons pd_str (pda_cons (pdv 7) pda_nil))) (pda_cons (pd_tup (pda_cons pd_str (pda_cons (pdv 10) pda_nil))) pda_nil)))))))))))))))
theorem ok_law_changed (T : Tx K mg) (G_law_draw : FnG P w K mg base 1 T.f_law_draw T.d_law_draw p_law_draw (spD K ([0], []) 2 sp_law_draw)) (G_law_pick : FnG P w K mg base 2 T.f_law_pick T.d_law_pick p_law_pick (spD K ([0], []) 2 sp_law_pick)) (h : ∀ (args : List Sl) (Q : Sl → (Nat → Option Sl) → Prop), args.length = 2 → sp_law_changed args Q → t_law_changed { nx := fun env => Q (.d .none) (osOf env), rt := fun r env => Q r (osOf env) } (startE 6 args)) : FnG P w K mg base 3 T.f_law_changed T.d_law_changed p_law_changed (spD K ([0], []) 2 sp_law_changed) := by
  refine fndG T.D_law_changed sc_law_changed rfl fun cdv A outer s H E hr hgd => ⟨t_law_changed, ?_, h⟩
  have nd := sc_law_changed.nd
  exact (psds_cons (psd_setD (i := 2) nd rfl (by first | exact Or.inl rfl | exact Or.inr rfl) (pd_callG G_law_draw ⟨hr.mono (by decide), hgd⟩ (by rfl) T.g_law_draw T.D_law_draw.kp T.b_law_draw (pda_cons (pdv 0) (pda_cons (pd_callB bd_len rfl T.n_len bt_len (pda_cons (pdv 1) pda_nil)) pda_nil))))
      (psds_cons (psd_asg (pd_ix (pdv 1) (pdv 2)) (pdg_tup rfl (pdgs_cons (pdg_name (i := 3) nd rfl (by first | exact Or.inl rfl | exact Or.inr rfl)) (pdgs_cons (pdg_name (i := 4) nd rfl (by first | exact Or.inl rfl | exact Or.inr rfl)) pdgs_nil))))
      (psds_cons (psd_setD (i := 5) nd rfl (by first | exact Or.inl rfl | exact Or.inr rfl) (pd_callG G_law_draw ⟨hr.mono (by decide), hgd⟩ (by rfl) T.g_law_draw T.D_law_draw.kp T.b_law_draw (pda_cons (pdv 0) (pda_cons pd_int pda_nil))))
      (psds_cons (psd_if (pdt_cmp od_lt (pdv 5) pd_int) (psds_one (psd_setD (i := 4) nd rfl (by first | exact Or.inl rfl | exact Or.inr rfl) (pd_callB (bd_max2 rfl) rfl T.n_max bt_max (pda_cons pd_int (pda_cons (pd_op od_add (pdv 4) (pd_callG G_law_pick ⟨hr.mono (by decide), hgd⟩ (by rfl) T.g_law_pick T.D_law_pick.kp T.b_law_pick (pda_cons (pdv 0) (pda_cons (pd_lst (pda_cons pd_int (pda_cons (pd_neg pd_int) (pda_cons pd_int (pda_cons (pd_neg pd_int) (pda_cons pd_int (pda_cons pd_int pda_nil))))))) pda_nil)))) pda_nil))))) psds_nil)
      (psds_cons (psd_if (pdt_cmp (od_eq (u64 hr)) (pdv 5) pd_int) (psds_one (psd_setD (i := 3) nd rfl (by first | exact Or.inl rfl | exact Or.inr rfl) (pd_callG G_law_pick ⟨hr.mono (by decide), hgd⟩ (by rfl) T.g_law_pick T.D_law_pick.kp T.b_law_pick (pda_cons (pdv 0) (pda_cons (pd_lst (pda_cons pd_str (pda_cons pd_str (pda_cons pd_str (pda_cons pd_str (pda_cons pd_str (pda_cons pd_str pda_nil))))))) pda_nil))))) psds_nil)
      (psds_cons (psd_if (pdt_cmp (od_eq (u64 hr)) (pdv 5) pd_int) (psds_one (psd_ret (pd_op od_add (pd_slice (pdv 1) pdo_none (pdo_some (pdv 2))) (pd_slice (pdv 1) (pdo_some (pd_op od_add (pdv 2) pd_int)) pdo_none)))) psds_nil)
      (psds_cons (psd_if (pdt_cmp (od_eq (u64 hr)) (pdv 5) pd_int) (psds_one (psd_ret (pd_op od_add (pd_op od_add (pd_slice (pdv 1) pdo_none (pdo_some (pdv 2))) (pd_tup (pda_cons (pd_tup (pda_cons (pdv 3) (pda_cons (pdv 4) pda_nil))) pda_nil))) (pd_slice (pdv 1) (pdo_some (pdv 2)) pdo_none)))) psds_nil)
      (psds_cons (psd_if (PDW.pt (pdw_and (pdt_cmp (od_eq (u64 hr)) (pdv 5) pd_int) (pdw_and1 (pdt_cmp od_gt (pdv 2) pd_int)))) (psds_one (psd_ret (pd_op od_add (pd_op od_add (pd_slice (pdv 1) pdo_none (pdo_some (pd_op od_sub (pdv 2) pd_int))) (pd_tup (pda_cons (pd_ix (pdv 1) (pdv 2)) (pda_cons (pd_ix (pdv 1) (pd_op od_sub (pdv 2) pd_int)) pda_nil)))) (pd_slice (pdv 1) (pdo_some (pd_op od_add (pdv 2) pd_int)) pdo_none)))) psds_nil)
      (psds_one (psd_ret (pd_op od_add (pd_op od_add (pd_slice (pdv 1) pdo_none (pdo_some (pdv 2))) (pd_tup (pda_cons (pd_tup (pda_cons (pdv 3) (pda_cons (pdv 4) pda_nil))) pda_nil))) (pd_slice (pdv 1) (pdo_some (pd_op od_add (pdv 2) pd_int)) pdo_none))))))))))))
theorem ok_law_judged (T : Tx K mg) (G_is_crossing : FnG P w K mg base 3 T.f_is_crossing T.d_is_crossing p_is_crossing (spD K ([], []) 4 sp_is_crossing)) (G_is_lingering : FnG P w K mg base 3 T.f_is_lingering T.d_is_lingering p_is_lingering (spD K ([], []) 4 sp_is_lingering)) (G_law_pick : FnG P w K mg base 2 T.f_law_pick T.d_law_pick p_law_pick (spD K ([0], []) 2 sp_law_pick)) (G_law_k_alike : FnG P w K mg base 1 T.f_law_k_alike T.d_law_k_alike p_law_k_alike (spD K ([], []) 2 sp_law_k_alike)) (G_law_crosses : FnG P w K mg base 2 T.f_law_crosses T.d_law_crosses p_law_crosses (spD K ([], []) 4 sp_law_crosses)) (G_law_lingers : FnG P w K mg base 2 T.f_law_lingers T.d_law_lingers p_law_lingers (spD K ([], []) 4 sp_law_lingers)) (h : ∀ (args : List Sl) (Q : Sl → (Nat → Option Sl) → Prop), args.length = 6 → sp_law_judged args Q → t_law_judged { nx := fun env => Q (.d .none) (osOf env), rt := fun r env => Q r (osOf env) } (startE 10 args)) : FnG P w K mg base 4 T.f_law_judged T.d_law_judged p_law_judged (spD K ([0], []) 6 sp_law_judged) := by
  refine fndG T.D_law_judged sc_law_judged rfl fun cdv A outer s H E hr hgd => ⟨t_law_judged, ?_, h⟩
  have nd := sc_law_judged.nd
  exact (psds_cons (psd_setD (i := 6) nd rfl (by first | exact Or.inl rfl | exact Or.inr rfl) (pd_lst (pda_cons (pd_tup (pda_cons (pdv 1) (pda_cons (pdv 2) (pda_cons (pdv 3) pda_nil)))) (pda_cons (pd_tup (pda_cons (pdv 1) (pda_cons (pdv 2) (pda_cons (pd_op od_add (pdv 3) pd_int) pda_nil)))) (pda_cons (pd_tup (pda_cons (pdv 1) (pda_cons (pd_callB (bd_min2 rfl) rfl T.n_min bt_min (pda_cons (pd_op od_add (pdv 2) pd_int) (pda_cons pd_int pda_nil))) (pda_cons (pdv 3) pda_nil)))) (pda_cons (pd_tup (pda_cons (pdv 1) (pda_cons (pd_callB (bd_max2 rfl) rfl T.n_max bt_max (pda_cons (pd_op od_sub (pdv 2) pd_int) (pda_cons pd_int pda_nil))) (pda_cons (pdv 3) pda_nil)))) pda_nil))))))
      (psds_cons (psd_setD (i := 6) nd rfl (by first | exact Or.inl rfl | exact Or.inr rfl) (pd_op od_add (pdv 6) (pd_lst (pda_cons (pd_tup (pda_cons (pd_callB (bd_max2 rfl) rfl T.n_max bt_max (pda_cons (pd_op od_sub (pdv 1) pd_int) (pda_cons pd_int pda_nil))) (pda_cons (pdv 2) (pda_cons (pdv 3) pda_nil)))) (pda_cons (pd_tup (pda_cons (pd_callB (bd_min2 rfl) rfl T.n_min bt_min (pda_cons (pd_op od_add (pdv 1) pd_int) (pda_cons pd_int pda_nil))) (pda_cons (pdv 2) (pda_cons (pdv 3) pda_nil)))) (pda_cons (pd_tup (pda_cons (pdv 1) (pda_cons (pdv 2) (pda_cons (pd_callB (bd_max2 rfl) rfl T.n_max bt_max (pda_cons (pd_op od_sub (pdv 3) pd_int) (pda_cons pd_int pda_nil))) pda_nil)))) pda_nil))))))
      (psds_cons (psd_for PassesOwn.never rfl (pdi_seq (pd_lst (pda_cons (pd_ix (pdv 6) pd_int) (pda_cons (pd_callG G_law_pick ⟨hr.mono (by decide), hgd⟩ (by rfl) T.g_law_pick T.D_law_pick.kp T.b_law_pick (pda_cons (pdv 0) (pda_cons (pdv 6) pda_nil))) (pda_cons (pd_callG G_law_pick ⟨hr.mono (by decide), hgd⟩ (by rfl) T.g_law_pick T.D_law_pick.kp T.b_law_pick (pda_cons (pdv 0) (pda_cons (pdv 6) pda_nil))) (pda_cons (pd_ix (pdv 6) pd_int) pda_nil)))))) (pdg_name (i := 7) nd rfl (by first | exact Or.inl rfl | exact Or.inr rfl)) (psds_cons (psd_if (pdt_tru (pdv 5)) (psds_cons (psd_setD (i := 8) nd rfl (by first | exact Or.inl rfl | exact Or.inr rfl) (pd_callG G_is_crossing ⟨hr.mono (by decide), hgd⟩ (by rfl) T.g_is_crossing T.D_is_crossing.kp T.b_is_crossing (pda_cons (pd_ix (pdv 7) pd_int) (pda_cons (pd_ix (pdv 7) pd_int) (pda_cons (pd_ix (pdv 7) pd_int) (pda_cons (pdv 4) pda_nil))))))
      (psds_one (psd_setD (i := 9) nd rfl (by first | exact Or.inl rfl | exact Or.inr rfl) (pd_callG G_law_crosses ⟨hr.mono (by decide), hgd⟩ (by rfl) T.g_law_crosses T.D_law_crosses.kp T.b_law_crosses (pda_cons (pd_ix (pdv 7) pd_int) (pda_cons (pd_ix (pdv 7) pd_int) (pda_cons (pd_ix (pdv 7) pd_int) (pda_cons (pdv 4) pda_nil)))))))) (psds_cons (psd_setD (i := 8) nd rfl (by first | exact Or.inl rfl | exact Or.inr rfl) (pd_callG G_is_lingering ⟨hr.mono (by decide), hgd⟩ (by rfl) T.g_is_lingering T.D_is_lingering.kp T.b_is_lingering (pda_cons (pd_ix (pdv 7) pd_int) (pda_cons (pd_ix (pdv 7) pd_int) (pda_cons (pd_ix (pdv 7) pd_int) (pda_cons (pdv 4) pda_nil))))))
      (psds_one (psd_setD (i := 9) nd rfl (by first | exact Or.inl rfl | exact Or.inr rfl) (pd_callG G_law_lingers ⟨hr.mono (by decide), hgd⟩ (by rfl) T.g_law_lingers T.D_law_lingers.kp T.b_law_lingers (pda_cons (pd_ix (pdv 7) pd_int) (pda_cons (pd_ix (pdv 7) pd_int) (pda_cons (pd_ix (pdv 7) pd_int) (pda_cons (pdv 4) pda_nil)))))))))
      (psds_one (psd_if (pdt_not (pdt_val (pd_callG G_law_k_alike ⟨hr.mono (by decide), hgd⟩ (by rfl) T.g_law_k_alike T.D_law_k_alike.kp T.b_law_k_alike (pda_cons (pdv 8) (pda_cons (pdv 9) pda_nil))))) (psds_one (psd_ret pd_bl)) psds_nil))))
      (psds_one (psd_ret pd_bl)))))
theorem ok_law_told (T : Tx K mg) (G_crossing : FnG P w K mg base 3 T.f_crossing T.d_crossing p_crossing (spD K ([], []) 3 sp_crossing)) (G_lingering : FnG P w K mg base 3 T.f_lingering T.d_lingering p_lingering (spD K ([], []) 3 sp_lingering)) (G_law_k_alike : FnG P w K mg base 1 T.f_law_k_alike T.d_law_k_alike p_law_k_alike (spD K ([], []) 2 sp_law_k_alike)) (G_law_crossing_of : FnG P w K mg base 1 T.f_law_crossing_of T.d_law_crossing_of p_law_crossing_of (spD K ([], []) 3 sp_law_crossing_of)) (G_law_lingering_of : FnG P w K mg base 1 T.f_law_lingering_of T.d_law_lingering_of p_law_lingering_of (spD K ([], []) 3 sp_law_lingering_of)) (h : ∀ (args : List Sl) (Q : Sl → (Nat → Option Sl) → Prop), args.length = 4 → sp_law_told args Q → t_law_told { nx := fun env => Q (.d .none) (osOf env), rt := fun r env => Q r (osOf env) } (startE 4 args)) : FnG P w K mg base 4 T.f_law_told T.d_law_told p_law_told (spD K ([], []) 4 sp_law_told) := by
  refine fndG T.D_law_told sc_law_told rfl fun cdv A outer s H E hr hgd => ⟨t_law_told, ?_, h⟩
  have nd := sc_law_told.nd
  exact (psds_cons (psd_if (pdt_tru (pdv 3)) (psds_one (psd_ret (pd_callG G_law_k_alike ⟨hr.mono (by decide), hgd⟩ (by rfl) T.g_law_k_alike T.D_law_k_alike.kp T.b_law_k_alike (pda_cons (pd_callG G_crossing ⟨hr.mono (by decide), hgd⟩ (by rfl) T.g_crossing T.D_crossing.kp T.b_crossing (pda_cons (pdv 0) (pda_cons (pdv 1) (pda_cons (pdv 2) pda_nil)))) (pda_cons (pd_callG G_law_crossing_of ⟨hr.mono (by decide), hgd⟩ (by rfl) T.g_law_crossing_of T.D_law_crossing_of.kp T.b_law_crossing_of (pda_cons (pdv 0) (pda_cons (pdv 1) (pda_cons (pdv 2) pda_nil)))) pda_nil))))) psds_nil)
      (psds_one (psd_ret (pd_callG G_law_k_alike ⟨hr.mono (by decide), hgd⟩ (by rfl) T.g_law_k_alike T.D_law_k_alike.kp T.b_law_k_alike (pda_cons (pd_callG G_lingering ⟨hr.mono (by decide), hgd⟩ (by rfl) T.g_lingering T.D_lingering.kp T.b_lingering (pda_cons (pdv 0) (pda_cons (pdv 1) (pda_cons (pdv 2) pda_nil)))) (pda_cons (pd_callG G_law_lingering_of ⟨hr.mono (by decide), hgd⟩ (by rfl) T.g_law_lingering_of T.D_law_lingering_of.kp T.b_law_lingering_of (pda_cons (pdv 0) (pda_cons (pdv 1) (pda_cons (pdv 2) pda_nil)))) pda_nil))))))
theorem ok_law_asked (T : Tx K mg) (G_law_turns : FnG P w K mg base 2 T.f_law_turns T.d_law_turns p_law_turns (spD K ([0], []) 2 sp_law_turns)) (G_law_crossing_of : FnG P w K mg base 1 T.f_law_crossing_of T.d_law_crossing_of p_law_crossing_of (spD K ([], []) 3 sp_law_crossing_of)) (G_law_lingering_of : FnG P w K mg base 1 T.f_law_lingering_of T.d_law_lingering_of p_law_lingering_of (spD K ([], []) 3 sp_law_lingering_of)) (G_law_own : FnG P w K mg base 3 T.f_law_own T.d_law_own p_law_own (spD K ([0], []) 5 sp_law_own)) (G_law_changed : FnG P w K mg base 3 T.f_law_changed T.d_law_changed p_law_changed (spD K ([0], []) 2 sp_law_changed)) (G_law_judged : FnG P w K mg base 4 T.f_law_judged T.d_law_judged p_law_judged (spD K ([0], []) 6 sp_law_judged)) (G_law_told : FnG P w K mg base 4 T.f_law_told T.d_law_told p_law_told (spD K ([], []) 4 sp_law_told)) (h : ∀ (args : List Sl) (Q : Sl → (Nat → Option Sl) → Prop), args.length = 5 → sp_law_asked args Q → t_law_asked { nx := fun env => Q (.d .none) (osOf env), rt := fun r env => Q r (osOf env) } (startE 10 args)) : FnG P w K mg base 5 T.f_law_asked T.d_law_asked p_law_asked (spD K ([0], []) 5 sp_law_asked) := by
  refine fndG T.D_law_asked sc_law_asked rfl fun cdv A outer s H E hr hgd => ⟨t_law_asked, ?_, h⟩
  have nd := sc_law_asked.nd
  exact (psds_cons (psd_for PassesOwn.never rfl (pdi_seq (pd_callG G_law_turns ⟨hr.mono (by decide), hgd⟩ (by rfl) T.g_law_turns T.D_law_turns.kp T.b_law_turns (pda_cons (pdv 0) (pda_cons pd_int pda_nil)))) (pdg_name (i := 5) nd rfl (by first | exact Or.inl rfl | exact Or.inr rfl)) (psds_one (psd_if (pdt_cmp (od_eq (u64 hr)) (pdv 5) pd_int) (psds_one (psd_for PassesOwn.never rfl (pdi_seq (pd_lst (pda_cons (pdv 3) (pda_cons (pd_callB (bd_max2 rfl) rfl T.n_max bt_max (pda_cons (pd_op od_sub (pdv 3) pd_int) (pda_cons pd_int pda_nil))) (pda_cons (pd_op od_add (pdv 3) pd_int) (pda_cons (pdv 3) pda_nil)))))) (pdg_name (i := 6) nd rfl (by first | exact Or.inl rfl | exact Or.inr rfl)) (psds_one (psd_if (pdt_not (pdt_val (pd_callG G_law_told ⟨hr.mono (by decide), hgd⟩ (by rfl) T.g_law_told T.D_law_told.kp T.b_law_told (pda_cons (pdv 1) (pda_cons (pdv 2) (pda_cons (pdv 6) (pda_cons (pdv 4) pda_nil))))))) (psds_one (psd_ret pd_bl)) psds_nil)))) (psds_cons (psd_setD (i := 7) nd rfl (by first | exact Or.inl rfl | exact Or.inr rfl) (pd_callG G_law_own ⟨hr.mono (by decide), hgd⟩ (by rfl) T.g_law_own T.D_law_own.kp T.b_law_own (pda_cons (pdv 0) (pda_cons (pdv 1) (pda_cons (pdv 2) (pda_cons (pdv 3) (pda_cons (pdv 4) pda_nil)))))))
      (psds_cons (psd_setD (i := 8) nd rfl (by first | exact Or.inl rfl | exact Or.inr rfl) (pd_ifExp (pdt_tru (pdv 4)) (pd_callG G_law_crossing_of ⟨hr.mono (by decide), hgd⟩ (by rfl) T.g_law_crossing_of T.D_law_crossing_of.kp T.b_law_crossing_of (pda_cons (pdv 1) (pda_cons (pdv 2) (pda_cons (pdv 3) pda_nil)))) (pd_callG G_law_lingering_of ⟨hr.mono (by decide), hgd⟩ (by rfl) T.g_law_lingering_of T.D_law_lingering_of.kp T.b_law_lingering_of (pda_cons (pdv 1) (pda_cons (pdv 2) (pda_cons (pdv 3) pda_nil))))))
      (psds_cons (psd_if (PDW.pt (pdw_and (pdt_cmp (od_eq (u64 hr)) (pdv 5) pd_int) (pdw_and1 (pdt_notN (pdv 8))))) (psds_one (psd_setD (i := 7) nd rfl (by first | exact Or.inl rfl | exact Or.inr rfl) (pdv 8))) psds_nil)
      (psds_one (psd_for PassesOwn.never rfl (pdi_seq (pd_lst (pda_cons (pdv 7) (pda_cons (pd_callG G_law_changed ⟨hr.mono (by decide), hgd⟩ (by rfl) T.g_law_changed T.D_law_changed.kp T.b_law_changed (pda_cons (pdv 0) (pda_cons (pdv 7) pda_nil))) (pda_cons (pd_callG G_law_changed ⟨hr.mono (by decide), hgd⟩ (by rfl) T.g_law_changed T.D_law_changed.kp T.b_law_changed (pda_cons (pdv 0) (pda_cons (pdv 7) pda_nil))) (pda_cons (pdv 7) pda_nil)))))) (pdg_name (i := 9) nd rfl (by first | exact Or.inl rfl | exact Or.inr rfl)) (psds_one (psd_if (pdt_not (pdt_val (pd_callG G_law_judged ⟨hr.mono (by decide), hgd⟩ (by rfl) T.g_law_judged T.D_law_judged.kp T.b_law_judged (pda_cons (pdv 0) (pda_cons (pdv 1) (pda_cons (pdv 2) (pda_cons (pdv 3) (pda_cons (pdv 9) (pda_cons (pdv 4) pda_nil))))))))) (psds_one (psd_ret pd_bl)) psds_nil))))))))))
      (psds_one (psd_ret pd_bl)))
theorem ok_law_apart (T : Tx K mg) (G_law_draw : FnG P w K mg base 1 T.f_law_draw T.d_law_draw p_law_draw (spD K ([0], []) 2 sp_law_draw)) (G_law_pick : FnG P w K mg base 2 T.f_law_pick T.d_law_pick p_law_pick (spD K ([0], []) 2 sp_law_pick)) (G_law_asked : FnG P w K mg base 5 T.f_law_asked T.d_law_asked p_law_asked (spD K ([0], []) 5 sp_law_asked)) (h : ∀ (args : List Sl) (Q : Sl → (Nat → Option Sl) → Prop), args.length = 1 → sp_law_apart args Q → t_law_apart { nx := fun env => Q (.d .none) (osOf env), rt := fun r env => Q r (osOf env) } (startE 5 args)) : FnG P w K mg base 6 T.f_law_apart T.d_law_apart p_law_apart (spD K ([0], []) 1 sp_law_apart) := by
  refine fndG T.D_law_apart sc_law_apart rfl fun cdv A outer s H E hr hgd => ⟨t_law_apart, ?_, h⟩
  have nd := sc_law_apart.nd
  exact (psds_cons (psd_setD (i := 1) nd rfl (by first | exact Or.inl rfl | exact Or.inr rfl) (pd_callG G_law_pick ⟨hr.mono (by decide), hgd⟩ (by rfl) T.g_law_pick T.D_law_pick.kp T.b_law_pick (pda_cons (pdv 0) (pda_cons (pd_lst (pda_cons pd_int (pda_cons pd_int (pda_cons pd_int (pda_cons (pd_op od_add pd_int (pd_callG G_law_draw ⟨hr.mono (by decide), hgd⟩ (by rfl) T.g_law_draw T.D_law_draw.kp T.b_law_draw (pda_cons (pdv 0) (pda_cons pd_int pda_nil)))) pda_nil))))) pda_nil))))
      (psds_cons (psd_setD (i := 2) nd rfl (by first | exact Or.inl rfl | exact Or.inr rfl) (pd_callG G_law_pick ⟨hr.mono (by decide), hgd⟩ (by rfl) T.g_law_pick T.D_law_pick.kp T.b_law_pick (pda_cons (pdv 0) (pda_cons (pd_lst (pda_cons pd_int (pda_cons pd_int (pda_cons pd_int (pda_cons pd_int (pda_cons (pd_callG G_law_draw ⟨hr.mono (by decide), hgd⟩ (by rfl) T.g_law_draw T.D_law_draw.kp T.b_law_draw (pda_cons (pdv 0) (pda_cons pd_int pda_nil))) pda_nil)))))) pda_nil))))
      (psds_cons (psd_setD (i := 3) nd rfl (by first | exact Or.inl rfl | exact Or.inr rfl) (pd_op od_add (pdv 1) (pd_op od_mul pd_int (pdv 2))))
      (psds_cons (psd_setD (i := 4) nd rfl (by first | exact Or.inl rfl | exact Or.inr rfl) (pd_callG G_law_pick ⟨hr.mono (by decide), hgd⟩ (by rfl) T.g_law_pick T.D_law_pick.kp T.b_law_pick (pda_cons (pdv 0) (pda_cons (pd_lst (pda_cons (pd_op od_sub (pdv 3) pd_int) (pda_cons (pd_op od_sub (pdv 3) pd_int) (pda_cons (pdv 3) (pda_cons (pdv 3) (pda_cons (pd_op od_add (pdv 3) pd_int) (pda_cons (pd_callB (bd_max2 rfl) rfl T.n_max bt_max (pda_cons (pd_op od_sub (pdv 3) pd_int) (pda_cons pd_int pda_nil))) (pda_cons pd_int (pda_cons (pd_callG G_law_draw ⟨hr.mono (by decide), hgd⟩ (by rfl) T.g_law_draw T.D_law_draw.kp T.b_law_draw (pda_cons (pdv 0) (pda_cons (pd_op od_add (pdv 3) pd_int) pda_nil))) (pda_cons pd_int pda_nil)))))))))) pda_nil))))
      (psds_one (psd_ret (pd_callG G_law_asked ⟨hr.mono (by decide), hgd⟩ (by rfl) T.g_law_asked T.D_law_asked.kp T.b_law_asked (pda_cons (pdv 0) (pda_cons (pdv 1) (pda_cons (pdv 2) (pda_cons (pdv 4) (pda_cons (pd_cmp (od_eq (u64 hr)) (pd_callG G_law_draw ⟨hr.mono (by decide), hgd⟩ (by rfl) T.g_law_draw T.D_law_draw.kp T.b_law_draw (pda_cons (pdv 0) (pda_cons pd_int pda_nil))) pd_int) pda_nil))))))))))))
theorem ok_law (T : Tx K mg) (G_law_tape : FnG P w K mg base 1 T.f_law_tape T.d_law_tape p_law_tape (spD K ([], []) 1 sp_law_tape)) (G_law_names : FnG P w K mg base 3 T.f_law_names T.d_law_names p_law_names (spD K ([0], []) 1 sp_law_names)) (G_law_timeline : FnG P w K mg base 3 T.f_law_timeline T.d_law_timeline p_law_timeline (spD K ([0], []) 2 sp_law_timeline)) (G_law_moved : FnG P w K mg base 3 T.f_law_moved T.d_law_moved p_law_moved (spD K ([0], []) 3 sp_law_moved)) (G_law_strays : FnG P w K mg base 3 T.f_law_strays T.d_law_strays p_law_strays (spD K ([0], []) 2 sp_law_strays)) (G_law_apart : FnG P w K mg base 6 T.f_law_apart T.d_law_apart p_law_apart (spD K ([0], []) 1 sp_law_apart)) (h : ∀ (args : List Sl) (Q : Sl → (Nat → Option Sl) → Prop), args.length = 1 → sp_law args Q → t_law { nx := fun env => Q (.d .none) (osOf env), rt := fun r env => Q r (osOf env) } (startE 5 args)) : FnG P w K mg base 7 T.f_law T.d_law p_law (spD K ([], []) 1 sp_law) := by
  refine fndG T.D_law sc_law rfl fun cdv A outer s H E hr hgd => ⟨t_law, ?_, h⟩
  have nd := sc_law.nd
  exact (psds_cons (psd_set (i := 1) nd rfl (by first | exact Or.inl rfl | exact Or.inr rfl) (pd_callG G_law_tape ⟨hr.mono (by decide), hgd⟩ (by rfl) T.g_law_tape T.D_law_tape.kp T.b_law_tape (pda_cons (pdv 0) pda_nil)))
      (psds_cons (psd_if (pdt_not (pdt_val (pd_callG G_law_apart ⟨hr.mono (by decide), hgd⟩ (by rfl) T.g_law_apart T.D_law_apart.kp T.b_law_apart (pda_cons (pdv 1) pda_nil)))) (psds_one (psd_ret pd_bl)) psds_nil)
      (psds_cons (psd_setD (i := 2) nd rfl (by first | exact Or.inl rfl | exact Or.inr rfl) (pd_callG G_law_names ⟨hr.mono (by decide), hgd⟩ (by rfl) T.g_law_names T.D_law_names.kp T.b_law_names (pda_cons (pdv 1) pda_nil)))
      (psds_cons (psd_setD (i := 3) nd rfl (by first | exact Or.inl rfl | exact Or.inr rfl) (pd_callG G_law_timeline ⟨hr.mono (by decide), hgd⟩ (by rfl) T.g_law_timeline T.D_law_timeline.kp T.b_law_timeline (pda_cons (pdv 1) (pda_cons (pdv 2) pda_nil))))
      (psds_cons (psd_for PassesOwn.never rfl (pdi_seq (pd_lst (pda_cons (pdv 3) (pda_cons (pd_callG G_law_moved ⟨hr.mono (by decide), hgd⟩ (by rfl) T.g_law_moved T.D_law_moved.kp T.b_law_moved (pda_cons (pdv 1) (pda_cons (pdv 3) (pda_cons (pdv 2) pda_nil)))) (pda_cons (pdv 3) pda_nil))))) (pdg_name (i := 4) nd rfl (by first | exact Or.inl rfl | exact Or.inr rfl)) (psds_one (psd_if (pdt_not (pdt_val (pd_callG G_law_strays ⟨hr.mono (by decide), hgd⟩ (by rfl) T.g_law_strays T.D_law_strays.kp T.b_law_strays (pda_cons (pdv 1) (pda_cons (pdv 4) pda_nil))))) (psds_one (psd_ret pd_bl)) psds_nil)))
      (psds_one (psd_ret (pd_callG G_law_apart ⟨hr.mono (by decide), hgd⟩ (by rfl) T.g_law_apart T.D_law_apart.kp T.b_law_apart (pda_cons (pdv 1) pda_nil)))))))))
end
end Dlk51

set_option Elab.async false
set_option linter.all false
set_option maxRecDepth 100000
set_option maxHeartbeats 4000000
set_option autoImplicit false
namespace Dlk51
open PySem PySem.Spec L2 DL
local macro_rules | `(tactic| walk_at "go") => `(tactic| simp only [outE_i, outE_n, sz0, sz1, sz2, sz3, sz4, sz5, sz6, sz7, sz8, sz9, sz10, sz11, sz12, sz13, sz14, sz15, sz16, ↓tdFr, ↓frE, ↓rdDivmod, ↓rdNotIn, ↓tdTru, ↓startE, ↓tdSeq, ↓tdSet, ↓tdSetD, ↓tdDrop, ↓tdRet, ↓tdIfS, ↓tdNext, ↓tdAsg, ↓tdV, ↓tdC, ↓tdBin, ↓tdB, ↓tdCons, ↓tdNil, ↓tdTup, ↓tdLst, ↓tdTest, ↓tdAnd, ↓tdOr, ↓tdNot, ↓tdIf, ↓tdAndV, ↓tdOrV, ↓tdNotV, ↓tdNeg, ↓tdIsN, ↓tdNotN, ↓tdSl, ↓tdPart, ↓tdNoPart, ↓tdM, ↓tdSetIx, ↓tdAug, ↓tdPut, ↓tdGet2, ↓tdIsi, ↓tdListRg, ↓gdName, ↓gdNil, ↓gdCons, ↓gdTup, ↓tdIt, ↓tdRng1, ↓tdRng2, ↓tdCall, ↓tdNew, ↓tdJoin, ↓gcName, ↓gcNil, ↓gcCons, ↓gcTup, ↓tdYes, ↓res, ↓resR, ↓resAll, ↓rvD, ↓rdLen, ↓rdInt, ↓rdAbs, ↓rdMax2, ↓rdMin2, ↓rdOrd, ↓rdTuple, ↓rdList, ↓rdIx, ↓rdAdd, ↓rdSub, ↓rdMul, ↓rdMod, ↓rdDiv, ↓rdPow, ↓rdCmp, ↓rdEq, ↓rdNe, ↓rdIadd, ↓rdIn, ↓rdSorted, ↓rdSl, ↓isT, ↓rdAppend, ↓itemsOf, ↓rvOf, ↓argsOf, ↓argOf, Nat.reduceAdd, Nat.reduceLT, Nat.reduceSub, Int.reduceLT, Int.reduceLE, Int.reduceAdd, Int.reduceEq, Int.reduceNeg, Nat.reduceLeDiff, Nat.zero_add, Nat.reduceEqDiff, Nat.reduceBEq, ix41, ix42, ix43, ix40, List.length_cons, List.length_nil, List.map_cons, List.map_nil, List.replicate, List.cons_append, List.nil_append, List.getElem?_cons_zero, List.getElem?_cons_succ, List.set_cons_zero, List.set_cons_succ, Option.map_some, at0, at1, at2, at3, ix0, ix1, ix2, ix3, sh_int, sh_bl, sh_non, eqv_int, eqv_bl, eqv_str, decide_eq_true_eq, Bool.not_eq_true, Bool.not_true, Bool.not_false, Bool.false_eq_true, true_and, and_true, if_true, if_false, ite_true, ite_false, List.length_map, List.length_set, Sl.isD, List.mem_singleton, List.mem_cons, List.not_mem_nil, not_true_eq_false, not_false_eq_true, or_false])
local macro_rules | `(tactic| nomatch $xs,*) => `(tactic| simp only [$[$xs:term],*, outE_i, outE_n, sz0, sz1, sz2, sz3, sz4, sz5, sz6, sz7, sz8, sz9, sz10, sz11, sz12, sz13, sz14, sz15, sz16, ↓tdFr, ↓frE, ↓rdDivmod, ↓rdNotIn, ↓tdTru, ↓startE, ↓tdSeq, ↓tdSet, ↓tdSetD, ↓tdDrop, ↓tdRet, ↓tdIfS, ↓tdNext, ↓tdAsg, ↓tdV, ↓tdC, ↓tdBin, ↓tdB, ↓tdCons, ↓tdNil, ↓tdTup, ↓tdLst, ↓tdTest, ↓tdAnd, ↓tdOr, ↓tdNot, ↓tdIf, ↓tdAndV, ↓tdOrV, ↓tdNotV, ↓tdNeg, ↓tdIsN, ↓tdNotN, ↓tdSl, ↓tdPart, ↓tdNoPart, ↓tdM, ↓tdSetIx, ↓tdAug, ↓tdPut, ↓tdGet2, ↓tdIsi, ↓tdListRg, ↓gdName, ↓gdNil, ↓gdCons, ↓gdTup, ↓tdIt, ↓tdRng1, ↓tdRng2, ↓tdCall, ↓tdNew, ↓tdJoin, ↓gcName, ↓gcNil, ↓gcCons, ↓gcTup, ↓tdYes, ↓res, ↓resR, ↓resAll, ↓rvD, ↓rdLen, ↓rdInt, ↓rdAbs, ↓rdMax2, ↓rdMin2, ↓rdOrd, ↓rdTuple, ↓rdList, ↓rdIx, ↓rdAdd, ↓rdSub, ↓rdMul, ↓rdMod, ↓rdDiv, ↓rdPow, ↓rdCmp, ↓rdEq, ↓rdNe, ↓rdIadd, ↓rdIn, ↓rdSorted, ↓rdSl, ↓isT, ↓rdAppend, ↓itemsOf, ↓rvOf, ↓argsOf, ↓argOf, Nat.reduceAdd, Nat.reduceLT, Nat.reduceSub, Int.reduceLT, Int.reduceLE, Int.reduceAdd, Int.reduceEq, Int.reduceNeg, Nat.reduceLeDiff, Nat.zero_add, Nat.reduceEqDiff, Nat.reduceBEq, ix41, ix42, ix43, ix40, List.length_cons, List.length_nil, List.map_cons, List.map_nil, List.replicate, List.cons_append, List.nil_append, List.getElem?_cons_zero, List.getElem?_cons_succ, List.set_cons_zero, List.set_cons_succ, Option.map_some, at0, at1, at2, at3, ix0, ix1, ix2, ix3, sh_int, sh_bl, sh_non, eqv_int, eqv_bl, eqv_str, decide_eq_true_eq, Bool.not_eq_true, Bool.not_true, Bool.not_false, Bool.false_eq_true, true_and, and_true, if_true, if_false, ite_true, ite_false, List.length_map, List.length_set, Sl.isD, List.mem_singleton, List.mem_cons, List.not_mem_nil, not_true_eq_false, not_false_eq_true, or_false])
/-! ### mathematics -/
theorem ex_le {tl : Tl} {r r' : Int} (h : IsEx tl r) (h' : IsEx tl r') : r' ≤ r := by
  refine Int.not_lt.mp fun c => ?_
  rcases h'.2.2 with e | e
  · have := h.1; omega
  · exact e (h.2.1.imp fun {a b} z => by omega)
theorem ex_uniq {tl : Tl} {r r' : Int} (h : IsEx tl r) (h' : IsEx tl r') : r = r' := by
  have := ex_le h h'
  have := ex_le h' h
  omega
theorem ex_nil : IsEx [] 0 := ⟨Int.le_refl _, .nil, .inl rfl⟩
theorem pw_snoc {R : Str × Int → Str × Int → Prop} {P : Tl} {e : Str × Int} : (P ++ [e]).Pairwise R ↔ P.Pairwise R ∧ ∀ a ∈ P, R a e := by
  rw [List.pairwise_append]
  simp
theorem ex_snoc {P : Tl} {e : Str × Int} {f f' : Int} (h : IsEx P f) (hf : f ≤ f') (ha : ∀ a ∈ P, a.2 - e.2 ≤ f') (hw : f' = f ∨ ∃ a ∈ P, f' = a.2 - e.2) : IsEx (P ++ [e]) f' := by
  have h0 := h.1
  refine ⟨by omega, pw_snoc.mpr ⟨h.2.1.imp fun {a b} z => by omega, ha⟩, ?_⟩
  rcases hw with rfl | ⟨a, ha, e1⟩
  · rcases h.2.2 with z | z
    · exact .inl z
    · exact .inr fun q => z (pw_snoc.mp q).1
  · refine .inr fun q => ?_
    have := (pw_snoc.mp q).2 a ha
    omega
theorem take_snoc {tl : Tl} {i : Nat} {e : Str × Int} (h : tl[i]? = some e) : tl.take (i + 1) = tl.take i ++ [e] := by
  rw [List.take_add_one, h]; rfl
theorem mono_snoc {P : Tl} {e : Str × Int} : Mono (P ++ [e]) ↔ Mono P ∧ ∀ a ∈ P, a.1 = e.1 → a.2 ≤ e.2 := pw_snoc
theorem mono_take {tl : Tl} (h : Mono tl) (i : Nat) : Mono (tl.take i) := List.Pairwise.sublist (List.take_sublist _ _) h
theorem pw_take {R : Str × Int → Str × Int → Prop} {tl : Tl} (h : tl.Pairwise R) (i : Nat) : (tl.take i).Pairwise R := List.Pairwise.sublist (List.take_sublist _ _) h
theorem ex_kept {tl : Tl} {r skew : Int} (h : IsEx tl r) (h0 : 0 ≤ skew) : tl.Pairwise (fun a b => a.2 - b.2 ≤ skew) ↔ r ≤ skew := by
  refine ⟨fun q => Int.not_lt.mp fun c => ?_, fun q => h.2.1.imp fun {a b} z => by omega⟩
  rcases h.2.2 with e | e
  · omega
  · exact e (q.imp fun {a b} z => by omega)
theorem evD_eq (e : Str × Int) : evD e = .tuple [.str e.1, .int e.2] := rfl
theorem iff_b {p : Prop} {b c : Bool} (h : b = true ↔ p) (h2 : c = true ↔ p) : b = c := by
  cases b <;> cases c <;> simp_all
section
variable {args : List Sl} {Q : Sl → (Nat → Option Sl) → Prop}
theorem h_stray (hl : args.length = 1) (h : sp_stray args Q) : t_stray (KD Q) (startE 5 args) := by
  obtain ⟨tl, rfl, hT, k⟩ := h
  unfold t_stray
  refine seq_i fun Kc hK => ?_
  walk_at "go"
  subst hK
  refine seq_i fun Kc hK => ?_
  walk_at "go"
  subst hK
  refine seq_i fun Kc hK => ?_
  refine for_i fun Kx hKx => ?_
  unfold tlD
  walk_at "go"
  refine hKx _ _ ⟨fun i env => ∃ g f x3 x4, env = [some (.d (tlD tl)), some (.d (.int (g))), some (.d (.int (f))), x3, x4] ∧ 0 ≤ g ∧ (∀ a ∈ tl.take i, a.2 ≤ g) ∧ (g = 0 ∨ ∃ a ∈ tl.take i, a.2 = g) ∧ IsEx (tl.take i) f, ⟨0, 0, none, none, rfl, Int.le_refl _, fun a ha => by simp at ha, .inl rfl, ex_nil⟩, fun i x env hx hP => ?_, fun env hP => ?_⟩
  · obtain ⟨g, f, x3, x4, rfl, h0, h1, h2, h3⟩ := hP
    rw [List.getElem?_map] at hx
    obtain ⟨e, he, rfl⟩ := Option.map_eq_some_iff.mp hx
    have e0 := (hT.2 e (List.mem_of_getElem? he)).2.1
    nomatch evD_eq
    refine ⟨_, _, _, _, rfl, by split <;> omega, ?_, ?_, ?_⟩
    · rw [take_snoc he]
      intro a ha
      rcases List.mem_append.mp ha with q | q
      · have := h1 a q
        split <;> omega
      · rw [List.mem_singleton.mp q]
        split <;> omega
    · rw [take_snoc he]
      split
      · exact .inr ⟨e, by simp, rfl⟩
      · rcases h2 with z | ⟨a, ha, z⟩
        · exact .inl z
        · exact .inr ⟨a, List.mem_append_left _ ha, z⟩
    · rw [take_snoc he]
      have f0 := h3.1
      refine ex_snoc h3 (by repeat' split
                            all_goals omega) (fun a ha => ?_) ?_
      · have := h1 a ha
        repeat' split
        all_goals omega
      · by_cases c1 : e.2 > g
        · rw [if_pos c1, if_neg (by omega)]
          exact .inl rfl
        · rw [if_neg c1]
          by_cases c2 : g - e.2 > f
          · rw [if_pos c2]
            rcases h2 with z | ⟨a, ha, z⟩
            · omega
            · exact .inr ⟨a, ha, by omega⟩
          · rw [if_neg c2]
            exact .inl rfl
  · obtain ⟨g, f, x3, x4, rfl, h0, h1, h2, h3⟩ := hP
    rw [List.length_map, List.take_length] at h3
    subst hK
    walk_at "go"
    exact k _ _ h3
theorem h_goes_back (hl : args.length = 1) (h : sp_goes_back args Q) : t_goes_back (KD Q) (startE 4 args) := by
  obtain ⟨tl, rfl, hT, k⟩ := h
  unfold t_goes_back
  refine seq_i fun Kc hK => ?_
  walk_at "go"
  subst hK
  refine seq_i fun Kc hK => ?_
  refine for_i fun Kx hKx => ?_
  unfold tlD
  walk_at "go"
  refine hKx _ _ ⟨fun i env => ∃ kvs x2 x3, env = [some (.d (tlD tl)), some (.m kvs), x2, x3] ∧ kvs.length ≤ i ∧ Mono (tl.take i) ∧ ∀ h : Str, ∃ m : Int, (valD kvs (.inr h)).getD (.int 0) = .int m ∧ (∀ a ∈ tl.take i, a.1 = h → a.2 ≤ m) ∧ (m = 0 ∨ ∃ a ∈ tl.take i, a.1 = h ∧ a.2 = m), ⟨[], none, none, rfl, Nat.le_refl _, .nil, fun h => ⟨0, rfl, fun a ha => by simp at ha, .inl rfl⟩⟩, fun i x env hx hP => ?_, fun env hP => ?_⟩
  · obtain ⟨kvs, x2, x3, rfl, h0, h1, h2⟩ := hP
    rw [List.getElem?_map] at hx
    obtain ⟨e, he, rfl⟩ := Option.map_eq_some_iff.mp hx
    have e0 := (hT.2 e (List.mem_of_getElem? he)).2.1
    have hi := (List.getElem?_eq_some_iff.mp he).1
    have hn : tl.length ≤ 20 := hT.1
    obtain ⟨m, hm, m1, m2⟩ := h2 e.1
    by_cases c : e.2 < m
    · nomatch evD_eq, keyD, hm, c
      refine k true _ ⟨fun _ hmono => ?_, fun _ => rfl⟩
      rcases m2 with z | ⟨a, ha, z1, z2⟩
      · omega
      · have := mono_take hmono (i + 1)
        rw [take_snoc he] at this
        have := (mono_snoc.mp this).2 a ha z1
        omega
    · nomatch evD_eq, keyD, hm, c
      refine ⟨small_of (n := kvs.length + 1) (by omega), _, _, _, rfl, Nat.le_trans (put_len _ _ _) (by omega), ?_, fun h => ?_⟩
      · rw [take_snoc he]
        refine mono_snoc.mpr ⟨h1, fun a ha hh => ?_⟩
        have := m1 a ha hh
        omega
      · rw [valD_put, take_snoc he]
        by_cases d : h = e.1
        · subst d
          rw [if_pos rfl]
          refine ⟨e.2, rfl, fun a ha hh => ?_, .inr ⟨e, by simp, rfl, rfl⟩⟩
          rcases List.mem_append.mp ha with q | q
          · have := m1 a q hh; omega
          · rw [List.mem_singleton.mp q]; exact Int.le_refl _
        · rw [if_neg fun z => d (by injection z)]
          obtain ⟨m', hm', m1', m2'⟩ := h2 h
          refine ⟨m', hm', fun a ha hh => ?_, m2'.imp id fun ⟨a, ha, z⟩ => ⟨a, List.mem_append_left _ ha, z⟩⟩
          rcases List.mem_append.mp ha with q | q
          · exact m1' a q hh
          · rw [List.mem_singleton.mp q] at hh; exact absurd hh.symm d
  · obtain ⟨kvs, x2, x3, rfl, h0, h1, h2⟩ := hP
    rw [List.length_map, List.take_length] at h1
    subst hK
    walk_at "go"
    exact k false _ ⟨fun z => Bool.noConfusion z, fun z => absurd h1 z⟩
theorem h_least_tick (hl : args.length = 3) (h : sp_least_tick args Q) : t_least_tick (KD Q) (startE 6 args) := by
  obtain ⟨tl, skew, host, rfl, ⟨hT, hh⟩, k⟩ := h
  unfold t_least_tick
  refine seq_i fun Kc hK => ?_
  walk_at "go"
  subst hK
  refine seq_i fun Kc hK => ?_
  refine for_i fun Kx hKx => ?_
  unfold tlD
  walk_at "go"
  refine hKx _ _ ⟨fun i env => ∃ x4 x5, env = [some (.d (tlD tl)), some (.d (.int (skew))), some (.d (.str host)), some (.d (.int ((tl.take i).foldl (leastN skew host) 0))), x4, x5], ⟨none, none, rfl⟩, fun i x env hx hP => ?_, fun env hP => ?_⟩
  · obtain ⟨x4, x5, rfl⟩ := hP
    rw [List.getElem?_map] at hx
    obtain ⟨e, he, rfl⟩ := Option.map_eq_some_iff.mp hx
    have s1 := sh_str (hT e (List.mem_of_getElem? he))
    have s2 := sh_str hh
    have hst := fold_at (leastN skew host) 0 _ _ _ he
    generalize (tl.take i).foldl (leastN skew host) 0 = m at hst
    rw [show leastN skew host m e = if e.1 = host then (if e.2 > m then e.2 else m) else (if e.2 - skew > m then e.2 - skew else m) from rfl] at hst
    by_cases c : e.1 = host
    · rw [if_pos c] at hst
      rw [c] at s1
      nomatch evD_eq, s1, s2, c
      rw [hst]
      exact ⟨_, _, rfl⟩
    · rw [if_neg c] at hst
      nomatch evD_eq, s1, s2, c
      rw [hst]
      exact ⟨_, _, rfl⟩
  · obtain ⟨x4, x5, rfl⟩ := hP
    rw [List.length_map, List.take_length]
    subst hK
    walk_at "go"
    exact k _
theorem h_hosts_of (hl : args.length = 1) (h : sp_hosts_of args Q) : t_hosts_of (KD Q) (startE 3 args) := by
  obtain ⟨tl, rfl, hT, k⟩ := h
  unfold t_hosts_of
  walk_at "go"
  refine lc_map tl evD (fun e => .str e.1) (fun R hR => ?_) (small_of hT) (by simp [noOwn]) (fun x hx A B hA hB => ?_) ?_
  · unfold tlD
    walk_at "go"
    exact hR
  · nomatch wipeE, mergeE, evD_eq
    exact ⟨hA, hB⟩
  · walk_at "go"
    exact k _
theorem h_law_hosts (hl : args.length = 1) (h : sp_law_hosts args Q) : t_law_hosts (KD Q) (startE 2 args) := by
  obtain ⟨tl, rfl, hT, k⟩ := h
  unfold t_law_hosts
  walk_at "go"
  refine lc_map tl evD (fun e => .str e.1) (fun R hR => ?_) (small_of hT) (by simp [noOwn]) (fun x hx A B hA hB => ?_) ?_
  · unfold tlD
    walk_at "go"
    exact hR
  · nomatch wipeE, mergeE, evD_eq
    exact ⟨hA, hB⟩
  · walk_at "go"
    exact k _
theorem h_law_k_alike (hl : args.length = 2) (h : sp_law_k_alike args Q) : t_law_k_alike (KD Q) (startE 2 args) := by
  obtain ⟨x, rfl, ⟨h1, h2⟩, k⟩ := h
  have e1 : PyData.eqv x x = true := SeqAt.eqv_refl x (SeqAt.canLay_of_shaped h1)
  have e2 : ∀ (z : Str) (Q : Rv → Prop), rdEqS (.str z) (.str z) Q = Q (.d (.bool true)) := fun z Q => by
    show Q (.d (.bool (decide (z = z)))) = _
    rw [decide_eq_true rfl]
  have e3 : ∀ (Q : Rv → Prop), rdEqS x x Q = Q (.d (.bool true)) := fun Q => by
    unfold rdEqS
    split
    · rw [decide_eq_true rfl]
    · unfold rdEq
      rw [h1, e1]
      simp
  unfold t_law_k_alike
  simp only [e3, e2, ↓rdRepr, h2, outE_i, outE_n, sz0, sz1, sz2, sz3, sz4, sz5, sz6, sz7, sz8, sz9, sz10, sz11, sz12, sz13, sz14, sz15, sz16, ↓tdFr, ↓frE, ↓rdDivmod, ↓rdNotIn, ↓tdTru, ↓startE, ↓tdSeq, ↓tdSet, ↓tdSetD, ↓tdDrop, ↓tdRet, ↓tdIfS, ↓tdNext, ↓tdAsg, ↓tdV, ↓tdC, ↓tdBin, ↓tdB, ↓tdCons, ↓tdNil, ↓tdTup, ↓tdLst, ↓tdTest, ↓tdAnd, ↓tdOr, ↓tdNot, ↓tdIf, ↓tdAndV, ↓tdOrV, ↓tdNotV, ↓tdNeg, ↓tdIsN, ↓tdNotN, ↓tdSl, ↓tdPart, ↓tdNoPart, ↓tdM, ↓tdSetIx, ↓tdAug, ↓tdPut, ↓tdGet2, ↓tdIsi, ↓tdListRg, ↓gdName, ↓gdNil, ↓gdCons, ↓gdTup, ↓tdIt, ↓tdRng1, ↓tdRng2, ↓tdCall, ↓tdNew, ↓tdJoin, ↓gcName, ↓gcNil, ↓gcCons, ↓gcTup, ↓tdYes, ↓res, ↓resR, ↓resAll, ↓rvD, ↓rdLen, ↓rdInt, ↓rdAbs, ↓rdMax2, ↓rdMin2, ↓rdOrd, ↓rdTuple, ↓rdList, ↓rdIx, ↓rdAdd, ↓rdSub, ↓rdMul, ↓rdMod, ↓rdDiv, ↓rdPow, ↓rdCmp, ↓rdEq, ↓rdNe, ↓rdIadd, ↓rdIn, ↓rdSorted, ↓rdSl, ↓isT, ↓rdAppend, ↓itemsOf, ↓rvOf, ↓argsOf, ↓argOf, Nat.reduceAdd, Nat.reduceLT, Nat.reduceSub, Int.reduceLT, Int.reduceLE, Int.reduceAdd, Int.reduceEq, Int.reduceNeg, Nat.reduceLeDiff, Nat.zero_add, Nat.reduceEqDiff, Nat.reduceBEq, ix41, ix42, ix43, ix40, List.length_cons, List.length_nil, List.map_cons, List.map_nil, List.replicate, List.cons_append, List.nil_append, List.getElem?_cons_zero, List.getElem?_cons_succ, List.set_cons_zero, List.set_cons_succ, Option.map_some, at0, at1, at2, at3, ix0, ix1, ix2, ix3, sh_int, sh_bl, sh_non, eqv_int, eqv_bl, eqv_str, decide_eq_true_eq, Bool.not_eq_true, Bool.not_true, Bool.not_false, Bool.false_eq_true, true_and, and_true, if_true, if_false, ite_true, ite_false, List.length_map, List.length_set, Sl.isD, List.mem_singleton, List.mem_cons, List.not_mem_nil, not_true_eq_false, not_false_eq_true, or_false]
  exact k _
end
end Dlk51

set_option Elab.async false
set_option linter.all false
set_option maxRecDepth 100000
set_option maxHeartbeats 4000000
set_option autoImplicit false
namespace Dlk51
open PySem PySem.Spec L2 DL
local macro_rules | `(tactic| walk_at "go") => `(tactic| simp only [outE_i, outE_n, sz0, sz1, sz2, sz3, sz4, sz5, sz6, sz7, sz8, sz9, sz10, sz11, sz12, sz13, sz14, sz15, sz16, ↓tdFr, ↓frE, ↓rdDivmod, ↓rdNotIn, ↓tdTru, ↓startE, ↓tdSeq, ↓tdSet, ↓tdSetD, ↓tdDrop, ↓tdRet, ↓tdIfS, ↓tdNext, ↓tdAsg, ↓tdV, ↓tdC, ↓tdBin, ↓tdB, ↓tdCons, ↓tdNil, ↓tdTup, ↓tdLst, ↓tdTest, ↓tdAnd, ↓tdOr, ↓tdNot, ↓tdIf, ↓tdAndV, ↓tdOrV, ↓tdNotV, ↓tdNeg, ↓tdIsN, ↓tdNotN, ↓tdSl, ↓tdPart, ↓tdNoPart, ↓tdM, ↓tdSetIx, ↓tdAug, ↓tdPut, ↓tdGet2, ↓tdIsi, ↓tdListRg, ↓gdName, ↓gdNil, ↓gdCons, ↓gdTup, ↓tdIt, ↓tdRng1, ↓tdRng2, ↓tdCall, ↓tdNew, ↓tdJoin, ↓gcName, ↓gcNil, ↓gcCons, ↓gcTup, ↓tdYes, ↓res, ↓resR, ↓resAll, ↓rvD, ↓rdLen, ↓rdInt, ↓rdAbs, ↓rdMax2, ↓rdMin2, ↓rdOrd, ↓rdTuple, ↓rdList, ↓rdIx, ↓rdAdd, ↓rdSub, ↓rdMul, ↓rdMod, ↓rdDiv, ↓rdPow, ↓rdCmp, ↓rdEq, ↓rdNe, ↓rdIadd, ↓rdIn, ↓rdSorted, ↓rdSl, ↓isT, ↓rdAppend, ↓itemsOf, ↓rvOf, ↓argsOf, ↓argOf, Nat.reduceAdd, Nat.reduceLT, Nat.reduceSub, Int.reduceLT, Int.reduceLE, Int.reduceAdd, Int.reduceEq, Int.reduceNeg, Nat.reduceLeDiff, Nat.zero_add, Nat.reduceEqDiff, Nat.reduceBEq, ix41, ix42, ix43, ix40, List.length_cons, List.length_nil, List.map_cons, List.map_nil, List.replicate, List.cons_append, List.nil_append, List.getElem?_cons_zero, List.getElem?_cons_succ, List.set_cons_zero, List.set_cons_succ, Option.map_some, at0, at1, at2, at3, ix0, ix1, ix2, ix3, sh_int, sh_bl, sh_non, eqv_int, eqv_bl, eqv_str, decide_eq_true_eq, Bool.not_eq_true, Bool.not_true, Bool.not_false, Bool.false_eq_true, true_and, and_true, if_true, if_false, ite_true, ite_false, List.length_map, List.length_set, Sl.isD, List.mem_singleton, List.mem_cons, List.not_mem_nil, not_true_eq_false, not_false_eq_true, or_false])
local macro_rules | `(tactic| nomatch $xs,*) => `(tactic| simp only [$[$xs:term],*, outE_i, outE_n, sz0, sz1, sz2, sz3, sz4, sz5, sz6, sz7, sz8, sz9, sz10, sz11, sz12, sz13, sz14, sz15, sz16, ↓tdFr, ↓frE, ↓rdDivmod, ↓rdNotIn, ↓tdTru, ↓startE, ↓tdSeq, ↓tdSet, ↓tdSetD, ↓tdDrop, ↓tdRet, ↓tdIfS, ↓tdNext, ↓tdAsg, ↓tdV, ↓tdC, ↓tdBin, ↓tdB, ↓tdCons, ↓tdNil, ↓tdTup, ↓tdLst, ↓tdTest, ↓tdAnd, ↓tdOr, ↓tdNot, ↓tdIf, ↓tdAndV, ↓tdOrV, ↓tdNotV, ↓tdNeg, ↓tdIsN, ↓tdNotN, ↓tdSl, ↓tdPart, ↓tdNoPart, ↓tdM, ↓tdSetIx, ↓tdAug, ↓tdPut, ↓tdGet2, ↓tdIsi, ↓tdListRg, ↓gdName, ↓gdNil, ↓gdCons, ↓gdTup, ↓tdIt, ↓tdRng1, ↓tdRng2, ↓tdCall, ↓tdNew, ↓tdJoin, ↓gcName, ↓gcNil, ↓gcCons, ↓gcTup, ↓tdYes, ↓res, ↓resR, ↓resAll, ↓rvD, ↓rdLen, ↓rdInt, ↓rdAbs, ↓rdMax2, ↓rdMin2, ↓rdOrd, ↓rdTuple, ↓rdList, ↓rdIx, ↓rdAdd, ↓rdSub, ↓rdMul, ↓rdMod, ↓rdDiv, ↓rdPow, ↓rdCmp, ↓rdEq, ↓rdNe, ↓rdIadd, ↓rdIn, ↓rdSorted, ↓rdSl, ↓isT, ↓rdAppend, ↓itemsOf, ↓rvOf, ↓argsOf, ↓argOf, Nat.reduceAdd, Nat.reduceLT, Nat.reduceSub, Int.reduceLT, Int.reduceLE, Int.reduceAdd, Int.reduceEq, Int.reduceNeg, Nat.reduceLeDiff, Nat.zero_add, Nat.reduceEqDiff, Nat.reduceBEq, ix41, ix42, ix43, ix40, List.length_cons, List.length_nil, List.map_cons, List.map_nil, List.replicate, List.cons_append, List.nil_append, List.getElem?_cons_zero, List.getElem?_cons_succ, List.set_cons_zero, List.set_cons_succ, Option.map_some, at0, at1, at2, at3, ix0, ix1, ix2, ix3, sh_int, sh_bl, sh_non, eqv_int, eqv_bl, eqv_str, decide_eq_true_eq, Bool.not_eq_true, Bool.not_true, Bool.not_false, Bool.false_eq_true, true_and, and_true, if_true, if_false, ite_true, ite_false, List.length_map, List.length_set, Sl.isD, List.mem_singleton, List.mem_cons, List.not_mem_nil, not_true_eq_false, not_false_eq_true, or_false])
section
variable {args : List Sl} {Q : Sl → (Nat → Option Sl) → Prop}
theorem at_tl {tl : Tl} {i : Nat} {e : Str × Int} (h : tl[i]? = some e) : atI (tl.map evD) (i : Int) = some (.tuple [.str e.1, .int e.2]) := atI_nat (by rw [List.getElem?_map, h]; rfl)
theorem get_lt {tl : Tl} {i : Nat} (h : i < tl.length) : ∃ e, tl[i]? = some e := ⟨_, List.getElem?_eq_getElem h⟩
theorem h_law_exceeds (hl : args.length = 1) (h : sp_law_exceeds args Q) : t_law_exceeds (KD Q) (startE 4 args) := by
  obtain ⟨tl, rfl, hT, k⟩ := h
  have hn : tl.length ≤ 20 := hT.1
  unfold t_law_exceeds
  refine seq_i fun Kc hK => ?_
  walk_at "go"
  subst hK
  refine seq_i fun Kc hK => ?_
  refine for_i fun Kx hKx => ?_
  unfold tlD
  walk_at "go"
  refine ⟨⟨by omega, by omega⟩, hKx _ _ ⟨fun i env => ∃ r x2 x3, env = [some (.d (tlD tl)), some (.d (.int (r))), x2, x3] ∧ IsEx (tl.take i) r, ⟨0, none, none, rfl, ex_nil⟩, fun j x env hx hP => ?_, fun env hP => ?_⟩⟩
  · obtain ⟨r, x2, x3, rfl, hr⟩ := hP
    obtain ⟨rfl, hj⟩ := rng_at hx
    obtain ⟨e, he⟩ := get_lt (tl := tl) (i := j) (by omega)
    refine ⟨by simp, ?_⟩
    refine for_i fun Kx hKx => ?_
    walk_at "go"
    refine ⟨⟨by omega, by omega⟩, hKx _ _ ⟨fun i env => ∃ r' x3, env = [some (.d (tlD tl)), some (.d (.int (r'))), some (.d (.int (j))), x3] ∧ r ≤ r' ∧ (∀ a ∈ tl.take i, a.2 - e.2 ≤ r') ∧ (r' = r ∨ ∃ a ∈ tl.take j, r' = a.2 - e.2), ⟨r, x3, rfl, Int.le_refl _, fun a ha => by simp at ha, .inl rfl⟩, fun i x env hx hP => ?_, fun env hP => ?_⟩⟩
    · obtain ⟨r', y3, rfl, h1, h2, h3⟩ := hP
      obtain ⟨rfl, hi⟩ := rng_at hx
      obtain ⟨a, ha⟩ := get_lt (tl := tl) (i := i) (by omega)
      have am : a ∈ tl.take j := List.mem_iff_getElem?.mpr ⟨i, by rw [List.getElem?_take, if_pos (by omega)]; exact ha⟩
      unfold tlD
      nomatch at_tl he, at_tl ha
      refine ⟨_, _, rfl, by split <;> omega, fun b hb => ?_, ?_⟩
      · rw [take_snoc ha] at hb
        rcases List.mem_append.mp hb with q | q
        · have := h2 b q
          split <;> omega
        · rw [List.mem_singleton.mp q]
          split <;> omega
      · split
        · exact .inr ⟨a, am, rfl⟩
        · exact h3
    · obtain ⟨r', y3, rfl, h1, h2, h3⟩ := hP
      rw [rng_len, Int.toNat_natCast] at h2
      exact ⟨_, _, _, rfl, by rw [take_snoc he]; exact ex_snoc hr h1 h2 h3⟩
  · obtain ⟨r, x2, x3, rfl, hr⟩ := hP
    rw [rng_len, Int.toNat_natCast, List.take_length] at hr
    subst hK
    walk_at "go"
    exact k _ _ hr
theorem h_law_goes_back (hl : args.length = 1) (h : sp_law_goes_back args Q) : t_law_goes_back (KD Q) (startE 3 args) := by
  obtain ⟨tl, rfl, hT, k⟩ := h
  have hn : tl.length ≤ 20 := hT.1
  unfold t_law_goes_back
  refine seq_i fun Kc hK => ?_
  refine for_i fun Kx hKx => ?_
  unfold tlD
  walk_at "go"
  refine ⟨⟨by omega, by omega⟩, hKx _ _ ⟨fun i env => ∃ x1, env = [some (.d (tlD tl)), x1, none] ∧ Mono (tl.take i), ⟨none, rfl, .nil⟩, fun j x env hx hP => ?_, fun env hP => ?_⟩⟩
  · obtain ⟨x1, rfl, hm⟩ := hP
    obtain ⟨rfl, hj⟩ := rng_at hx
    obtain ⟨e, he⟩ := get_lt (tl := tl) (i := j) (by omega)
    refine ⟨by simp, ?_⟩
    let p : Nat → Bool := fun i => decide (((tl[i]?).getD (e.1, 0)).1 = e.1) && decide (e.2 < ((tl[i]?).getD (e.1, 0)).2)
    walk_at "go"
    refine lc_map (List.range j) (fun i => .int (i : Nat)) (fun i => .bool (p i)) (fun R hR => ?_) (small_of (by rw [List.length_range]; omega)) (by simp [noOwn]) (fun i hx A B hA hB => ?_) ?_
    · walk_at "go"
      exact ⟨⟨by omega, by omega⟩, by rw [rng_map]; exact hR⟩
    · have hi := List.mem_range.mp hx
      obtain ⟨a, ha⟩ := get_lt (tl := tl) (i := i) (by omega)
      have s1 := sh_str (hT.2 a (List.mem_of_getElem? ha)).1.2
      have s2 := sh_str (hT.2 e (List.mem_of_getElem? he)).1.2
      have hp : p i = (decide (a.1 = e.1) && decide (e.2 < a.2)) := by
        show (decide _ && decide _) = _
        rw [ha]; rfl
      rw [hp] at hB
      unfold tlD
      by_cases c : a.1 = e.1
      · rw [decide_eq_true c, Bool.true_and] at hB
        rw [c] at s1
        nomatch wipeE, mergeE, at_tl he, at_tl ha, s1, s2, c
        exact ⟨hA, hB⟩
      · rw [decide_eq_false c, Bool.false_and] at hB
        nomatch wipeE, mergeE, at_tl he, at_tl ha, s1, s2, c
        exact ⟨hA, hB⟩
    · have s3 := (sh_map (fun i => PyData.bool (p i)) (List.range j) fun x _ => lay_bool _).1
      have hany : ((List.range j).any p = true) ↔ ∃ a ∈ tl.take j, a.1 = e.1 ∧ e.2 < a.2 := by
        rw [List.any_eq_true]
        constructor
        · rintro ⟨i, hi, hp⟩
          have hi := List.mem_range.mp hi
          obtain ⟨a, ha⟩ := get_lt (tl := tl) (i := i) (by omega)
          have hp : (decide (((tl[i]?).getD (e.1, 0)).1 = e.1) && decide (e.2 < ((tl[i]?).getD (e.1, 0)).2)) = true := hp
          rw [ha, Bool.and_eq_true, decide_eq_true_eq, decide_eq_true_eq] at hp
          exact ⟨a, List.mem_iff_getElem?.mpr ⟨i, by rw [List.getElem?_take, if_pos hi]; exact ha⟩, hp⟩
        · rintro ⟨a, ha, hp⟩
          obtain ⟨i, hi⟩ := List.mem_iff_getElem?.mp ha
          rw [List.getElem?_take] at hi
          split at hi
          · refine ⟨i, List.mem_range.mpr (by assumption), ?_⟩
            show (decide (((tl[i]?).getD (e.1, 0)).1 = e.1) && decide (e.2 < ((tl[i]?).getD (e.1, 0)).2)) = true
            rw [hi, Bool.and_eq_true, decide_eq_true_eq, decide_eq_true_eq]
            exact hp
          · cases hi
      have ha := any_bools p (List.range j)
      cases hb : (List.range j).any p with
      | true =>
        rw [hb] at ha
        nomatch s3, ha
        refine k true _ ⟨fun _ hmono => ?_, fun _ => rfl⟩
        obtain ⟨a, ha, c1, c2⟩ := hany.mp hb
        have := mono_take hmono (j + 1)
        rw [take_snoc he] at this
        have := (mono_snoc.mp this).2 a ha c1
        omega
      | false =>
        rw [hb] at ha
        nomatch s3, ha
        refine ⟨_, rfl, ?_⟩
        rw [take_snoc he]
        refine mono_snoc.mpr ⟨hm, fun a ha c => Int.not_lt.mp fun c2 => ?_⟩
        rw [hany.mpr ⟨a, ha, c, c2⟩] at hb
        cases hb
  · obtain ⟨x1, rfl, hm⟩ := hP
    rw [rng_len, Int.toNat_natCast, List.take_length] at hm
    subst hK
    walk_at "go"
    exact k false _ ⟨fun z => Bool.noConfusion z, fun z => absurd hm z⟩
theorem h_law_kept (hl : args.length = 2) (h : sp_law_kept args Q) : t_law_kept (KD Q) (startE 5 args) := by
  obtain ⟨tl, skew, rfl, hT, h0, k⟩ := h
  have hn : tl.length ≤ 20 := hT.1
  unfold t_law_kept
  refine seq_i fun Kc hK => ?_
  refine for_i fun Kx hKx => ?_
  unfold tlD
  walk_at "go"
  refine ⟨⟨by omega, by omega⟩, hKx _ _ ⟨fun i env => ∃ x2 x3 x4, env = [some (.d (tlD tl)), some (.d (.int (skew))), x2, x3, x4] ∧ Kept (tl.take i) skew, ⟨none, none, none, rfl, .nil, .nil⟩, fun j x env hx hP => ?_, fun env hP => ?_⟩⟩
  · obtain ⟨x2, x3, x4, rfl, hr⟩ := hP
    obtain ⟨rfl, hj⟩ := rng_at hx
    obtain ⟨e, he⟩ := get_lt (tl := tl) (i := j) (by omega)
    have s2 := sh_str (hT.2 e (List.mem_of_getElem? he)).1.2
    refine ⟨by simp, ?_⟩
    refine for_i fun Kx hKx => ?_
    walk_at "go"
    refine ⟨⟨by omega, by omega⟩, hKx _ _ ⟨fun i env => ∃ x3 x4, env = [some (.d (tlD tl)), some (.d (.int (skew))), some (.d (.int (j))), x3, x4] ∧ ∀ a ∈ tl.take i, (a.1 = e.1 → a.2 ≤ e.2) ∧ a.2 - e.2 ≤ skew, ⟨x3, x4, rfl, fun a ha => by simp at ha⟩, fun i x env hx hP => ?_, fun env hP => ?_⟩⟩
    · obtain ⟨y3, y4, rfl, h2⟩ := hP
      obtain ⟨rfl, hi⟩ := rng_at hx
      obtain ⟨a, ha⟩ := get_lt (tl := tl) (i := i) (by omega)
      have am : a ∈ tl.take j := List.mem_iff_getElem?.mpr ⟨i, by rw [List.getElem?_take, if_pos (by omega)]; exact ha⟩
      have s1 := sh_str (hT.2 a (List.mem_of_getElem? ha)).1.2
      refine ⟨by simp, ?_⟩
      have bad : (Kept tl skew → (a.1 = e.1 → a.2 ≤ e.2) ∧ a.2 - e.2 ≤ skew) := fun hk => by
        have q1 := mono_take hk.1 (j + 1)
        have q2 := pw_take hk.2 (j + 1)
        rw [take_snoc he] at q1 q2
        exact ⟨(mono_snoc.mp q1).2 a am, (pw_snoc.mp q2).2 a am⟩
      have good : (a.1 = e.1 → a.2 ≤ e.2) ∧ a.2 - e.2 ≤ skew → ∀ b ∈ tl.take (i + 1), (b.1 = e.1 → b.2 ≤ e.2) ∧ b.2 - e.2 ≤ skew := fun q b hb => by
        rw [take_snoc ha] at hb
        rcases List.mem_append.mp hb with z | z
        · exact h2 b z
        · rw [List.mem_singleton.mp z]; exact q
      refine seq_i fun Kc hK => ?_
      unfold tlD
      by_cases c : a.1 = e.1
      · rw [c] at s1
        nomatch at_tl he, at_tl ha, s1, s2, c
        subst hK
        by_cases d : e.2 < a.2 - 0
        · nomatch at_tl he, d
          refine k false _ ⟨fun z => Bool.noConfusion z, fun z => ?_⟩
          have := (bad z).1 c
          omega
        · nomatch at_tl he, d
          exact ⟨_, _, rfl, good ⟨fun _ => by omega, by omega⟩⟩
      · nomatch at_tl he, at_tl ha, s1, s2, c
        subst hK
        by_cases d : e.2 < a.2 - skew
        · nomatch at_tl he, d
          refine k false _ ⟨fun z => Bool.noConfusion z, fun z => ?_⟩
          have := (bad z).2
          omega
        · nomatch at_tl he, d
          exact ⟨_, _, rfl, good ⟨fun z => absurd z c, by omega⟩⟩
    · obtain ⟨y3, y4, rfl, h2⟩ := hP
      rw [rng_len, Int.toNat_natCast] at h2
      refine ⟨_, _, _, rfl, ?_⟩
      rw [take_snoc he]
      exact ⟨mono_snoc.mpr ⟨hr.1, fun a ha => (h2 a ha).1⟩, pw_snoc.mpr ⟨hr.2, fun a ha => (h2 a ha).2⟩⟩
  · obtain ⟨x2, x3, x4, rfl, hr⟩ := hP
    rw [rng_len, Int.toNat_natCast, List.take_length] at hr
    subst hK
    walk_at "go"
    exact k true _ ⟨fun _ => hr, fun _ => rfl⟩
theorem h_keeps (hl : args.length = 2) (h : sp_keeps args Q) : t_keeps (KD Q) (startE 2 args) := by
  obtain ⟨tl, skew, rfl, hT, h0, k⟩ := h
  unfold t_keeps
  walk_at "go"
  refine ⟨tl, rfl, hT, fun b os hb => ?_⟩
  cases b with
  | true =>
    walk_at "go"
    exact k false _ ⟨fun z => Bool.noConfusion z, fun z => absurd z.1 (hb.mp rfl)⟩
  | false =>
    walk_at "go"
    refine ⟨tl, rfl, hT, fun r os hr => ?_⟩
    walk_at "go"
    refine k _ _ ?_
    rw [decide_eq_true_eq, ← ex_kept hr h0]
    exact ⟨fun z => ⟨Classical.byContradiction fun c => Bool.noConfusion (hb.mpr c), z⟩, fun z => z.2⟩
theorem h_told_next (hl : args.length = 3) (h : sp_told_next args Q) : t_told_next (KD Q) (startE 3 args) := by
  obtain ⟨tl, skew, host, rfl, hn, hT, k⟩ := h
  unfold t_told_next
  walk_at "go"
  refine ⟨tl, skew, host, rfl, hT, fun os => ?_⟩
  unfold tlD
  walk_at "go"
  refine ⟨small_of (by omega), ?_⟩
  have := k (osOf [some (.d (.tuple (tl.map evD))), some (.d (.int (skew))), some (.d (.str host))])
  unfold tlD at this
  rw [List.map_append] at this
  exact this
end
end Dlk51

set_option Elab.async false
set_option linter.all false
set_option maxRecDepth 100000
set_option maxHeartbeats 4000000
set_option autoImplicit false
namespace Dlk51
open PySem PySem.Spec L2 DL
local macro_rules | `(tactic| walk_at "go") => `(tactic| simp only [outE_i, outE_n, sz0, sz1, sz2, sz3, sz4, sz5, sz6, sz7, sz8, sz9, sz10, sz11, sz12, sz13, sz14, sz15, sz16, ↓tdFr, ↓frE, ↓rdDivmod, ↓rdNotIn, ↓tdTru, ↓startE, ↓tdSeq, ↓tdSet, ↓tdSetD, ↓tdDrop, ↓tdRet, ↓tdIfS, ↓tdNext, ↓tdAsg, ↓tdV, ↓tdC, ↓tdBin, ↓tdB, ↓tdCons, ↓tdNil, ↓tdTup, ↓tdLst, ↓tdTest, ↓tdAnd, ↓tdOr, ↓tdNot, ↓tdIf, ↓tdAndV, ↓tdOrV, ↓tdNotV, ↓tdNeg, ↓tdIsN, ↓tdNotN, ↓tdSl, ↓tdPart, ↓tdNoPart, ↓tdM, ↓tdSetIx, ↓tdAug, ↓tdPut, ↓tdGet2, ↓tdIsi, ↓tdListRg, ↓gdName, ↓gdNil, ↓gdCons, ↓gdTup, ↓tdIt, ↓tdRng1, ↓tdRng2, ↓tdCall, ↓tdNew, ↓tdJoin, ↓gcName, ↓gcNil, ↓gcCons, ↓gcTup, ↓tdYes, ↓res, ↓resR, ↓resAll, ↓rvD, ↓rdLen, ↓rdInt, ↓rdAbs, ↓rdMax2, ↓rdMin2, ↓rdOrd, ↓rdTuple, ↓rdList, ↓rdIx, ↓rdAdd, ↓rdSub, ↓rdMul, ↓rdMod, ↓rdDiv, ↓rdPow, ↓rdCmp, ↓rdEq, ↓rdNe, ↓rdIadd, ↓rdIn, ↓rdSorted, ↓rdSl, ↓isT, ↓rdAppend, ↓itemsOf, ↓rvOf, ↓argsOf, ↓argOf, Nat.reduceAdd, Nat.reduceLT, Nat.reduceSub, Int.reduceLT, Int.reduceLE, Int.reduceAdd, Int.reduceEq, Int.reduceNeg, Nat.reduceLeDiff, Nat.zero_add, Nat.reduceEqDiff, Nat.reduceBEq, ix41, ix42, ix43, ix40, List.length_cons, List.length_nil, List.map_cons, List.map_nil, List.replicate, List.cons_append, List.nil_append, List.getElem?_cons_zero, List.getElem?_cons_succ, List.set_cons_zero, List.set_cons_succ, Option.map_some, at0, at1, at2, at3, ix0, ix1, ix2, ix3, sh_int, sh_bl, sh_non, eqv_int, eqv_bl, eqv_str, decide_eq_true_eq, Bool.not_eq_true, Bool.not_true, Bool.not_false, Bool.false_eq_true, true_and, and_true, if_true, if_false, ite_true, ite_false, List.length_map, List.length_set, Sl.isD, List.mem_singleton, List.mem_cons, List.not_mem_nil, not_true_eq_false, not_false_eq_true, or_false])
local macro_rules | `(tactic| nomatch $xs,*) => `(tactic| simp only [$[$xs:term],*, outE_i, outE_n, sz0, sz1, sz2, sz3, sz4, sz5, sz6, sz7, sz8, sz9, sz10, sz11, sz12, sz13, sz14, sz15, sz16, ↓tdFr, ↓frE, ↓rdDivmod, ↓rdNotIn, ↓tdTru, ↓startE, ↓tdSeq, ↓tdSet, ↓tdSetD, ↓tdDrop, ↓tdRet, ↓tdIfS, ↓tdNext, ↓tdAsg, ↓tdV, ↓tdC, ↓tdBin, ↓tdB, ↓tdCons, ↓tdNil, ↓tdTup, ↓tdLst, ↓tdTest, ↓tdAnd, ↓tdOr, ↓tdNot, ↓tdIf, ↓tdAndV, ↓tdOrV, ↓tdNotV, ↓tdNeg, ↓tdIsN, ↓tdNotN, ↓tdSl, ↓tdPart, ↓tdNoPart, ↓tdM, ↓tdSetIx, ↓tdAug, ↓tdPut, ↓tdGet2, ↓tdIsi, ↓tdListRg, ↓gdName, ↓gdNil, ↓gdCons, ↓gdTup, ↓tdIt, ↓tdRng1, ↓tdRng2, ↓tdCall, ↓tdNew, ↓tdJoin, ↓gcName, ↓gcNil, ↓gcCons, ↓gcTup, ↓tdYes, ↓res, ↓resR, ↓resAll, ↓rvD, ↓rdLen, ↓rdInt, ↓rdAbs, ↓rdMax2, ↓rdMin2, ↓rdOrd, ↓rdTuple, ↓rdList, ↓rdIx, ↓rdAdd, ↓rdSub, ↓rdMul, ↓rdMod, ↓rdDiv, ↓rdPow, ↓rdCmp, ↓rdEq, ↓rdNe, ↓rdIadd, ↓rdIn, ↓rdSorted, ↓rdSl, ↓isT, ↓rdAppend, ↓itemsOf, ↓rvOf, ↓argsOf, ↓argOf, Nat.reduceAdd, Nat.reduceLT, Nat.reduceSub, Int.reduceLT, Int.reduceLE, Int.reduceAdd, Int.reduceEq, Int.reduceNeg, Nat.reduceLeDiff, Nat.zero_add, Nat.reduceEqDiff, Nat.reduceBEq, ix41, ix42, ix43, ix40, List.length_cons, List.length_nil, List.map_cons, List.map_nil, List.replicate, List.cons_append, List.nil_append, List.getElem?_cons_zero, List.getElem?_cons_succ, List.set_cons_zero, List.set_cons_succ, Option.map_some, at0, at1, at2, at3, ix0, ix1, ix2, ix3, sh_int, sh_bl, sh_non, eqv_int, eqv_bl, eqv_str, decide_eq_true_eq, Bool.not_eq_true, Bool.not_true, Bool.not_false, Bool.false_eq_true, true_and, and_true, if_true, if_false, ite_true, ite_false, List.length_map, List.length_set, Sl.isD, List.mem_singleton, List.mem_cons, List.not_mem_nil, not_true_eq_false, not_false_eq_true, or_false])
section
variable {args : List Sl} {Q : Sl → (Nat → Option Sl) → Prop}
theorem h_law_crossing_of (hl : args.length = 3) (h : sp_law_crossing_of args Q) : t_law_crossing_of (KD Q) (startE 3 args) := by
  obtain ⟨lease, skew, wait, rfl, hS, k⟩ := h
  unfold crossD at k
  unfold t_law_crossing_of
  refine seq_i fun Kc hK => ?_
  by_cases c : lease + 2 * skew ≤ wait
  · rw [if_pos c] at k
    nomatch c
    exact ⟨.inl ⟨by omega, by omega⟩, k _⟩
  · rw [if_neg c] at k
    nomatch c
    refine ⟨.inl ⟨by omega, by omega⟩, ?_⟩
    subst hK
    walk_at "go"
    exact k _
theorem h_law_lingering_of (hl : args.length = 3) (h : sp_law_lingering_of args Q) : t_law_lingering_of (KD Q) (startE 3 args) := by
  obtain ⟨lease, skew, wait, rfl, hS, k⟩ := h
  unfold lingD at k
  unfold t_law_lingering_of
  refine seq_i fun Kc hK => ?_
  by_cases c : lease + 2 * skew < wait
  · rw [if_pos c] at k
    nomatch c
    exact ⟨.inl ⟨by omega, by omega⟩, k _⟩
  · rw [if_neg c] at k
    nomatch c
    refine ⟨.inl ⟨by omega, by omega⟩, ?_⟩
    subst hK
    walk_at "go"
    exact k _
theorem sg_a : Sg "a" := by unfold Sg; decide +kernel
theorem sg_b : Sg "b" := by unfold Sg; decide +kernel
theorem sg_c : Sg "c" := by unfold Sg; decide +kernel
theorem sg_g : Sg "g" := by unfold Sg; decide +kernel
theorem sg_k : Sg "k" := by unfold Sg; decide +kernel
theorem n_ab : ¬ ("a" : Str) = "b" := by decide +kernel
theorem n_ba : ¬ ("b" : Str) = "a" := by decide +kernel
theorem n_kb : ¬ ("k" : Str) = "b" := by decide +kernel
theorem n_ka : ¬ ("k" : Str) = "a" := by decide +kernel
theorem n_gc : ¬ ("g" : Str) = "c" := by decide +kernel
theorem h_crossing (hl : args.length = 3) (h : sp_crossing args Q) : t_crossing (KD Q) (startE 4 args) := by
  obtain ⟨lease, skew, wait, rfl, hS, k⟩ := h
  obtain ⟨hL, hK, hW⟩ := hS
  unfold crossD at k
  unfold t_crossing
  refine seq_i fun Kc hK => ?_
  by_cases c : lease + 2 * skew ≤ wait
  · rw [if_pos c] at k
    nomatch c
    exact ⟨.inl ⟨by omega, by omega⟩, k _⟩
  · rw [if_neg c] at k
    nomatch c
    refine ⟨.inl ⟨by omega, by omega⟩, ?_⟩
    subst hK
    refine seq_i fun Kc hK => ?_
    walk_at "go"
    subst hK
    walk_at "go"
    have f1 : List.foldl (leastN skew "b") 0 [(("a" : Str), skew), (("k" : Str), 0), (("k" : Str), wait + 1)] = max2 0 (wait + 1 - skew) := by
      simp only [List.foldl_cons, List.foldl_nil, leastN, max2, n_ab, n_kb, if_false]
      repeat' split
      all_goals omega
    have f2 : List.foldl (leastN skew "a") 0 [(("a" : Str), skew), (("k" : Str), 0), (("k" : Str), wait + 1), (("b" : Str), max2 0 (wait + 1 - skew))] = max2 skew (wait + 1 - skew) := by
      simp only [List.cons_append, List.nil_append, List.foldl_cons, List.foldl_nil, leastN, n_ba, n_ka, if_false, if_true]
      unfold max2
      repeat' split
      all_goals omega
    refine ⟨[(("a" : Str), skew), (("k" : Str), 0), (("k" : Str), wait + 1)], skew, "b", rfl, by simp, ⟨fun e he => ?_, sg_b⟩, fun os => ?_⟩
    · simp only [List.mem_cons, List.not_mem_nil, or_false] at he
      rcases he with rfl | rfl | rfl
      · exact sg_a
      · exact sg_k
      · exact sg_k
    rw [f1]
    walk_at "go"
    refine ⟨_, skew, "a", rfl, by simp, ⟨fun e he => ?_, sg_a⟩, fun os => ?_⟩
    · simp only [List.mem_cons, List.not_mem_nil, or_false, List.cons_append, List.nil_append] at he
      rcases he with rfl | rfl | rfl | rfl
      · exact sg_a
      · exact sg_k
      · exact sg_k
      · exact sg_b
    rw [f2]
    walk_at "go"
    exact k _
theorem h_lingering (hl : args.length = 3) (h : sp_lingering args Q) : t_lingering (KD Q) (startE 3 args) := by
  obtain ⟨lease, skew, wait, rfl, hS, k⟩ := h
  obtain ⟨hL, hK, hW⟩ := hS
  unfold lingD at k
  unfold t_lingering
  refine seq_i fun Kc hK => ?_
  by_cases c : lease + 2 * skew < wait
  · rw [if_pos c] at k
    nomatch c
    exact ⟨.inl ⟨by omega, by omega⟩, k _⟩
  · rw [if_neg c] at k
    nomatch c
    refine ⟨.inl ⟨by omega, by omega⟩, ?_⟩
    subst hK
    walk_at "go"
    have f1 : List.foldl (leastN skew "c") 0 [(("c" : Str), skew), (("g" : Str), 0), (("g" : Str), wait)] = max2 skew (wait - skew) := by
      simp only [List.foldl_cons, List.foldl_nil, leastN, max2, n_gc, if_false, if_true]
      repeat' split
      all_goals omega
    refine ⟨[(("c" : Str), skew), (("g" : Str), 0), (("g" : Str), wait)], skew, "c", rfl, by simp, ⟨fun e he => ?_, sg_c⟩, fun os => ?_⟩
    · simp only [List.mem_cons, List.not_mem_nil, or_false] at he
      rcases he with rfl | rfl | rfl
      · exact sg_c
      · exact sg_g
      · exact sg_g
    rw [f1]
    walk_at "go"
    exact k _
/-! ### the told forms -/
theorem five {tl : Tl} {a b c d e : Str} (h : tl.map (·.1) = [a, b, c, d, e]) : ∃ t0 t1 t2 t3 t4 : Int, tl = [(a, t0), (b, t1), (c, t2), (d, t3), (e, t4)] := by
  match tl, h with
  | [(_, t0), (_, t1), (_, t2), (_, t3), (_, t4)], h =>
    simp only [List.map_cons, List.map_nil, List.cons.injEq, and_true] at h
    obtain ⟨rfl, rfl, rfl, rfl, rfl⟩ := h
    exact ⟨t0, t1, t2, t3, t4, rfl⟩
theorem four {tl : Tl} {a b c d : Str} (h : tl.map (·.1) = [a, b, c, d]) : ∃ t0 t1 t2 t3 : Int, tl = [(a, t0), (b, t1), (c, t2), (d, t3)] := by
  match tl, h with
  | [(_, t0), (_, t1), (_, t2), (_, t3)], h =>
    simp only [List.map_cons, List.map_nil, List.cons.injEq, and_true] at h
    obtain ⟨rfl, rfl, rfl, rfl⟩ := h
    exact ⟨t0, t1, t2, t3, rfl⟩
theorem tl_sh {tl : Tl} (h : TlOk tl) : SeqAt.shaped (.list (tl.map fun e => .str e.1)) = true ∧ SeqAt.shaped (.tuple (tl.map fun e => .str e.1)) = true := by
  have := sh_map PyData.str (tl.map (·.1)) fun z hz => by
    obtain ⟨e, he, rfl⟩ := List.mem_map.mp hz
    exact lay_str (h.2 e he).1.2
  rwa [List.map_map] at this
theorem tl_eqv (tl : Tl) (ms : List Str) : PyData.eqv (.list (tl.map fun e => .str e.1)) (.list (ms.map .str)) = decide (tl.map (·.1) = ms) ∧ PyData.eqv (.tuple (tl.map fun e => .str e.1)) (.tuple (ms.map .str)) = decide (tl.map (·.1) = ms) := by
  have := eqv_strs (tl.map (·.1)) ms
  rwa [List.map_map] at this
def akkba : List Str := ["a", "k", "k", "b", "a"]
def cggc : List Str := ["c", "g", "g", "c"]
theorem sh_akkba : SeqAt.shaped (.list [.str ("a" : Str), .str ("k" : Str), .str ("k" : Str), .str ("b" : Str), .str ("a" : Str)]) = true ∧ SeqAt.shaped (.tuple [.str ("a" : Str), .str ("k" : Str), .str ("k" : Str), .str ("b" : Str), .str ("a" : Str)]) = true := by decide +kernel
theorem sh_cggc : SeqAt.shaped (.list [.str ("c" : Str), .str ("g" : Str), .str ("g" : Str), .str ("c" : Str)]) = true ∧ SeqAt.shaped (.tuple [.str ("c" : Str), .str ("g" : Str), .str ("g" : Str), .str ("c" : Str)]) = true := by decide +kernel
theorem eq_akkba (tl : Tl) : PyData.eqv (.list (tl.map fun e => .str e.1)) (.list [.str ("a" : Str), .str ("k" : Str), .str ("k" : Str), .str ("b" : Str), .str ("a" : Str)]) = decide (tl.map (·.1) = akkba) ∧ PyData.eqv (.tuple (tl.map fun e => .str e.1)) (.tuple [.str ("a" : Str), .str ("k" : Str), .str ("k" : Str), .str ("b" : Str), .str ("a" : Str)]) = decide (tl.map (·.1) = akkba) := tl_eqv tl akkba
theorem eq_cggc (tl : Tl) : PyData.eqv (.list (tl.map fun e => .str e.1)) (.list [.str ("c" : Str), .str ("g" : Str), .str ("g" : Str), .str ("c" : Str)]) = decide (tl.map (·.1) = cggc) ∧ PyData.eqv (.tuple (tl.map fun e => .str e.1)) (.tuple [.str ("c" : Str), .str ("g" : Str), .str ("g" : Str), .str ("c" : Str)]) = decide (tl.map (·.1) = cggc) := tl_eqv tl cggc
theorem cross_no {lease skew wait : Int} {tl : Tl} (h : tl.map (·.1) ≠ akkba ∨ ¬ Kept tl skew) : (false = true ↔ Cross lease skew wait tl) := ⟨fun z => Bool.noConfusion z, fun ⟨t0, t1, t2, t3, t4, e, hk, _⟩ => by
  rcases h with q | q
  · exact absurd (by rw [e]; rfl) q
  · exact absurd hk q⟩
theorem ling_no {lease skew wait : Int} {tl : Tl} (h : tl.map (·.1) ≠ cggc ∨ ¬ Kept tl skew) : (false = true ↔ Ling lease skew wait tl) := ⟨fun z => Bool.noConfusion z, fun ⟨t0, t1, t2, t3, e, hk, _⟩ => by
  rcases h with q | q
  · exact absurd (by rw [e]; rfl) q
  · exact absurd hk q⟩
theorem cross_yes {lease skew wait t0 t1 t2 t3 t4 : Int} (hk : Kept [("a", t0), ("k", t1), ("k", t2), ("b", t3), ("a", t4)] skew) : (t1 + wait < t2 ∧ t4 ≤ t0 + lease) ↔ Cross lease skew wait [("a", t0), ("k", t1), ("k", t2), ("b", t3), ("a", t4)] := by
  refine ⟨fun h => ⟨t0, t1, t2, t3, t4, rfl, hk, h⟩, fun ⟨s0, s1, s2, s3, s4, e, _, h⟩ => ?_⟩
  simp only [List.cons.injEq, Prod.mk.injEq, true_and, and_true] at e
  omega
theorem ling_yes {lease skew wait t0 t1 t2 t3 : Int} (hk : Kept [("c", t0), ("g", t1), ("g", t2), ("c", t3)] skew) : (t1 + wait ≤ t2 ∧ t3 ≤ t0 + lease) ↔ Ling lease skew wait [("c", t0), ("g", t1), ("g", t2), ("c", t3)] := by
  refine ⟨fun h => ⟨t0, t1, t2, t3, rfl, hk, h⟩, fun ⟨s0, s1, s2, s3, e, _, h⟩ => ?_⟩
  simp only [List.cons.injEq, Prod.mk.injEq, true_and, and_true] at e
  omega
theorem h_is_crossing (hl : args.length = 4) (h : sp_is_crossing args Q) : t_is_crossing (KD Q) (startE 11 args) := by
  obtain ⟨lease, skew, wait, tl, rfl, hS, hT, k⟩ := h
  have hn : tl.length ≤ 20 := hT.1
  unfold t_is_crossing
  refine seq_i fun Kc hK => ?_
  walk_at "go"
  refine ⟨tl, rfl, by omega, fun os => ?_⟩
  by_cases c : tl.map (·.1) = akkba
  · have e1 := (eq_akkba tl).2
    rw [decide_eq_true c] at e1
    nomatch e1, tl_sh hT, sh_akkba
    refine ⟨tl, skew, rfl, hT, hS.2.1.1, fun b os hb => ?_⟩
    cases b with
    | false =>
      walk_at "go"
      exact k false _ (cross_no (.inr fun z => Bool.noConfusion (hb.mpr z)))
    | true =>
      have hk := hb.mp rfl
      walk_at "go"
      subst hK
      refine seq_i fun Kc hK => ?_
      obtain ⟨t0, t1, t2, t3, t4, rfl⟩ := five c
      simp only [↓tdAsg]
      refine lc_map [(("a" : Str), t0), ("k", t1), ("k", t2), ("b", t3), ("a", t4)] evD (fun e => .int e.2) (fun R hR => ?_) (small_of (by simp)) (by simp [noOwn]) (fun x hx A B hA hB => ?_) ?_
      · unfold tlD
        walk_at "go"
        exact hR
      · nomatch wipeE, mergeE, evD_eq
        exact ⟨hA, hB⟩
      simp only [↓gdLst, outE_i, outE_n, sz0, sz1, sz2, sz3, sz4, sz5, sz6, sz7, sz8, sz9, sz10, sz11, sz12, sz13, sz14, sz15, sz16, ↓tdFr, ↓frE, ↓rdDivmod, ↓rdNotIn, ↓tdTru, ↓startE, ↓tdSeq, ↓tdSet, ↓tdSetD, ↓tdDrop, ↓tdRet, ↓tdIfS, ↓tdNext, ↓tdAsg, ↓tdV, ↓tdC, ↓tdBin, ↓tdB, ↓tdCons, ↓tdNil, ↓tdTup, ↓tdLst, ↓tdTest, ↓tdAnd, ↓tdOr, ↓tdNot, ↓tdIf, ↓tdAndV, ↓tdOrV, ↓tdNotV, ↓tdNeg, ↓tdIsN, ↓tdNotN, ↓tdSl, ↓tdPart, ↓tdNoPart, ↓tdM, ↓tdSetIx, ↓tdAug, ↓tdPut, ↓tdGet2, ↓tdIsi, ↓tdListRg, ↓gdName, ↓gdNil, ↓gdCons, ↓gdTup, ↓tdIt, ↓tdRng1, ↓tdRng2, ↓tdCall, ↓tdNew, ↓tdJoin, ↓gcName, ↓gcNil, ↓gcCons, ↓gcTup, ↓tdYes, ↓res, ↓resR, ↓resAll, ↓rvD, ↓rdLen, ↓rdInt, ↓rdAbs, ↓rdMax2, ↓rdMin2, ↓rdOrd, ↓rdTuple, ↓rdList, ↓rdIx, ↓rdAdd, ↓rdSub, ↓rdMul, ↓rdMod, ↓rdDiv, ↓rdPow, ↓rdCmp, ↓rdEq, ↓rdNe, ↓rdIadd, ↓rdIn, ↓rdSorted, ↓rdSl, ↓isT, ↓rdAppend, ↓itemsOf, ↓rvOf, ↓argsOf, ↓argOf, Nat.reduceAdd, Nat.reduceLT, Nat.reduceSub, Int.reduceLT, Int.reduceLE, Int.reduceAdd, Int.reduceEq, Int.reduceNeg, Nat.reduceLeDiff, Nat.zero_add, Nat.reduceEqDiff, Nat.reduceBEq, ix41, ix42, ix43, ix40, List.length_cons, List.length_nil, List.map_cons, List.map_nil, List.replicate, List.cons_append, List.nil_append, List.getElem?_cons_zero, List.getElem?_cons_succ, List.set_cons_zero, List.set_cons_succ, Option.map_some, at0, at1, at2, at3, ix0, ix1, ix2, ix3, sh_int, sh_bl, sh_non, eqv_int, eqv_bl, eqv_str, decide_eq_true_eq, Bool.not_eq_true, Bool.not_true, Bool.not_false, Bool.false_eq_true, true_and, and_true, if_true, if_false, ite_true, ite_false, List.length_map, List.length_set, Sl.isD, List.mem_singleton, List.mem_cons, List.not_mem_nil, not_true_eq_false, not_false_eq_true, or_false]
      subst hK
      by_cases d : t1 + wait < t2
      · nomatch d
        refine k _ _ ?_
        rw [← cross_yes hk, decide_eq_true_eq]
        exact ⟨fun z => ⟨d, z⟩, fun z => z.2⟩
      · nomatch d
        refine k _ _ ?_
        rw [← cross_yes hk]
        exact ⟨fun z => Bool.noConfusion z, fun z => absurd z.1 d⟩
  · have e1 := (eq_akkba tl).2
    rw [decide_eq_false c] at e1
    nomatch e1, tl_sh hT, sh_akkba
    exact k false _ (cross_no (.inl c))
theorem h_is_lingering (hl : args.length = 4) (h : sp_is_lingering args Q) : t_is_lingering (KD Q) (startE 10 args) := by
  obtain ⟨lease, skew, wait, tl, rfl, hS, hT, k⟩ := h
  have hn : tl.length ≤ 20 := hT.1
  unfold t_is_lingering
  refine seq_i fun Kc hK => ?_
  walk_at "go"
  refine ⟨tl, rfl, by omega, fun os => ?_⟩
  by_cases c : tl.map (·.1) = cggc
  · have e1 := (eq_cggc tl).2
    rw [decide_eq_true c] at e1
    nomatch e1, tl_sh hT, sh_cggc
    refine ⟨tl, skew, rfl, hT, hS.2.1.1, fun b os hb => ?_⟩
    cases b with
    | false =>
      walk_at "go"
      exact k false _ (ling_no (.inr fun z => Bool.noConfusion (hb.mpr z)))
    | true =>
      have hk := hb.mp rfl
      walk_at "go"
      subst hK
      refine seq_i fun Kc hK => ?_
      obtain ⟨t0, t1, t2, t3, rfl⟩ := four c
      simp only [↓tdAsg]
      refine lc_map [(("c" : Str), t0), ("g", t1), ("g", t2), ("c", t3)] evD (fun e => .int e.2) (fun R hR => ?_) (small_of (by simp)) (by simp [noOwn]) (fun x hx A B hA hB => ?_) ?_
      · unfold tlD
        walk_at "go"
        exact hR
      · nomatch wipeE, mergeE, evD_eq
        exact ⟨hA, hB⟩
      simp only [↓gdLst, outE_i, outE_n, sz0, sz1, sz2, sz3, sz4, sz5, sz6, sz7, sz8, sz9, sz10, sz11, sz12, sz13, sz14, sz15, sz16, ↓tdFr, ↓frE, ↓rdDivmod, ↓rdNotIn, ↓tdTru, ↓startE, ↓tdSeq, ↓tdSet, ↓tdSetD, ↓tdDrop, ↓tdRet, ↓tdIfS, ↓tdNext, ↓tdAsg, ↓tdV, ↓tdC, ↓tdBin, ↓tdB, ↓tdCons, ↓tdNil, ↓tdTup, ↓tdLst, ↓tdTest, ↓tdAnd, ↓tdOr, ↓tdNot, ↓tdIf, ↓tdAndV, ↓tdOrV, ↓tdNotV, ↓tdNeg, ↓tdIsN, ↓tdNotN, ↓tdSl, ↓tdPart, ↓tdNoPart, ↓tdM, ↓tdSetIx, ↓tdAug, ↓tdPut, ↓tdGet2, ↓tdIsi, ↓tdListRg, ↓gdName, ↓gdNil, ↓gdCons, ↓gdTup, ↓tdIt, ↓tdRng1, ↓tdRng2, ↓tdCall, ↓tdNew, ↓tdJoin, ↓gcName, ↓gcNil, ↓gcCons, ↓gcTup, ↓tdYes, ↓res, ↓resR, ↓resAll, ↓rvD, ↓rdLen, ↓rdInt, ↓rdAbs, ↓rdMax2, ↓rdMin2, ↓rdOrd, ↓rdTuple, ↓rdList, ↓rdIx, ↓rdAdd, ↓rdSub, ↓rdMul, ↓rdMod, ↓rdDiv, ↓rdPow, ↓rdCmp, ↓rdEq, ↓rdNe, ↓rdIadd, ↓rdIn, ↓rdSorted, ↓rdSl, ↓isT, ↓rdAppend, ↓itemsOf, ↓rvOf, ↓argsOf, ↓argOf, Nat.reduceAdd, Nat.reduceLT, Nat.reduceSub, Int.reduceLT, Int.reduceLE, Int.reduceAdd, Int.reduceEq, Int.reduceNeg, Nat.reduceLeDiff, Nat.zero_add, Nat.reduceEqDiff, Nat.reduceBEq, ix41, ix42, ix43, ix40, List.length_cons, List.length_nil, List.map_cons, List.map_nil, List.replicate, List.cons_append, List.nil_append, List.getElem?_cons_zero, List.getElem?_cons_succ, List.set_cons_zero, List.set_cons_succ, Option.map_some, at0, at1, at2, at3, ix0, ix1, ix2, ix3, sh_int, sh_bl, sh_non, eqv_int, eqv_bl, eqv_str, decide_eq_true_eq, Bool.not_eq_true, Bool.not_true, Bool.not_false, Bool.false_eq_true, true_and, and_true, if_true, if_false, ite_true, ite_false, List.length_map, List.length_set, Sl.isD, List.mem_singleton, List.mem_cons, List.not_mem_nil, not_true_eq_false, not_false_eq_true, or_false]
      subst hK
      by_cases d : t1 + wait ≤ t2
      · nomatch d
        refine k _ _ ?_
        rw [← ling_yes hk, decide_eq_true_eq]
        exact ⟨fun z => ⟨d, z⟩, fun z => z.2⟩
      · nomatch d
        refine k _ _ ?_
        rw [← ling_yes hk]
        exact ⟨fun z => Bool.noConfusion z, fun z => absurd z.1 d⟩
  · have e1 := (eq_cggc tl).2
    rw [decide_eq_false c] at e1
    nomatch e1, tl_sh hT, sh_cggc
    exact k false _ (ling_no (.inl c))
theorem h_law_crosses (hl : args.length = 4) (h : sp_law_crosses args Q) : t_law_crosses (KD Q) (startE 4 args) := by
  obtain ⟨lease, skew, wait, tl, rfl, hS, hT, k⟩ := h
  have hn : tl.length ≤ 20 := hT.1
  unfold t_law_crosses
  refine seq_i fun Kc hK => ?_
  walk_at "go"
  refine ⟨tl, rfl, by omega, fun os => ?_⟩
  by_cases c : tl.map (·.1) = akkba
  · have e1 := (eq_akkba tl).1
    rw [decide_eq_true c] at e1
    nomatch e1, tl_sh hT, sh_akkba
    refine ⟨tl, skew, rfl, hT, hS.2.1.1, fun b os hb => ?_⟩
    cases b with
    | false =>
      walk_at "go"
      exact k false _ (cross_no (.inr fun z => Bool.noConfusion (hb.mpr z)))
    | true =>
      have hk := hb.mp rfl
      walk_at "go"
      subst hK
      obtain ⟨t0, t1, t2, t3, t4, rfl⟩ := five c
      unfold tlD
      have a4 : atI [evD (("a" : Str), t0), evD ("k", t1), evD ("k", t2), evD ("b", t3), evD ("a", t4)] 4 = some (evD ("a", t4)) := rfl
      by_cases d : t1 + wait < t2
      · nomatch a4, evD_eq, d
        refine k _ _ ?_
        rw [← cross_yes hk, decide_eq_true_eq]
        exact ⟨fun z => ⟨d, z⟩, fun z => z.2⟩
      · nomatch a4, evD_eq, d
        refine k _ _ ?_
        rw [← cross_yes hk]
        exact ⟨fun z => Bool.noConfusion z, fun z => absurd z.1 d⟩
  · have e1 := (eq_akkba tl).1
    rw [decide_eq_false c] at e1
    nomatch e1, tl_sh hT, sh_akkba
    exact k false _ (cross_no (.inl c))
theorem h_law_lingers (hl : args.length = 4) (h : sp_law_lingers args Q) : t_law_lingers (KD Q) (startE 4 args) := by
  obtain ⟨lease, skew, wait, tl, rfl, hS, hT, k⟩ := h
  have hn : tl.length ≤ 20 := hT.1
  unfold t_law_lingers
  refine seq_i fun Kc hK => ?_
  walk_at "go"
  refine ⟨tl, rfl, by omega, fun os => ?_⟩
  by_cases c : tl.map (·.1) = cggc
  · have e1 := (eq_cggc tl).1
    rw [decide_eq_true c] at e1
    nomatch e1, tl_sh hT, sh_cggc
    refine ⟨tl, skew, rfl, hT, hS.2.1.1, fun b os hb => ?_⟩
    cases b with
    | false =>
      walk_at "go"
      exact k false _ (ling_no (.inr fun z => Bool.noConfusion (hb.mpr z)))
    | true =>
      have hk := hb.mp rfl
      walk_at "go"
      subst hK
      obtain ⟨t0, t1, t2, t3, rfl⟩ := four c
      unfold tlD
      by_cases d : t1 + wait ≤ t2
      · nomatch evD_eq, d
        refine k _ _ ?_
        rw [← ling_yes hk, decide_eq_true_eq]
        exact ⟨fun z => ⟨d, z⟩, fun z => z.2⟩
      · nomatch evD_eq, d
        refine k _ _ ?_
        rw [← ling_yes hk]
        exact ⟨fun z => Bool.noConfusion z, fun z => absurd z.1 d⟩
  · have e1 := (eq_cggc tl).1
    rw [decide_eq_false c] at e1
    nomatch e1, tl_sh hT, sh_cggc
    exact k false _ (ling_no (.inl c))
end
end Dlk51

set_option Elab.async false
set_option linter.all false
set_option maxRecDepth 100000
set_option maxHeartbeats 4000000
set_option autoImplicit false
namespace Dlk51
open PySem PySem.Spec L2 DL
local macro_rules | `(tactic| walk_at "go") => `(tactic| simp only [outE_i, outE_n, sz0, sz1, sz2, sz3, sz4, sz5, sz6, sz7, sz8, sz9, sz10, sz11, sz12, sz13, sz14, sz15, sz16, ↓tdFr, ↓frE, ↓rdDivmod, ↓rdNotIn, ↓tdTru, ↓startE, ↓tdSeq, ↓tdSet, ↓tdSetD, ↓tdDrop, ↓tdRet, ↓tdIfS, ↓tdNext, ↓tdAsg, ↓tdV, ↓tdC, ↓tdBin, ↓tdB, ↓tdCons, ↓tdNil, ↓tdTup, ↓tdLst, ↓tdTest, ↓tdAnd, ↓tdOr, ↓tdNot, ↓tdIf, ↓tdAndV, ↓tdOrV, ↓tdNotV, ↓tdNeg, ↓tdIsN, ↓tdNotN, ↓tdSl, ↓tdPart, ↓tdNoPart, ↓tdM, ↓tdSetIx, ↓tdAug, ↓tdPut, ↓tdGet2, ↓tdIsi, ↓tdListRg, ↓gdName, ↓gdNil, ↓gdCons, ↓gdTup, ↓tdIt, ↓tdRng1, ↓tdRng2, ↓tdCall, ↓tdNew, ↓tdJoin, ↓gcName, ↓gcNil, ↓gcCons, ↓gcTup, ↓tdYes, ↓res, ↓resR, ↓resAll, ↓rvD, ↓rdLen, ↓rdInt, ↓rdAbs, ↓rdMax2, ↓rdMin2, ↓rdOrd, ↓rdTuple, ↓rdList, ↓rdIx, ↓rdAdd, ↓rdSub, ↓rdMul, ↓rdMod, ↓rdDiv, ↓rdPow, ↓rdCmp, ↓rdEq, ↓rdNe, ↓rdIadd, ↓rdIn, ↓rdSorted, ↓rdSl, ↓isT, ↓rdAppend, ↓itemsOf, ↓rvOf, ↓argsOf, ↓argOf, Nat.reduceAdd, Nat.reduceLT, Nat.reduceSub, Int.reduceLT, Int.reduceLE, Int.reduceAdd, Int.reduceEq, Int.reduceNeg, Nat.reduceLeDiff, Nat.zero_add, Nat.reduceEqDiff, Nat.reduceBEq, ix41, ix42, ix43, ix40, List.length_cons, List.length_nil, List.map_cons, List.map_nil, List.replicate, List.cons_append, List.nil_append, List.getElem?_cons_zero, List.getElem?_cons_succ, List.set_cons_zero, List.set_cons_succ, Option.map_some, at0, at1, at2, at3, ix0, ix1, ix2, ix3, sh_int, sh_bl, sh_non, eqv_int, eqv_bl, eqv_str, decide_eq_true_eq, Bool.not_eq_true, Bool.not_true, Bool.not_false, Bool.false_eq_true, true_and, and_true, if_true, if_false, ite_true, ite_false, List.length_map, List.length_set, Sl.isD, List.mem_singleton, List.mem_cons, List.not_mem_nil, not_true_eq_false, not_false_eq_true, or_false])
local macro_rules | `(tactic| nomatch $xs,*) => `(tactic| simp only [$[$xs:term],*, outE_i, outE_n, sz0, sz1, sz2, sz3, sz4, sz5, sz6, sz7, sz8, sz9, sz10, sz11, sz12, sz13, sz14, sz15, sz16, ↓tdFr, ↓frE, ↓rdDivmod, ↓rdNotIn, ↓tdTru, ↓startE, ↓tdSeq, ↓tdSet, ↓tdSetD, ↓tdDrop, ↓tdRet, ↓tdIfS, ↓tdNext, ↓tdAsg, ↓tdV, ↓tdC, ↓tdBin, ↓tdB, ↓tdCons, ↓tdNil, ↓tdTup, ↓tdLst, ↓tdTest, ↓tdAnd, ↓tdOr, ↓tdNot, ↓tdIf, ↓tdAndV, ↓tdOrV, ↓tdNotV, ↓tdNeg, ↓tdIsN, ↓tdNotN, ↓tdSl, ↓tdPart, ↓tdNoPart, ↓tdM, ↓tdSetIx, ↓tdAug, ↓tdPut, ↓tdGet2, ↓tdIsi, ↓tdListRg, ↓gdName, ↓gdNil, ↓gdCons, ↓gdTup, ↓tdIt, ↓tdRng1, ↓tdRng2, ↓tdCall, ↓tdNew, ↓tdJoin, ↓gcName, ↓gcNil, ↓gcCons, ↓gcTup, ↓tdYes, ↓res, ↓resR, ↓resAll, ↓rvD, ↓rdLen, ↓rdInt, ↓rdAbs, ↓rdMax2, ↓rdMin2, ↓rdOrd, ↓rdTuple, ↓rdList, ↓rdIx, ↓rdAdd, ↓rdSub, ↓rdMul, ↓rdMod, ↓rdDiv, ↓rdPow, ↓rdCmp, ↓rdEq, ↓rdNe, ↓rdIadd, ↓rdIn, ↓rdSorted, ↓rdSl, ↓isT, ↓rdAppend, ↓itemsOf, ↓rvOf, ↓argsOf, ↓argOf, Nat.reduceAdd, Nat.reduceLT, Nat.reduceSub, Int.reduceLT, Int.reduceLE, Int.reduceAdd, Int.reduceEq, Int.reduceNeg, Nat.reduceLeDiff, Nat.zero_add, Nat.reduceEqDiff, Nat.reduceBEq, ix41, ix42, ix43, ix40, List.length_cons, List.length_nil, List.map_cons, List.map_nil, List.replicate, List.cons_append, List.nil_append, List.getElem?_cons_zero, List.getElem?_cons_succ, List.set_cons_zero, List.set_cons_succ, Option.map_some, at0, at1, at2, at3, ix0, ix1, ix2, ix3, sh_int, sh_bl, sh_non, eqv_int, eqv_bl, eqv_str, decide_eq_true_eq, Bool.not_eq_true, Bool.not_true, Bool.not_false, Bool.false_eq_true, true_and, and_true, if_true, if_false, ite_true, ite_false, List.length_map, List.length_set, Sl.isD, List.mem_singleton, List.mem_cons, List.not_mem_nil, not_true_eq_false, not_false_eq_true, or_false])
section
variable {args : List Sl} {Q : Sl → (Nat → Option Sl) → Prop}
theorem h_law_tape (hl : args.length = 1) (h : sp_law_tape args Q) : t_law_tape (KD Q) (startE 3 args) := hTape args Q hl h
theorem h_law_draw (hl : args.length = 2) (h : sp_law_draw args Q) : t_law_draw (KD Q) (startE 4 args) := hDraw args Q hl h
theorem h_law_pick (hl : args.length = 2) (h : sp_law_pick args Q) : t_law_pick (KD Q) (startE 2 args) := hPick args Q hl h
theorem h_law_turns (hl : args.length = 2) (h : sp_law_turns args Q) : t_law_turns (KD Q) (startE 5 args) := hTurns args Q hl h
theorem h_law_shuffled (hl : args.length = 2) (h : sp_law_shuffled args Q) : t_law_shuffled (KD Q) (startE 5 args) := hShuf args Q hl h
def SIG : Str := "abcdefghijklmnopqrstuvwxyz0123456789"
theorem sig_ok : Sg SIG ∧ SIG.length = 36 := by unfold Sg; decide +kernel
theorem h_law_names (hl : args.length = 1) (h : sp_law_names args Q) : t_law_names (KD Q) (startE 5 args) := by
  obtain ⟨tp, rfl, ht, k⟩ := h
  unfold t_law_names
  refine seq_i fun Kc hK => ?_
  walk_at "go"
  subst hK
  refine seq_i fun Kc hK => ?_
  walk_at "go"
  refine pick_map .str ["", "", "host", "abcdefghij"] (fun z => z.length ≤ 10 ∧ Sg z) (by rfl) (by decide) ht (by unfold Sg; decide +kernel) fun stem tp1 _ t1 hs => ?_
  walk_at "go"
  subst hK
  refine seq_i fun Kc hK => ?_
  walk_at "go"
  refine draw_i (by first | decide | omega) (by assumption) (by first | decide | omega) fun first tp2 _ t2 first0 first1 => ?_
  walk_at "go"
  subst hK
  walk_at "go"
  rw [show ("abcdefghijklmnopqrstuvwxyz0123456789" : Str) = SIG from rfl]
  refine lc_inv (fun xs => ∃ n : Int, xs = rngL 0 n ∧ 1 ≤ n ∧ n ≤ 4) (fun env => ∃ tp, TapeOk tp ∧ env = [some (.l (tp)), some (.d (.str SIG)), some (.d (.str stem)), some (.d (.int (first))), none]) (fun y => ∃ z : Str, y = .str z ∧ z.length ≤ 20 ∧ Sg z) (fun R hR => ?_) (fun xs hP => ?_) (fun xs x hP hx env hJ => ?_) (fun xs env acc hP hJ hlen hY => ?_)
  · walk_at "go"
    refine draw_i (by first | decide | omega) (by assumption) (by first | decide | omega) fun n tp3 _ t3 n0 n1 => ?_
    walk_at "go"
    exact ⟨⟨by omega, by omega⟩, hR _ _ ⟨_, rfl, by omega, by omega⟩ ⟨_, t3, rfl⟩⟩
  · obtain ⟨n, rfl, n1, n2⟩ := hP
    rw [rng_len]
    exact small_of (by omega)
  · obtain ⟨n, rfl, n1, n2⟩ := hP
    obtain ⟨tp, ht, rfl⟩ := hJ
    obtain ⟨i, rfl, hi⟩ := rng_mem hx
    refine ⟨by simp [noOwn], fun A B hA hB => ?_⟩
    have r0 : 0 ≤ (first + 7 * (i : Int)) % 36 := Int.emod_nonneg _ (by decide)
    have r1 : (first + 7 * (i : Int)) % 36 < 36 := Int.emod_lt_of_pos _ (by decide)
    obtain ⟨c, hc, hc2⟩ := at_sig sig_ok.1 r0 (by rw [sig_ok.2]; exact r1)
    nomatch wipeE, hc
    have l1 : (stem ++ (⟨#[c]⟩ : Str)).length ≤ 11 := by rw [len_app]; show stem.length + 1 ≤ 11; omega
    refine ⟨.inl ⟨by omega, by omega⟩, small_of (by rw [sig_ok.2]; decide), small_of (by show stem.length + 1 ≤ 1000; omega), ?_⟩
    refine pick_map .str ["", "", "a"] (fun z => z.length ≤ 1 ∧ Sg z) (by rfl) (by decide) ht (by unfold Sg; decide +kernel) fun tail tp4 _ t4 hs2 => ?_
    nomatch mergeE
    exact ⟨small_of (by omega), hA, hB _ _ ⟨_, t4, rfl⟩ ⟨_, rfl, by rw [len_app]; omega, sg_app (sg_app hs.2 hc2) hs2.2⟩⟩
  obtain ⟨n, rfl, n1, n2⟩ := hP
  obtain ⟨tp3, t3, rfl⟩ := hJ
  rw [rng_len] at hlen
  obtain ⟨zs, rfl, hz⟩ := strs_of hY
  rw [List.length_map] at hlen
  walk_at "go"
  exact k zs _ _ ⟨by omega, by omega⟩ hz t3 rfl
theorem h_law_timeline (hl : args.length = 2) (h : sp_law_timeline args Q) : t_law_timeline (KD Q) (startE 10 args) := by
  obtain ⟨tp, ns, rfl, hn, hN, ht, k⟩ := h
  unfold t_law_timeline
  refine seq_i fun Kc hK => ?_
  walk_at "go"
  refine pick_ints [0, 1, 3, 99] (fun g => 0 ≤ g ∧ g ≤ 99) (by rfl) (by decide) ht (by decide) fun wide tp1 _ t1 hw => ?_
  walk_at "go"
  subst hK
  refine seq_i fun Kc hK => ?_
  walk_at "go"
  refine draw_i (by first | decide | omega) (by assumption) (by first | decide | omega) fun kind tp2 _ t2 kind0 kind1 => ?_
  walk_at "go"
  subst hK
  refine seq_i fun Kc hK => ?_
  walk_at "go"
  refine pick_ints [0, 0, 7, 500000] (fun g => 0 ≤ g ∧ g ≤ 500000) (by rfl) (by decide) t2 (by decide) fun tick0 tp3 _ t3 htk => ?_
  walk_at "go"
  subst hK
  refine seq_i fun Kc hK => ?_
  walk_at "go"
  subst hK
  refine seq_i fun Kc hK => ?_
  walk_at "go"
  subst hK
  refine seq_i fun Kc hK => ?_
  refine for_i fun Kx hKx => ?_
  walk_at "go"
  refine pick_ints [0, 1, 2, 3, 5, 8, 12] (fun g => 0 ≤ g ∧ g ≤ 12) (by rfl) (by decide) t3 (by decide) fun cnt tp4 _ t4 hc => ?_
  walk_at "go"
  refine ⟨⟨by omega, by omega⟩, hKx _ _ ⟨fun i env => ∃ tp tick kvs tl x7 x8 x9, env = [some (.l (tp)), some (.d (.list (ns.map .str))), some (.d (.int (wide))), some (.d (.int (kind))), some (.d (.int (tick))), some (.m kvs), some (.l ((tl : Tl).map evD)), x7, x8, x9] ∧ TapeOk tp ∧ (0 ≤ tick ∧ tick ≤ 500100 + 30 * (i : Int)) ∧ (∀ z, ∃ n : Int, (valD kvs (.inr z)).getD (.int 0) = .int n ∧ 0 ≤ n ∧ n ≤ 500100 + 30 * (i : Int)) ∧ kvs.length ≤ i ∧ tl.length = i ∧ ∀ e ∈ tl, (e.1.length ≤ 20 ∧ Sg e.1) ∧ 0 ≤ e.2 ∧ e.2 ≤ 500100 + 30 * (i : Int),
    ⟨tp4, tick0, [], [], none, none, none, rfl, t4, ⟨htk.1, by omega⟩, fun z => ⟨0, rfl, by omega, by omega⟩, Nat.le_refl _, rfl, fun e he => by cases he⟩, fun i x env hx hP => ?_, fun env hP => ?_⟩⟩
  · obtain ⟨tp, tick, kvs, tl, x7, x8, x9, rfl, ht, hk, hv, hlk, hlt, he⟩ := hP
    obtain ⟨rfl, hi⟩ := rng_at hx
    refine ⟨by simp, ?_⟩
    refine seq_i fun Kc hK => ?_
    walk_at "go"
    refine pick_map .str ns (fun z => z.length ≤ 20 ∧ Sg z) (by rfl) (by omega) ht hN fun name tp5 _ t5 hs => ?_
    walk_at "go"
    subst hK
    refine seq_i fun Kc hK => ?_
    obtain ⟨v, hv1, hv2⟩ := hv name
    walk_at "go"
    refine draw_i (by first | decide | omega) (by assumption) (by first | decide | omega) fun d tp6 _ t6 d0 d1 => ?_
    nomatch keyD, hv1
    subst hK
    refine seq_i fun Kc hK => ?_
    have nx : ∀ (here : Int) tp, TapeOk tp → 0 ≤ here → here ≤ 500100 + 30 * (i : Int) → Kc [some (.l (tp)), some (.d (.list (ns.map .str))), some (.d (.int (wide))), some (.d (.int (kind))), some (.d (.int (tick))), some (.m kvs), some (.l ((tl : Tl).map evD)), (some (.d (.int (i)))), (some (.d (.str name))), (some (.d (.int (here))))] := fun here tp ht a0 a1 => by
      subst hK
      refine seq_i fun Kc hK => ?_
      have nx : ∀ (here : Int) tp, TapeOk tp → 0 ≤ here → here ≤ 500100 + 30 * (i : Int) → Kc [some (.l (tp)), some (.d (.list (ns.map .str))), some (.d (.int (wide))), some (.d (.int (kind))), some (.d (.int (tick))), some (.m kvs), some (.l ((tl : Tl).map evD)), (some (.d (.int (i)))), (some (.d (.str name))), (some (.d (.int (here))))] := fun here tp ht a0 a1 => by
        subst hK
        refine seq_i fun Kc hK => ?_
        walk_at "go"
        refine ⟨Nat.lt_of_lt_of_le (show tl.length < 1000 by omega) (by decide), ?_⟩
        subst hK
        refine seq_i fun Kc hK => ?_
        nomatch keyD
        refine ⟨Nat.lt_of_lt_of_le (show kvs.length < 1000 by omega) (by decide), ?_⟩
        subst hK
        walk_at "go"
        refine pick_ints [0, 0, 1, 2, 30] (fun g => 0 ≤ g ∧ g ≤ 30) (by rfl) (by decide) ht (by decide) fun up tp7 _ t7 hu => ?_
        walk_at "go"
        refine ⟨tp7, _, _, tl ++ [(name, here)], _, _, _, by rw [List.map_append]; rfl, t7, ⟨by split <;> omega, by split <;> omega⟩, fun z => ?_, Nat.le_trans (put_len _ _ _) (by omega), by rw [List.length_append, hlt]; rfl, fun e hm => ?_⟩
        · rw [valD_put]
          by_cases c : (.inr z : Key) = .inr name
          · rw [if_pos c]
            exact ⟨here, rfl, a0, by omega⟩
          · rw [if_neg c]
            obtain ⟨n, h1, h2⟩ := hv z
            exact ⟨n, h1, by omega, by omega⟩
        · rcases List.mem_append.mp hm with q | q
          · have := he e q
            exact ⟨this.1, by omega, by omega⟩
          · rw [List.mem_singleton.mp q]
            exact ⟨hs, by dsimp only; omega, by dsimp only; omega⟩
      by_cases c1 : kind = 1
      · nomatch c1
        refine draw_i (by first | decide | omega) (by assumption) (by first | decide | omega) fun h2 tp8 _ t8 h20 h21 => ?_
        subst c1
        walk_at "go"
        exact nx _ _ t8 (by omega) (by omega)
      · nomatch c1
        exact nx _ _ ht a0 a1
    by_cases c0 : kind = 0
    · nomatch c0
      subst c0
      exact nx _ _ t6 (by omega) (by omega)
    · nomatch c0
      exact nx _ _ t6 (by split <;> omega) (by split <;> omega)
  · obtain ⟨tp, tick, kvs, tl, x7, x8, x9, rfl, ht, hk, hv, hlk, hlt, he⟩ := hP
    rw [rng_len] at hk hlk hlt he
    subst hK
    dsimp only
    refine seq_i fun Kc hK => ?_
    have nx : ∀ (tl : Tl) tp y8 y9, TapeOk tp → tl.length ≤ 13 → (∀ e ∈ tl, (e.1.length ≤ 20 ∧ Sg e.1) ∧ 0 ≤ e.2 ∧ e.2 ≤ 600000) → Kc [some (.l (tp)), some (.d (.list (ns.map .str))), some (.d (.int (wide))), some (.d (.int (kind))), some (.d (.int (tick))), some (.m kvs), some (.l ((tl : Tl).map evD)), x7, y8, y9] := fun tl tp y8 y9 ht hl he => by
      have c12 : cutL (tl.map evD) none (some 12) = (tl.take 12).map evD := cut_lo evD tl 12
      subst hK
      nomatch c12
      refine k (tl.take 12) tp _ ⟨by rw [List.length_take]; omega, fun e hm => ?_⟩ (by rw [List.length_take]; omega) (fun e hm => ?_) ht rfl
      · have := he e (List.mem_of_mem_take hm)
        exact ⟨⟨by omega, this.1.2⟩, by omega, by omega⟩
      · have := he e (List.mem_of_mem_take hm)
        exact ⟨this.1.1, by omega⟩
    walk_at "go"
    refine draw_i (by first | decide | omega) (by assumption) (by first | decide | omega) fun r tp5 _ t5 r0 r1 => ?_
    by_cases hr : r = 0
    · by_cases hz : (0 : Int) < tl.length
      · have hlast := at_neg1 evD tl (by omega)
        have hb := he _ (List.getElem_mem (show tl.length - 1 < tl.length by omega))
        generalize tl[tl.length - 1]'(by omega) = e at hlast hb
        have c11 : cutL (tl.map evD) none (some 11) = (tl.take 11).map evD := cut_lo evD tl 11
        nomatch hr, hz, hlast, evD_eq, c11
        refine ⟨small_of (n := (tl.take 11).length + 1) (by rw [List.length_take]; omega), ?_⟩
        rw [show (tl.take 11).map evD ++ [PyData.tuple [.str e.1, .int (if 0 > e.2 - 1 then 0 else e.2 - 1)]] = (tl.take 11 ++ [(e.1, (if 0 > e.2 - 1 then 0 else e.2 - 1))]).map evD by rw [List.map_append]; rfl]
        refine nx _ _ _ _ t5 (by rw [List.length_append, List.length_take]; simp; omega) fun e' hm => ?_
        rcases List.mem_append.mp hm with q | q
        · have := he e' (List.mem_of_mem_take q)
          exact ⟨this.1, by omega, by omega⟩
        · rw [List.mem_singleton.mp q]
          exact ⟨hb.1, by dsimp only; split <;> omega, by dsimp only; split <;> omega⟩
      · nomatch hr, hz
        exact nx _ _ _ _ t5 (by omega) fun e hm => by have := he e hm; exact ⟨this.1, by omega, by omega⟩
    · nomatch hr
      exact nx _ _ _ _ t5 (by omega) fun e hm => by have := he e hm; exact ⟨this.1, by omega, by omega⟩
end
end Dlk51

set_option Elab.async false
set_option linter.all false
set_option maxRecDepth 100000
set_option maxHeartbeats 4000000
set_option autoImplicit false
namespace Dlk51
open PySem PySem.Spec L2 DL
local macro_rules | `(tactic| walk_at "go") => `(tactic| simp only [outE_i, outE_n, sz0, sz1, sz2, sz3, sz4, sz5, sz6, sz7, sz8, sz9, sz10, sz11, sz12, sz13, sz14, sz15, sz16, ↓tdFr, ↓frE, ↓rdDivmod, ↓rdNotIn, ↓tdTru, ↓startE, ↓tdSeq, ↓tdSet, ↓tdSetD, ↓tdDrop, ↓tdRet, ↓tdIfS, ↓tdNext, ↓tdAsg, ↓tdV, ↓tdC, ↓tdBin, ↓tdB, ↓tdCons, ↓tdNil, ↓tdTup, ↓tdLst, ↓tdTest, ↓tdAnd, ↓tdOr, ↓tdNot, ↓tdIf, ↓tdAndV, ↓tdOrV, ↓tdNotV, ↓tdNeg, ↓tdIsN, ↓tdNotN, ↓tdSl, ↓tdPart, ↓tdNoPart, ↓tdM, ↓tdSetIx, ↓tdAug, ↓tdPut, ↓tdGet2, ↓tdIsi, ↓tdListRg, ↓gdName, ↓gdNil, ↓gdCons, ↓gdTup, ↓tdIt, ↓tdRng1, ↓tdRng2, ↓tdCall, ↓tdNew, ↓tdJoin, ↓gcName, ↓gcNil, ↓gcCons, ↓gcTup, ↓tdYes, ↓res, ↓resR, ↓resAll, ↓rvD, ↓rdLen, ↓rdInt, ↓rdAbs, ↓rdMax2, ↓rdMin2, ↓rdOrd, ↓rdTuple, ↓rdList, ↓rdIx, ↓rdAdd, ↓rdSub, ↓rdMul, ↓rdMod, ↓rdDiv, ↓rdPow, ↓rdCmp, ↓rdEq, ↓rdNe, ↓rdIadd, ↓rdIn, ↓rdSorted, ↓rdSl, ↓isT, ↓rdAppend, ↓itemsOf, ↓rvOf, ↓argsOf, ↓argOf, Nat.reduceAdd, Nat.reduceLT, Nat.reduceSub, Int.reduceLT, Int.reduceLE, Int.reduceAdd, Int.reduceEq, Int.reduceNeg, Nat.reduceLeDiff, Nat.zero_add, Nat.reduceEqDiff, Nat.reduceBEq, ix41, ix42, ix43, ix40, List.length_cons, List.length_nil, List.map_cons, List.map_nil, List.replicate, List.cons_append, List.nil_append, List.getElem?_cons_zero, List.getElem?_cons_succ, List.set_cons_zero, List.set_cons_succ, Option.map_some, at0, at1, at2, at3, ix0, ix1, ix2, ix3, sh_int, sh_bl, sh_non, eqv_int, eqv_bl, eqv_str, decide_eq_true_eq, Bool.not_eq_true, Bool.not_true, Bool.not_false, Bool.false_eq_true, true_and, and_true, if_true, if_false, ite_true, ite_false, List.length_map, List.length_set, Sl.isD, List.mem_singleton, List.mem_cons, List.not_mem_nil, not_true_eq_false, not_false_eq_true, or_false])
local macro_rules | `(tactic| nomatch $xs,*) => `(tactic| simp only [$[$xs:term],*, outE_i, outE_n, sz0, sz1, sz2, sz3, sz4, sz5, sz6, sz7, sz8, sz9, sz10, sz11, sz12, sz13, sz14, sz15, sz16, ↓tdFr, ↓frE, ↓rdDivmod, ↓rdNotIn, ↓tdTru, ↓startE, ↓tdSeq, ↓tdSet, ↓tdSetD, ↓tdDrop, ↓tdRet, ↓tdIfS, ↓tdNext, ↓tdAsg, ↓tdV, ↓tdC, ↓tdBin, ↓tdB, ↓tdCons, ↓tdNil, ↓tdTup, ↓tdLst, ↓tdTest, ↓tdAnd, ↓tdOr, ↓tdNot, ↓tdIf, ↓tdAndV, ↓tdOrV, ↓tdNotV, ↓tdNeg, ↓tdIsN, ↓tdNotN, ↓tdSl, ↓tdPart, ↓tdNoPart, ↓tdM, ↓tdSetIx, ↓tdAug, ↓tdPut, ↓tdGet2, ↓tdIsi, ↓tdListRg, ↓gdName, ↓gdNil, ↓gdCons, ↓gdTup, ↓tdIt, ↓tdRng1, ↓tdRng2, ↓tdCall, ↓tdNew, ↓tdJoin, ↓gcName, ↓gcNil, ↓gcCons, ↓gcTup, ↓tdYes, ↓res, ↓resR, ↓resAll, ↓rvD, ↓rdLen, ↓rdInt, ↓rdAbs, ↓rdMax2, ↓rdMin2, ↓rdOrd, ↓rdTuple, ↓rdList, ↓rdIx, ↓rdAdd, ↓rdSub, ↓rdMul, ↓rdMod, ↓rdDiv, ↓rdPow, ↓rdCmp, ↓rdEq, ↓rdNe, ↓rdIadd, ↓rdIn, ↓rdSorted, ↓rdSl, ↓isT, ↓rdAppend, ↓itemsOf, ↓rvOf, ↓argsOf, ↓argOf, Nat.reduceAdd, Nat.reduceLT, Nat.reduceSub, Int.reduceLT, Int.reduceLE, Int.reduceAdd, Int.reduceEq, Int.reduceNeg, Nat.reduceLeDiff, Nat.zero_add, Nat.reduceEqDiff, Nat.reduceBEq, ix41, ix42, ix43, ix40, List.length_cons, List.length_nil, List.map_cons, List.map_nil, List.replicate, List.cons_append, List.nil_append, List.getElem?_cons_zero, List.getElem?_cons_succ, List.set_cons_zero, List.set_cons_succ, Option.map_some, at0, at1, at2, at3, ix0, ix1, ix2, ix3, sh_int, sh_bl, sh_non, eqv_int, eqv_bl, eqv_str, decide_eq_true_eq, Bool.not_eq_true, Bool.not_true, Bool.not_false, Bool.false_eq_true, true_and, and_true, if_true, if_false, ite_true, ite_false, List.length_map, List.length_set, Sl.isD, List.mem_singleton, List.mem_cons, List.not_mem_nil, not_true_eq_false, not_false_eq_true, or_false])
section
variable {args : List Sl} {Q : Sl → (Nat → Option Sl) → Prop}
theorem tl_cut {P : Str × Int → Prop} {tl : Tl} (j k : Nat) {mid : Tl} (h : ∀ e ∈ tl, P e) (hm : ∀ e ∈ mid, P e) : ∀ e ∈ tl.take j ++ mid ++ tl.drop k, P e := fun e he => by
  rcases List.mem_append.mp he with q | q
  · rcases List.mem_append.mp q with q | q
    · exact h e (List.mem_of_mem_take q)
    · exact hm e q
  · exact h e (List.mem_of_mem_drop q)
theorem h_law_moved (hl : args.length = 3) (h : sp_law_moved args Q) : t_law_moved (KD Q) (startE 7 args) := by
  obtain ⟨tp, tl, ns, rfl, hn, hN, hT, hl12, hE, ht, k⟩ := h
  unfold t_law_moved tlD
  refine seq_i fun Kc hK => ?_
  obtain ⟨n0, hn0⟩ : ∃ z, ns[0]? = some z := ⟨_, List.getElem?_eq_getElem (by omega)⟩
  have hb0 := hN n0 (List.mem_of_getElem? hn0)
  have a0 : atI (ns.map PyData.str) 0 = some (.str n0) := atI_nat (j := 0) (by rw [List.getElem?_map, hn0]; rfl)
  by_cases hz : (tl.length : Int) = 0
  · nomatch hz, a0
    exact k [(n0, 3)] _ _ ⟨by simp, fun e he => by rw [List.mem_singleton.mp he]; exact ⟨⟨by dsimp only; omega, hb0.2⟩, by dsimp only; omega, by dsimp only; omega⟩⟩ ht rfl
  · nomatch hz
    subst hK
    refine seq_i fun Kc hK => ?_
    walk_at "go"
    refine draw_i (by first | decide | omega) (by assumption) (by first | decide | omega) fun r tp1 _ t1 r0 r1 => ?_
    obtain ⟨j, rfl⟩ : ∃ j : Nat, r = j := ⟨r.toNat, by omega⟩
    obtain ⟨e, he⟩ := get_lt (tl := tl) (i := j) (by omega)
    have hj : j < tl.length := by omega
    have eb := hE e (List.mem_of_getElem? he)
    have eo := hT.2 e (List.mem_of_getElem? he)
    walk_at "go"
    subst hK
    refine seq_i fun Kc hK => ?_
    nomatch at_tl he
    subst hK
    refine seq_i fun Kc hK => ?_
    walk_at "go"
    refine pick_map .str ns (fun z => z.length ≤ 20 ∧ Sg z) (by rfl) (by omega) t1 hN fun nm tp2 _ t2 hs => ?_
    walk_at "go"
    refine ⟨small_of (by rw [show ("0" : Str).length = 1 from rfl]; omega), ?_⟩
    refine pick_map evD [(e.1, e.2 + 1), (e.1, if 0 > e.2 - 1 then 0 else e.2 - 1), (nm, e.2), (e.1 ++ "0", e.2), (e.1, e.2 + 99)] (fun e => (e.1.length ≤ 21 ∧ Sg e.1) ∧ 0 ≤ e.2 ∧ e.2 ≤ 1000099) (by rfl) (by simp) t2 (fun e' hm => ?_) fun f tp3 _ t3 hf => ?_
    · simp only [List.mem_cons, List.not_mem_nil, or_false] at hm
      have s0 : Sg "0" := by unfold Sg; decide +kernel
      rcases hm with rfl | rfl | rfl | rfl | rfl
      · exact ⟨⟨by dsimp only; omega, eo.1.2⟩, by dsimp only; omega, by dsimp only; omega⟩
      · exact ⟨⟨by dsimp only; omega, eo.1.2⟩, by dsimp only; split <;> omega, by dsimp only; split <;> omega⟩
      · exact ⟨⟨by dsimp only; omega, hs.2⟩, by dsimp only; omega, by dsimp only; omega⟩
      · exact ⟨⟨by dsimp only; rw [len_app, show ("0" : Str).length = 1 from rfl]; omega, sg_app eo.1.2 s0⟩, by dsimp only; omega, by dsimp only; omega⟩
      · exact ⟨⟨by dsimp only; omega, eo.1.2⟩, by dsimp only; omega, by dsimp only; omega⟩
    nomatch evD_eq
    subst hK
    have c1 : cutL (tl.map evD) none (some (j : Int)) = (tl.take j).map evD := cut_lo evD tl j
    have c2 : cutL (tl.map evD) (some ((j : Int) + 1)) none = (tl.drop (j + 1)).map evD := cut_hi evD tl (j + 1)
    nomatch c1, c2
    have hcl := cutS_length f.1 none (some 12)
    refine ⟨small_of (by omega), small_of (by rw [List.length_take]; omega), small_of (by simp; omega), ?_⟩
    rw [show (tl.take j).map evD ++ [PyData.tuple [.str (cutS f.1 none (some 12)), .int f.2]] ++ (tl.drop (j + 1)).map evD = (tl.take j ++ [(cutS f.1 none (some 12), f.2)] ++ tl.drop (j + 1)).map evD by rw [List.map_append, List.map_append]; rfl]
    refine k _ _ _ ⟨by simp; omega, tl_cut j (j + 1) hT.2 fun e' hm => ?_⟩ t3 rfl
    rw [List.mem_singleton.mp hm]
    exact ⟨⟨by dsimp only; omega, sg_cut hf.1.2 _ _⟩, by dsimp only; omega, by dsimp only; omega⟩
theorem h_law_own (hl : args.length = 5) (h : sp_law_own args Q) : t_law_own (KD Q) (startE 11 args) := by
  obtain ⟨tp, lease, skew, wait, c, rfl, ⟨⟨L0, L1⟩, ⟨K0, K1⟩, W0, W1⟩, ht, k⟩ := h
  unfold t_law_own
  refine seq_i fun Kc hK => ?_
  walk_at "go"
  refine draw_i (by first | decide | omega) (by assumption) (by first | decide | omega) fun d tp1 _ t1 d0 d1 => ?_
  walk_at "go"
  refine pick_ints [0, skew, skew + d, 4000] (fun g => 0 ≤ g ∧ g ≤ 4000) (by rfl) (by simp) t1 (fun n hn => by simp only [List.mem_cons, List.not_mem_nil, or_false] at hn; omega) fun first tp2 _ t2 hf => ?_
  walk_at "go"
  subst hK
  refine seq_i fun Kc hK => ?_
  walk_at "go"
  refine pick_ints [0, 0, 1, 5] (fun g => 0 ≤ g ∧ g ≤ 5) (by rfl) (by simp) t2 (by decide) fun p1 tp3 _ t3 hp1 => ?_
  walk_at "go"
  subst hK
  obtain ⟨low, hlow⟩ : ∃ low : Int, (if first - skew > 0 then first - skew else 0) + p1 = low := ⟨_, rfl⟩
  have hlow2 : 0 ≤ low ∧ low ≤ 4005 := by rw [← hlow]; constructor <;> split <;> omega
  rw [hlow]
  refine seq_i fun Kc hK => ?_
  walk_at "go"
  refine pick_ints [0, 0, 1] (fun g => 0 ≤ g ∧ g ≤ 1) (by rfl) (by simp) t3 (by decide) fun p2 tp4 _ t4 hp2 => ?_
  walk_at "go"
  subst hK
  obtain ⟨high, hhigh⟩ : ∃ high : Int, (if first - skew > low + wait + (if c = true then 1 else 0) then first - skew else low + wait + (if c = true then 1 else 0)) + p2 = high := ⟨_, rfl⟩
  have hhigh2 : 0 ≤ high ∧ high ≤ 104100 := by rw [← hhigh]; constructor <;> repeat' split <;> omega
  rw [hhigh]
  refine seq_i fun Kc hK => ?_
  simp only [↓rdMax3, outE_i, outE_n, sz0, sz1, sz2, sz3, sz4, sz5, sz6, sz7, sz8, sz9, sz10, sz11, sz12, sz13, sz14, sz15, sz16, ↓tdFr, ↓frE, ↓rdDivmod, ↓rdNotIn, ↓tdTru, ↓startE, ↓tdSeq, ↓tdSet, ↓tdSetD, ↓tdDrop, ↓tdRet, ↓tdIfS, ↓tdNext, ↓tdAsg, ↓tdV, ↓tdC, ↓tdBin, ↓tdB, ↓tdCons, ↓tdNil, ↓tdTup, ↓tdLst, ↓tdTest, ↓tdAnd, ↓tdOr, ↓tdNot, ↓tdIf, ↓tdAndV, ↓tdOrV, ↓tdNotV, ↓tdNeg, ↓tdIsN, ↓tdNotN, ↓tdSl, ↓tdPart, ↓tdNoPart, ↓tdM, ↓tdSetIx, ↓tdAug, ↓tdPut, ↓tdGet2, ↓tdIsi, ↓tdListRg, ↓gdName, ↓gdNil, ↓gdCons, ↓gdTup, ↓tdIt, ↓tdRng1, ↓tdRng2, ↓tdCall, ↓tdNew, ↓tdJoin, ↓gcName, ↓gcNil, ↓gcCons, ↓gcTup, ↓tdYes, ↓res, ↓resR, ↓resAll, ↓rvD, ↓rdLen, ↓rdInt, ↓rdAbs, ↓rdMax2, ↓rdMin2, ↓rdOrd, ↓rdTuple, ↓rdList, ↓rdIx, ↓rdAdd, ↓rdSub, ↓rdMul, ↓rdMod, ↓rdDiv, ↓rdPow, ↓rdCmp, ↓rdEq, ↓rdNe, ↓rdIadd, ↓rdIn, ↓rdSorted, ↓rdSl, ↓isT, ↓rdAppend, ↓itemsOf, ↓rvOf, ↓argsOf, ↓argOf, Nat.reduceAdd, Nat.reduceLT, Nat.reduceSub, Int.reduceLT, Int.reduceLE, Int.reduceAdd, Int.reduceEq, Int.reduceNeg, Nat.reduceLeDiff, Nat.zero_add, Nat.reduceEqDiff, Nat.reduceBEq, ix41, ix42, ix43, ix40, List.length_cons, List.length_nil, List.map_cons, List.map_nil, List.replicate, List.cons_append, List.nil_append, List.getElem?_cons_zero, List.getElem?_cons_succ, List.set_cons_zero, List.set_cons_succ, Option.map_some, at0, at1, at2, at3, ix0, ix1, ix2, ix3, sh_int, sh_bl, sh_non, eqv_int, eqv_bl, eqv_str, decide_eq_true_eq, Bool.not_eq_true, Bool.not_true, Bool.not_false, Bool.false_eq_true, true_and, and_true, if_true, if_false, ite_true, ite_false, List.length_map, List.length_set, Sl.isD, List.mem_singleton, List.mem_cons, List.not_mem_nil, not_true_eq_false, not_false_eq_true, or_false]
  subst hK
  obtain ⟨top, htop⟩ : ∃ top : Int, (if high > (if low > first then low else first) then high else (if low > first then low else first)) = top := ⟨_, rfl⟩
  have htop2 : 0 ≤ top ∧ top ≤ 104100 := by rw [← htop]; constructor <;> repeat' split <;> omega
  rw [htop]
  refine seq_i fun Kc hK => ?_
  walk_at "go"
  refine pick_ints [0, 0, 1, skew] (fun g => 0 ≤ g ∧ g ≤ 100) (by rfl) (by simp) t4 (fun n hn => by simp only [List.mem_cons, List.not_mem_nil, or_false] at hn; omega) fun p3 tp5 _ t5 hp3 => ?_
  walk_at "go"
  subst hK
  obtain ⟨fetch, hfetch⟩ : ∃ fetch : Int, (if top - skew > 0 then top - skew else 0) + p3 = fetch := ⟨_, rfl⟩
  have hfetch2 : 0 ≤ fetch ∧ fetch ≤ 104200 := by rw [← hfetch]; constructor <;> split <;> omega
  rw [hfetch]
  refine seq_i fun Kc hK => ?_
  have nx : ∀ (en : Int) tp, TapeOk tp → 0 ≤ en → en ≤ 104300 → Kc [some (.l (tp)), some (.d (.int (lease))), some (.d (.int (skew))), some (.d (.int (wait))), some (.d (.bool c)), some (.d (.int (first))), some (.d (.int (low))), some (.d (.int (high))), some (.d (.int (top))), some (.d (.int (fetch))), some (.d (.int (en)))] := fun en tp ht n0 n1 => by
    subst hK
    refine seq_i fun Kc hK => ?_
    walk_at "go"
    refine pick_ints [en, en, if first + lease > en then first + lease else en, if first + lease - 1 > en then first + lease - 1 else en] (fun g => 0 ≤ g ∧ g ≤ 120000) (by rfl) (by simp) ht (fun n hn => by
      simp only [List.mem_cons, List.not_mem_nil, or_false] at hn
      rcases hn with rfl | rfl | rfl | rfl
      · omega
      · omega
      · split <;> omega
      · split <;> omega) fun e2 tp6 _ t6 he2 => ?_
    walk_at "go"
    subst hK
    refine seq_i fun Kc hK => ?_
    have ok : ∀ (z : Str) (n : Int), Sg z → z.length = 1 → 0 ≤ n → n ≤ 120000 → (NmOk z ∧ 0 ≤ n ∧ n ≤ 2000000) := fun z n a b c d => ⟨⟨by omega, a⟩, c, by omega⟩
    cases c with
    | true =>
      walk_at "go"
      refine k [("a", first), ("k", low), ("k", high), ("b", fetch), ("a", e2)] _ _ ⟨by simp, fun e he => ?_⟩ (by simp) (fun e he => ?_) t6 rfl
      · simp only [List.mem_cons, List.not_mem_nil, or_false] at he
        rcases he with rfl | rfl | rfl | rfl | rfl
        · exact ok _ _ sg_a rfl (by omega) (by omega)
        · exact ok _ _ sg_k rfl (by omega) (by omega)
        · exact ok _ _ sg_k rfl (by omega) (by omega)
        · exact ok _ _ sg_b rfl (by omega) (by omega)
        · exact ok _ _ sg_a rfl (by omega) (by omega)
      · simp only [List.mem_cons, List.not_mem_nil, or_false] at he
        rcases he with rfl | rfl | rfl | rfl | rfl <;> dsimp only <;> omega
    | false =>
      walk_at "go"
      subst hK
      walk_at "go"
      refine k [("c", first), ("g", low), ("g", high), ("c", e2)] _ _ ⟨by simp, fun e he => ?_⟩ (by simp) (fun e he => ?_) t6 rfl
      · simp only [List.mem_cons, List.not_mem_nil, or_false] at he
        rcases he with rfl | rfl | rfl | rfl
        · exact ok _ _ sg_c rfl (by omega) (by omega)
        · exact ok _ _ sg_g rfl (by omega) (by omega)
        · exact ok _ _ sg_g rfl (by omega) (by omega)
        · exact ok _ _ sg_c rfl (by omega) (by omega)
      · simp only [List.mem_cons, List.not_mem_nil, or_false] at he
        rcases he with rfl | rfl | rfl | rfl <;> dsimp only <;> omega
  cases c with
  | true =>
    walk_at "go"
    exact nx _ _ t5 (by repeat' split
                        all_goals omega) (by repeat' split
                                             all_goals omega)
  | false =>
    walk_at "go"
    exact nx _ _ t5 (by repeat' split
                        all_goals omega) (by repeat' split
                                             all_goals omega)
theorem h_law_changed (hl : args.length = 2) (h : sp_law_changed args Q) : t_law_changed (KD Q) (startE 6 args) := by
  obtain ⟨tp, tl, rfl, hT, hn, hE, ht, k⟩ := h
  unfold t_law_changed tlD
  refine seq_i fun Kc hK => ?_
  walk_at "go"
  refine draw_i (by first | decide | omega) (by assumption) (by first | decide | omega) fun r tp1 _ t1 r0 r1 => ?_
  obtain ⟨j, rfl⟩ : ∃ j : Nat, r = j := ⟨r.toNat, by omega⟩
  obtain ⟨e, he⟩ := get_lt (tl := tl) (i := j) (by omega)
  have hj : j < tl.length := by omega
  have eb := hE e (List.mem_of_getElem? he)
  have eo := hT.2 e (List.mem_of_getElem? he)
  have c1 : cutL (tl.map evD) none (some (j : Int)) = (tl.take j).map evD := cut_lo evD tl j
  have c2 : cutL (tl.map evD) (some ((j : Int) + 1)) none = (tl.drop (j + 1)).map evD := cut_hi evD tl (j + 1)
  have c3 : cutL (tl.map evD) (some (j : Int)) none = (tl.drop j).map evD := cut_hi evD tl j
  walk_at "go"
  subst hK
  refine seq_i fun Kc hK => ?_
  nomatch at_tl he
  subst hK
  refine seq_i fun Kc hK => ?_
  walk_at "go"
  refine draw_i (by first | decide | omega) (by assumption) (by first | decide | omega) fun ch tp2 _ t2 ch0 ch1 => ?_
  walk_at "go"
  subst hK
  refine seq_i fun Kc hK => ?_
  have nx : ∀ (tick : Int) tp, TapeOk tp → 0 ≤ tick → tick ≤ 1000100 → Kc [some (.l (tp)), some (.d (.tuple (tl.map evD))), some (.d (.int (j))), some (.d (.str e.1)), some (.d (.int (tick))), some (.d (.int (ch)))] := fun tick tp ht a0 a1 => by
    subst hK
    refine seq_i fun Kc hK => ?_
    have nx : ∀ (nm : Str) tp, TapeOk tp → NmOk nm → Kc [some (.l (tp)), some (.d (.tuple (tl.map evD))), some (.d (.int (j))), some (.d (.str nm)), some (.d (.int (tick))), some (.d (.int (ch)))] := fun nm tp ht hnm => by
      have fin : ∀ (mid : Tl) (i : Nat) os, mid.length ≤ 2 → (∀ e ∈ mid, NmOk e.1 ∧ 0 ≤ e.2 ∧ e.2 ≤ 2000000) → ∀ m, os 0 = some (.l tp) → Q (.d (.tuple ((tl.take i ++ mid ++ tl.drop m).map evD))) os := fun mid i os h1 h2 m h3 =>
        k _ tp os ⟨by rw [List.length_append, List.length_append, List.length_take, List.length_drop]; omega, tl_cut i m hT.2 h2⟩ ht h3
      have one : ∀ e' ∈ [(nm, tick)], NmOk e'.1 ∧ 0 ≤ e'.2 ∧ e'.2 ≤ 2000000 := fun e' hm => by rw [List.mem_singleton.mp hm]; exact ⟨hnm, a0, by dsimp only; omega⟩
      subst hK
      refine seq_i fun Kc hK => ?_
      by_cases h4 : ch = 4
      · nomatch h4, c1, c2
        refine ⟨small_of (by rw [List.length_take, List.length_drop]; omega), ?_⟩
        rw [← List.map_append]
        have := fin [] j (osOf [some (.l (tp)), some (.d (.tuple (tl.map evD))), some (.d (.int (j))), some (.d (.str nm)), some (.d (.int (tick))), some (.d (.int (4)))]) (by simp) (fun e he => by cases he) (j + 1) rfl
        rwa [List.append_nil] at this
      · nomatch h4
        subst hK
        refine seq_i fun Kc hK => ?_
        by_cases h5 : ch = 5
        · nomatch h5, c1, c3
          refine ⟨small_of (by rw [List.length_take]; omega), small_of (by simp; omega), ?_⟩
          rw [show (tl.take j).map evD ++ [PyData.tuple [.str nm, .int tick]] ++ (tl.drop j).map evD = (tl.take j ++ [(nm, tick)] ++ tl.drop j).map evD by rw [List.map_append, List.map_append]; rfl]
          exact fin _ _ _ (by simp) one _ rfl
        · nomatch h5
          subst hK
          refine seq_i fun Kc hK => ?_
          have last : Kc [some (.l (tp)), some (.d (.tuple (tl.map evD))), some (.d (.int (j))), some (.d (.str nm)), some (.d (.int (tick))), some (.d (.int (ch)))] := by
            subst hK
            nomatch c1, c2
            refine ⟨small_of (by rw [List.length_take]; omega), small_of (by simp; omega), ?_⟩
            rw [show (tl.take j).map evD ++ [PyData.tuple [.str nm, .int tick]] ++ (tl.drop (j + 1)).map evD = (tl.take j ++ [(nm, tick)] ++ tl.drop (j + 1)).map evD by rw [List.map_append, List.map_append]; rfl]
            exact fin _ _ _ (by simp) one _ rfl
          by_cases h6 : ch = 6
          · by_cases hp : (0 : Int) < j
            · obtain ⟨i, rfl⟩ : ∃ i, j = i + 1 := ⟨j - 1, by omega⟩
              obtain ⟨e', he'⟩ := get_lt (tl := tl) (i := i) (by omega)
              have e1 : atI (tl.map evD) (((i + 1 : Nat) : Int) - 1) = some (.tuple [.str e'.1, .int e'.2]) := by
                rw [show ((i + 1 : Nat) : Int) - 1 = (i : Int) by omega]
                exact at_tl he'
              have c4 : cutL (tl.map evD) none (some (((i + 1 : Nat) : Int) - 1)) = (tl.take i).map evD := by
                rw [show ((i + 1 : Nat) : Int) - 1 = (i : Int) by omega]
                exact cut_lo evD tl i
              nomatch h6, hp, c4, c2, at_tl he, e1
              refine ⟨small_of (by rw [List.length_take]; omega), small_of (by simp; omega), ?_⟩
              rw [show (tl.take i).map evD ++ [PyData.tuple [.str e.1, .int e.2], .tuple [.str e'.1, .int e'.2]] ++ (tl.drop (i + 1 + 1)).map evD = (tl.take i ++ [e, e'] ++ tl.drop (i + 1 + 1)).map evD by rw [List.map_append, List.map_append]; rfl]
              refine fin _ _ _ (by simp) (fun z hz => ?_) _ rfl
              simp only [List.mem_cons, List.not_mem_nil, or_false] at hz
              rcases hz with rfl | rfl
              · exact eo
              · exact hT.2 _ (List.mem_of_getElem? he')
            · nomatch h6, hp
              subst h6
              exact last
          · nomatch h6
            exact last
    by_cases h3 : ch = 3
    · nomatch h3
      refine pick_map .str ["a", "b", "c", "g", "k", "kk"] (fun z => NmOk z) (by rfl) (by decide) ht (fun z hz => ?_) fun nm tp3 _ t3 hnm => ?_
      · simp only [List.mem_cons, List.not_mem_nil, or_false] at hz
        rcases hz with rfl | rfl | rfl | rfl | rfl | rfl
        · exact ⟨by decide, sg_a⟩
        · exact ⟨by decide, sg_b⟩
        · exact ⟨by decide, sg_c⟩
        · exact ⟨by decide, sg_g⟩
        · exact ⟨by decide, sg_k⟩
        · exact ⟨by decide, by unfold Sg; decide +kernel⟩
      subst h3
      walk_at "go"
      exact nx _ _ t3 hnm
    · nomatch h3
      exact nx _ _ ht eo.1
  by_cases h3 : ch < 3
  · nomatch h3
    refine pick_ints [1, -1, 1, -1, 2, 99] (fun g => -1 ≤ g ∧ g ≤ 99) (by rfl) (by decide) t2 (by decide) fun g tp3 _ t3 hg => ?_
    walk_at "go"
    exact nx _ _ t3 (by split <;> omega) (by split <;> omega)
  · nomatch h3
    exact nx _ _ t2 eo.2.1 (by omega)
end
end Dlk51

set_option Elab.async false
set_option linter.all false
set_option maxRecDepth 100000
set_option maxHeartbeats 4000000
set_option autoImplicit false
namespace Dlk51
open PySem PySem.Spec L2 DL
local macro_rules | `(tactic| walk_at "go") => `(tactic| simp only [outE_i, outE_n, sz0, sz1, sz2, sz3, sz4, sz5, sz6, sz7, sz8, sz9, sz10, sz11, sz12, sz13, sz14, sz15, sz16, ↓tdFr, ↓frE, ↓rdDivmod, ↓rdNotIn, ↓tdTru, ↓startE, ↓tdSeq, ↓tdSet, ↓tdSetD, ↓tdDrop, ↓tdRet, ↓tdIfS, ↓tdNext, ↓tdAsg, ↓tdV, ↓tdC, ↓tdBin, ↓tdB, ↓tdCons, ↓tdNil, ↓tdTup, ↓tdLst, ↓tdTest, ↓tdAnd, ↓tdOr, ↓tdNot, ↓tdIf, ↓tdAndV, ↓tdOrV, ↓tdNotV, ↓tdNeg, ↓tdIsN, ↓tdNotN, ↓tdSl, ↓tdPart, ↓tdNoPart, ↓tdM, ↓tdSetIx, ↓tdAug, ↓tdPut, ↓tdGet2, ↓tdIsi, ↓tdListRg, ↓gdName, ↓gdNil, ↓gdCons, ↓gdTup, ↓tdIt, ↓tdRng1, ↓tdRng2, ↓tdCall, ↓tdNew, ↓tdJoin, ↓gcName, ↓gcNil, ↓gcCons, ↓gcTup, ↓tdYes, ↓res, ↓resR, ↓resAll, ↓rvD, ↓rdLen, ↓rdInt, ↓rdAbs, ↓rdMax2, ↓rdMin2, ↓rdOrd, ↓rdTuple, ↓rdList, ↓rdIx, ↓rdAdd, ↓rdSub, ↓rdMul, ↓rdMod, ↓rdDiv, ↓rdPow, ↓rdCmp, ↓rdEq, ↓rdNe, ↓rdIadd, ↓rdIn, ↓rdSorted, ↓rdSl, ↓isT, ↓rdAppend, ↓itemsOf, ↓rvOf, ↓argsOf, ↓argOf, Nat.reduceAdd, Nat.reduceLT, Nat.reduceSub, Int.reduceLT, Int.reduceLE, Int.reduceAdd, Int.reduceEq, Int.reduceNeg, Nat.reduceLeDiff, Nat.zero_add, Nat.reduceEqDiff, Nat.reduceBEq, ix41, ix42, ix43, ix40, List.length_cons, List.length_nil, List.map_cons, List.map_nil, List.replicate, List.cons_append, List.nil_append, List.getElem?_cons_zero, List.getElem?_cons_succ, List.set_cons_zero, List.set_cons_succ, Option.map_some, at0, at1, at2, at3, ix0, ix1, ix2, ix3, sh_int, sh_bl, sh_non, eqv_int, eqv_bl, eqv_str, decide_eq_true_eq, Bool.not_eq_true, Bool.not_true, Bool.not_false, Bool.false_eq_true, true_and, and_true, if_true, if_false, ite_true, ite_false, List.length_map, List.length_set, Sl.isD, List.mem_singleton, List.mem_cons, List.not_mem_nil, not_true_eq_false, not_false_eq_true, or_false])
local macro_rules | `(tactic| nomatch $xs,*) => `(tactic| simp only [$[$xs:term],*, outE_i, outE_n, sz0, sz1, sz2, sz3, sz4, sz5, sz6, sz7, sz8, sz9, sz10, sz11, sz12, sz13, sz14, sz15, sz16, ↓tdFr, ↓frE, ↓rdDivmod, ↓rdNotIn, ↓tdTru, ↓startE, ↓tdSeq, ↓tdSet, ↓tdSetD, ↓tdDrop, ↓tdRet, ↓tdIfS, ↓tdNext, ↓tdAsg, ↓tdV, ↓tdC, ↓tdBin, ↓tdB, ↓tdCons, ↓tdNil, ↓tdTup, ↓tdLst, ↓tdTest, ↓tdAnd, ↓tdOr, ↓tdNot, ↓tdIf, ↓tdAndV, ↓tdOrV, ↓tdNotV, ↓tdNeg, ↓tdIsN, ↓tdNotN, ↓tdSl, ↓tdPart, ↓tdNoPart, ↓tdM, ↓tdSetIx, ↓tdAug, ↓tdPut, ↓tdGet2, ↓tdIsi, ↓tdListRg, ↓gdName, ↓gdNil, ↓gdCons, ↓gdTup, ↓tdIt, ↓tdRng1, ↓tdRng2, ↓tdCall, ↓tdNew, ↓tdJoin, ↓gcName, ↓gcNil, ↓gcCons, ↓gcTup, ↓tdYes, ↓res, ↓resR, ↓resAll, ↓rvD, ↓rdLen, ↓rdInt, ↓rdAbs, ↓rdMax2, ↓rdMin2, ↓rdOrd, ↓rdTuple, ↓rdList, ↓rdIx, ↓rdAdd, ↓rdSub, ↓rdMul, ↓rdMod, ↓rdDiv, ↓rdPow, ↓rdCmp, ↓rdEq, ↓rdNe, ↓rdIadd, ↓rdIn, ↓rdSorted, ↓rdSl, ↓isT, ↓rdAppend, ↓itemsOf, ↓rvOf, ↓argsOf, ↓argOf, Nat.reduceAdd, Nat.reduceLT, Nat.reduceSub, Int.reduceLT, Int.reduceLE, Int.reduceAdd, Int.reduceEq, Int.reduceNeg, Nat.reduceLeDiff, Nat.zero_add, Nat.reduceEqDiff, Nat.reduceBEq, ix41, ix42, ix43, ix40, List.length_cons, List.length_nil, List.map_cons, List.map_nil, List.replicate, List.cons_append, List.nil_append, List.getElem?_cons_zero, List.getElem?_cons_succ, List.set_cons_zero, List.set_cons_succ, Option.map_some, at0, at1, at2, at3, ix0, ix1, ix2, ix3, sh_int, sh_bl, sh_non, eqv_int, eqv_bl, eqv_str, decide_eq_true_eq, Bool.not_eq_true, Bool.not_true, Bool.not_false, Bool.false_eq_true, true_and, and_true, if_true, if_false, ite_true, ite_false, List.length_map, List.length_set, Sl.isD, List.mem_singleton, List.mem_cons, List.not_mem_nil, not_true_eq_false, not_false_eq_true, or_false])
section
variable {args : List Sl} {Q : Sl → (Nat → Option Sl) → Prop}
theorem ok_bool (b : Bool) : RepOk (.bool b) := rep_ok rep_bool (by decide) (by decide)
theorem ok_none : RepOk .none := rep_ok rep_none (by decide) (by decide)
theorem ok_int {i : Int} (h : -1000000000000 < i ∧ i < 1000000000000) : RepOk (.int i) := rep_ok (rep_int h) (by decide) (by decide)
theorem ok_tl {tl : Tl} (h : TlOk tl) : RepOk (tlD tl) := by
  have h1 : ∀ e ∈ tl, RepN 1 166 (evD e) := fun e he => by
    have := h.2 e he
    exact (rep_tup (rep_cons (rep_str this.1.2 this.1.1) (rep_cons ((rep_int (by omega)).mono (by decide) (Nat.le_refl _)) rep_nil))).mono (Nat.le_refl _) (by decide)
  exact rep_ok (rep_tup (rep_map evD tl h1)) (by decide) (by have := h.1; omega)
theorem tl_cross {lease skew wait : Int} (h : Set3 lease skew wait) : (crossD lease skew wait = .none) ∨ ∃ tl, crossD lease skew wait = tlD tl ∧ TlOk tl ∧ (1 ≤ tl.length ∧ tl.length ≤ 5) ∧ ∀ e ∈ tl, e.2 ≤ 1000000 := by
  obtain ⟨⟨L0, L1⟩, ⟨K0, K1⟩, W0, W1⟩ := h
  unfold crossD
  split
  · exact .inl rfl
  · refine .inr ⟨_, rfl, ⟨by simp, fun e he => ?_⟩, by simp, fun e he => ?_⟩
    · simp only [List.mem_cons, List.not_mem_nil, or_false] at he
      unfold max2 at he
      rcases he with rfl | rfl | rfl | rfl | rfl
      · exact ⟨⟨show 1 ≤ 100 by decide, sg_a⟩, by dsimp only; omega, by dsimp only; omega⟩
      · exact ⟨⟨show 1 ≤ 100 by decide, sg_k⟩, by dsimp only; omega, by dsimp only; omega⟩
      · exact ⟨⟨show 1 ≤ 100 by decide, sg_k⟩, by dsimp only; omega, by dsimp only; omega⟩
      · exact ⟨⟨show 1 ≤ 100 by decide, sg_b⟩, by dsimp only; split <;> omega, by dsimp only; split <;> omega⟩
      · exact ⟨⟨show 1 ≤ 100 by decide, sg_a⟩, by dsimp only; split <;> omega, by dsimp only; split <;> omega⟩
    · simp only [List.mem_cons, List.not_mem_nil, or_false] at he
      unfold max2 at he
      rcases he with rfl | rfl | rfl | rfl | rfl <;> dsimp only <;> first | omega | (split <;> omega)
theorem tl_ling {lease skew wait : Int} (h : Set3 lease skew wait) : (lingD lease skew wait = .none) ∨ ∃ tl, lingD lease skew wait = tlD tl ∧ TlOk tl ∧ (1 ≤ tl.length ∧ tl.length ≤ 5) ∧ ∀ e ∈ tl, e.2 ≤ 1000000 := by
  obtain ⟨⟨L0, L1⟩, ⟨K0, K1⟩, W0, W1⟩ := h
  unfold lingD
  split
  · exact .inl rfl
  · refine .inr ⟨_, rfl, ⟨by simp, fun e he => ?_⟩, by simp, fun e he => ?_⟩
    · simp only [List.mem_cons, List.not_mem_nil, or_false] at he
      unfold max2 at he
      rcases he with rfl | rfl | rfl | rfl
      · exact ⟨⟨show 1 ≤ 100 by decide, sg_c⟩, by dsimp only; omega, by dsimp only; omega⟩
      · exact ⟨⟨show 1 ≤ 100 by decide, sg_g⟩, by dsimp only; omega, by dsimp only; omega⟩
      · exact ⟨⟨show 1 ≤ 100 by decide, sg_g⟩, by dsimp only; omega, by dsimp only; omega⟩
      · exact ⟨⟨show 1 ≤ 100 by decide, sg_c⟩, by dsimp only; split <;> omega, by dsimp only; split <;> omega⟩
    · simp only [List.mem_cons, List.not_mem_nil, or_false] at he
      unfold max2 at he
      rcases he with rfl | rfl | rfl | rfl <;> dsimp only <;> first | omega | (split <;> omega)
theorem ok_form {x : PyData} (h : (x = .none) ∨ ∃ tl, x = tlD tl ∧ TlOk tl ∧ (1 ≤ tl.length ∧ tl.length ≤ 5) ∧ ∀ e ∈ tl, e.2 ≤ 1000000) : RepOk x := by
  rcases h with rfl | ⟨tl, rfl, h, _⟩
  · exact ok_none
  · exact ok_tl h
theorem h_law_told (hl : args.length = 4) (h : sp_law_told args Q) : t_law_told (KD Q) (startE 4 args) := by
  obtain ⟨lease, skew, wait, c, rfl, hS, k⟩ := h
  unfold t_law_told
  refine seq_i fun Kc hK => ?_
  cases c with
  | true =>
    walk_at "go"
    refine ⟨lease, skew, wait, rfl, hS, fun os => ?_⟩
    walk_at "go"
    refine ⟨lease, skew, wait, rfl, hS, fun os => ?_⟩
    walk_at "go"
    refine ⟨_, rfl, ok_form (tl_cross hS), fun os => ?_⟩
    walk_at "go"
    exact k _
  | false =>
    walk_at "go"
    subst hK
    walk_at "go"
    refine ⟨lease, skew, wait, rfl, hS, fun os => ?_⟩
    walk_at "go"
    refine ⟨lease, skew, wait, rfl, hS, fun os => ?_⟩
    walk_at "go"
    refine ⟨_, rfl, ok_form (tl_ling hS), fun os => ?_⟩
    walk_at "go"
    exact k _
theorem h_law_strays (hl : args.length = 2) (h : sp_law_strays args Q) : t_law_strays (KD Q) (startE 6 args) := by
  obtain ⟨tp, tl, rfl, hT, ht, k⟩ := h
  unfold t_law_strays
  refine seq_i fun Kc hK => ?_
  walk_at "go"
  refine ⟨tl, rfl, hT, fun r os hr => ?_⟩
  walk_at "go"
  subst hK
  refine seq_i fun Kc hK => ?_
  walk_at "go"
  refine ⟨tl, rfl, hT, fun bk os hb => ?_⟩
  walk_at "go"
  subst hK
  refine seq_i fun Kc hK => ?_
  refine for_i fun Kx hKx => ?_
  walk_at "go"
  refine ⟨tp, 2, rfl, by decide, by decide, ht, fun ds tp1 os hd t1 e1 => ?_⟩
  rw [← ios_eq e1]
  walk_at "go"
  have rb : 0 ≤ r ∧ r ≤ 2000000 := by
    refine ⟨hr.1, ?_⟩
    rcases hr.2.2 with e | e
    · omega
    · refine Int.not_lt.mp fun z => e ?_
      rw [List.pairwise_iff_getElem]
      intro i j hi hj hij
      have a1 := hT.2 _ (List.getElem_mem hi)
      have a2 := hT.2 _ (List.getElem_mem hj)
      omega
  refine hKx _ _ ⟨fun i env => ∃ tp x4 x5, env = [some (.l (tp)), some (.d (tlD tl)), some (.d (.int (r))), some (.d (.bool bk)), x4, x5] ∧ TapeOk tp, ⟨tp1, none, none, rfl, t1⟩, fun i x env hx hP => ?_, fun env hP => ?_⟩
  · obtain ⟨tp, x4, x5, rfl, ht⟩ := hP
    rw [List.getElem?_map] at hx
    obtain ⟨d, hd2, rfl⟩ := Option.map_eq_some_iff.mp hx
    refine ⟨by simp, ?_⟩
    refine seq_i fun Kc hK => ?_
    have nx : Kc [some (.l (tp)), some (.d (tlD tl)), some (.d (.int (r))), some (.d (.bool bk)), some (.d (.int (d))), x5] := by
      subst hK
      by_cases d1 : d = 1
      · nomatch d1
        refine for_i fun Kx hKx => ?_
        walk_at "go"
        refine ⟨tp, .list ([0, 99, if 99 < r then 99 else r, if 99 < (if 0 > r - 1 then 0 else r - 1) then 99 else (if 0 > r - 1 then 0 else r - 1), if 99 < r + 1 then 99 else r + 1].map .int), _, rfl, .inl rfl, by simp, ht, fun ys tp2 os hy t2 e2 => ?_⟩
        rw [← ios_eq e2]
        walk_at "go"
        obtain ⟨ms, rfl, hms⟩ := map_of (p := fun n : Int => 0 ≤ n) PyData.int (acc := ys) fun y hm => by
          obtain ⟨n, hn, rfl⟩ := List.mem_map.mp (hy.mem_iff.mp hm)
          refine ⟨n, rfl, ?_⟩
          simp only [List.mem_cons, List.not_mem_nil, or_false] at hn
          rcases hn with rfl | rfl | rfl | rfl | rfl
          · omega
          · omega
          · split <;> omega
          · repeat' split
            all_goals omega
          · split <;> omega
        refine hKx _ _ ⟨fun i env => ∃ x5, env = [some (.l (tp2)), some (.d (tlD tl)), some (.d (.int (r))), some (.d (.bool bk)), some (.d (.int (1))), x5], ⟨_, rfl⟩, fun i x env hx hP => ?_, fun env hP => ?_⟩
        · obtain ⟨y5, rfl⟩ := hP
          rw [List.getElem?_map] at hx
          obtain ⟨sk, hsk, rfl⟩ := Option.map_eq_some_iff.mp hx
          have sk0 := hms sk (List.mem_of_getElem? hsk)
          walk_at "go"
          refine ⟨tl, sk, rfl, hT, sk0, fun b os hb2 => ?_⟩
          have same : b = ((!bk) && decide (r ≤ sk)) := by
            refine iff_b hb2 ?_
            rw [Bool.and_eq_true, decide_eq_true_eq, ← ex_kept hr sk0]
            constructor
            · rintro ⟨z1, z2⟩
              refine ⟨Classical.byContradiction fun c => ?_, z2⟩
              rw [hb.mpr c] at z1
              cases z1
            · rintro ⟨z1, z2⟩
              refine ⟨?_, z2⟩
              cases bk with
              | true => exact absurd z1 (hb.mp rfl)
              | false => rfl
          cases bk with
          | true =>
            have e : b = false := same
            subst e
            walk_at "go"
            refine ⟨_, rfl, ok_bool _, fun os => ?_⟩
            walk_at "go"
            exact ⟨_, rfl⟩
          | false =>
            have e : b = decide (r ≤ sk) := same
            subst e
            walk_at "go"
            refine ⟨_, rfl, ok_bool _, fun os => ?_⟩
            walk_at "go"
            exact ⟨_, rfl⟩
        · obtain ⟨y5, rfl⟩ := hP
          exact ⟨_, _, _, rfl, t2⟩
      · nomatch d1
        exact ⟨_, _, _, rfl, ht⟩
    by_cases d0 : d = 0
    · nomatch d0
      refine ⟨tl, rfl, hT, fun r2 os hr2 => ?_⟩
      rw [ex_uniq hr2 hr]
      walk_at "go"
      refine ⟨_, rfl, ok_int (by omega), fun os => ?_⟩
      subst d0
      walk_at "go"
      exact nx
    · nomatch d0
      exact nx
  · obtain ⟨tp, x4, x5, rfl, ht⟩ := hP
    subst hK
    walk_at "go"
    exact k _ _ ht rfl
def trD (t : Int × Int × Int) : PyData := .tuple [.int t.1, .int t.2.1, .int t.2.2]
theorem trD_eq (t : Int × Int × Int) : trD t = .tuple [.int t.1, .int t.2.1, .int t.2.2] := rfl
theorem h_law_judged (hl : args.length = 6) (h : sp_law_judged args Q) : t_law_judged (KD Q) (startE 10 args) := by
  obtain ⟨tp, lease, skew, wait, tl, c, rfl, ⟨hS, hL9, hW9⟩, hT, ht, k⟩ := h
  obtain ⟨⟨L0, L1⟩, ⟨K0, K1⟩, W0, W1⟩ := hS
  unfold t_law_judged
  refine seq_i fun Kc hK => ?_
  walk_at "go"
  subst hK
  refine seq_i fun Kc hK => ?_
  walk_at "go"
  subst hK
  obtain ⟨ss, hss, hok, hlen⟩ : ∃ ss : List (Int × Int × Int), ss = [(lease, skew, wait), (lease, skew, wait + 1), (lease, if 99 < skew + 1 then 99 else skew + 1, wait), (lease, if 0 > skew - 1 then 0 else skew - 1, wait), (if 1 > lease - 1 then 1 else lease - 1, skew, wait), (if 9999 < lease + 1 then 9999 else lease + 1, skew, wait), (lease, skew, if 0 > wait - 1 then 0 else wait - 1)] ∧ (∀ t ∈ ss, Set3 t.1 t.2.1 t.2.2) ∧ ss.length = 7 := by
    refine ⟨_, rfl, fun t hm => ?_, rfl⟩
    simp only [List.mem_cons, List.not_mem_nil, or_false] at hm
    unfold Set3
    rcases hm with rfl | rfl | rfl | rfl | rfl | rfl | rfl <;> dsimp only <;> (repeat' constructor) <;> first | omega | (split <;> omega)
  have e0 : atI (ss.map trD) 0 = some (trD (lease, skew, wait)) := by rw [hss]; rfl
  have eL : [PyData.tuple [.int lease, .int skew, .int wait], .tuple [.int lease, .int skew, .int (wait + 1)], .tuple [.int lease, .int (if 99 < skew + 1 then 99 else skew + 1), .int wait], .tuple [.int lease, .int (if 0 > skew - 1 then 0 else skew - 1), .int wait], .tuple [.int (if 1 > lease - 1 then 1 else lease - 1), .int skew, .int wait], .tuple [.int (if 9999 < lease + 1 then 9999 else lease + 1), .int skew, .int wait], .tuple [.int lease, .int skew, .int (if 0 > wait - 1 then 0 else wait - 1)]] = ss.map trD := by rw [hss]; rfl
  rw [eL]
  refine seq_i fun Kc hK => ?_
  refine for_i fun Kx hKx => ?_
  nomatch e0
  refine pick_map trD ss (fun t => Set3 t.1 t.2.1 t.2.2) (by rfl) (by omega) ht hok fun t1 tp1 _ h1 ht1 => ?_
  walk_at "go"
  refine pick_map trD ss (fun t => Set3 t.1 t.2.1 t.2.2) (by rfl) (by omega) h1 hok fun t2 tp2 _ h2 ht2 => ?_
  nomatch e0
  have h0 : Set3 lease skew wait := ⟨⟨L0, L1⟩, ⟨K0, K1⟩, W0, W1⟩
  rw [show [trD (lease, skew, wait), trD t1, trD t2, trD (lease, skew, wait)] = [(lease, skew, wait), t1, t2, (lease, skew, wait)].map trD from rfl]
  refine hKx _ _ ⟨fun i env => ∃ x7 x8 x9, env = [some (.l (tp2)), some (.d (.int (lease))), some (.d (.int (skew))), some (.d (.int (wait))), some (.d (tlD tl)), some (.d (.bool c)), some (.d (.list (ss.map trD))), x7, x8, x9], ⟨none, none, none, rfl⟩, fun i x env hx hP => ?_, fun env hP => ?_⟩
  · obtain ⟨x7, x8, x9, rfl⟩ := hP
    rw [List.getElem?_map] at hx
    obtain ⟨t, hm, rfl⟩ := Option.map_eq_some_iff.mp hx
    have hs : Set3 t.1 t.2.1 t.2.2 := by
      have hm := List.mem_of_getElem? hm
      simp only [List.mem_cons, List.not_mem_nil, or_false] at hm
      rcases hm with rfl | rfl | rfl | rfl
      · exact h0
      · exact ht1
      · exact ht2
      · exact h0
    refine ⟨by simp, ?_⟩
    refine seq_i fun Kc hK => ?_
    cases c with
    | true =>
      nomatch trD_eq
      refine ⟨t.1, t.2.1, t.2.2, tl, rfl, hs, hT, fun b1 os hb1 => ?_⟩
      nomatch trD_eq
      refine ⟨t.1, t.2.1, t.2.2, tl, rfl, hs, hT, fun b2 os hb2 => ?_⟩
      rw [iff_b hb2 hb1]
      nomatch trD_eq
      subst hK
      walk_at "go"
      refine ⟨_, rfl, ok_bool _, fun os => ?_⟩
      walk_at "go"
      exact ⟨_, _, _, rfl⟩
    | false =>
      nomatch trD_eq
      refine ⟨t.1, t.2.1, t.2.2, tl, rfl, hs, hT, fun b1 os hb1 => ?_⟩
      nomatch trD_eq
      refine ⟨t.1, t.2.1, t.2.2, tl, rfl, hs, hT, fun b2 os hb2 => ?_⟩
      rw [iff_b hb2 hb1]
      nomatch trD_eq
      subst hK
      walk_at "go"
      refine ⟨_, rfl, ok_bool _, fun os => ?_⟩
      walk_at "go"
      exact ⟨_, _, _, rfl⟩
  · obtain ⟨x7, x8, x9, rfl⟩ := hP
    subst hK
    walk_at "go"
    exact k _ _ h2 rfl
end
end Dlk51

set_option Elab.async false
set_option linter.all false
set_option maxRecDepth 100000
set_option maxHeartbeats 4000000
set_option autoImplicit false
namespace Dlk51
open PySem PySem.Spec L2 DL
local macro_rules | `(tactic| walk_at "go") => `(tactic| simp only [outE_i, outE_n, sz0, sz1, sz2, sz3, sz4, sz5, sz6, sz7, sz8, sz9, sz10, sz11, sz12, sz13, sz14, sz15, sz16, ↓tdFr, ↓frE, ↓rdDivmod, ↓rdNotIn, ↓tdTru, ↓startE, ↓tdSeq, ↓tdSet, ↓tdSetD, ↓tdDrop, ↓tdRet, ↓tdIfS, ↓tdNext, ↓tdAsg, ↓tdV, ↓tdC, ↓tdBin, ↓tdB, ↓tdCons, ↓tdNil, ↓tdTup, ↓tdLst, ↓tdTest, ↓tdAnd, ↓tdOr, ↓tdNot, ↓tdIf, ↓tdAndV, ↓tdOrV, ↓tdNotV, ↓tdNeg, ↓tdIsN, ↓tdNotN, ↓tdSl, ↓tdPart, ↓tdNoPart, ↓tdM, ↓tdSetIx, ↓tdAug, ↓tdPut, ↓tdGet2, ↓tdIsi, ↓tdListRg, ↓gdName, ↓gdNil, ↓gdCons, ↓gdTup, ↓tdIt, ↓tdRng1, ↓tdRng2, ↓tdCall, ↓tdNew, ↓tdJoin, ↓gcName, ↓gcNil, ↓gcCons, ↓gcTup, ↓tdYes, ↓res, ↓resR, ↓resAll, ↓rvD, ↓rdLen, ↓rdInt, ↓rdAbs, ↓rdMax2, ↓rdMin2, ↓rdOrd, ↓rdTuple, ↓rdList, ↓rdIx, ↓rdAdd, ↓rdSub, ↓rdMul, ↓rdMod, ↓rdDiv, ↓rdPow, ↓rdCmp, ↓rdEq, ↓rdNe, ↓rdIadd, ↓rdIn, ↓rdSorted, ↓rdSl, ↓isT, ↓rdAppend, ↓itemsOf, ↓rvOf, ↓argsOf, ↓argOf, Nat.reduceAdd, Nat.reduceLT, Nat.reduceSub, Int.reduceLT, Int.reduceLE, Int.reduceAdd, Int.reduceEq, Int.reduceNeg, Nat.reduceLeDiff, Nat.zero_add, Nat.reduceEqDiff, Nat.reduceBEq, ix41, ix42, ix43, ix40, List.length_cons, List.length_nil, List.map_cons, List.map_nil, List.replicate, List.cons_append, List.nil_append, List.getElem?_cons_zero, List.getElem?_cons_succ, List.set_cons_zero, List.set_cons_succ, Option.map_some, at0, at1, at2, at3, ix0, ix1, ix2, ix3, sh_int, sh_bl, sh_non, eqv_int, eqv_bl, eqv_str, decide_eq_true_eq, Bool.not_eq_true, Bool.not_true, Bool.not_false, Bool.false_eq_true, true_and, and_true, if_true, if_false, ite_true, ite_false, List.length_map, List.length_set, Sl.isD, List.mem_singleton, List.mem_cons, List.not_mem_nil, not_true_eq_false, not_false_eq_true, or_false])
local macro_rules | `(tactic| nomatch $xs,*) => `(tactic| simp only [$[$xs:term],*, outE_i, outE_n, sz0, sz1, sz2, sz3, sz4, sz5, sz6, sz7, sz8, sz9, sz10, sz11, sz12, sz13, sz14, sz15, sz16, ↓tdFr, ↓frE, ↓rdDivmod, ↓rdNotIn, ↓tdTru, ↓startE, ↓tdSeq, ↓tdSet, ↓tdSetD, ↓tdDrop, ↓tdRet, ↓tdIfS, ↓tdNext, ↓tdAsg, ↓tdV, ↓tdC, ↓tdBin, ↓tdB, ↓tdCons, ↓tdNil, ↓tdTup, ↓tdLst, ↓tdTest, ↓tdAnd, ↓tdOr, ↓tdNot, ↓tdIf, ↓tdAndV, ↓tdOrV, ↓tdNotV, ↓tdNeg, ↓tdIsN, ↓tdNotN, ↓tdSl, ↓tdPart, ↓tdNoPart, ↓tdM, ↓tdSetIx, ↓tdAug, ↓tdPut, ↓tdGet2, ↓tdIsi, ↓tdListRg, ↓gdName, ↓gdNil, ↓gdCons, ↓gdTup, ↓tdIt, ↓tdRng1, ↓tdRng2, ↓tdCall, ↓tdNew, ↓tdJoin, ↓gcName, ↓gcNil, ↓gcCons, ↓gcTup, ↓tdYes, ↓res, ↓resR, ↓resAll, ↓rvD, ↓rdLen, ↓rdInt, ↓rdAbs, ↓rdMax2, ↓rdMin2, ↓rdOrd, ↓rdTuple, ↓rdList, ↓rdIx, ↓rdAdd, ↓rdSub, ↓rdMul, ↓rdMod, ↓rdDiv, ↓rdPow, ↓rdCmp, ↓rdEq, ↓rdNe, ↓rdIadd, ↓rdIn, ↓rdSorted, ↓rdSl, ↓isT, ↓rdAppend, ↓itemsOf, ↓rvOf, ↓argsOf, ↓argOf, Nat.reduceAdd, Nat.reduceLT, Nat.reduceSub, Int.reduceLT, Int.reduceLE, Int.reduceAdd, Int.reduceEq, Int.reduceNeg, Nat.reduceLeDiff, Nat.zero_add, Nat.reduceEqDiff, Nat.reduceBEq, ix41, ix42, ix43, ix40, List.length_cons, List.length_nil, List.map_cons, List.map_nil, List.replicate, List.cons_append, List.nil_append, List.getElem?_cons_zero, List.getElem?_cons_succ, List.set_cons_zero, List.set_cons_succ, Option.map_some, at0, at1, at2, at3, ix0, ix1, ix2, ix3, sh_int, sh_bl, sh_non, eqv_int, eqv_bl, eqv_str, decide_eq_true_eq, Bool.not_eq_true, Bool.not_true, Bool.not_false, Bool.false_eq_true, true_and, and_true, if_true, if_false, ite_true, ite_false, List.length_map, List.length_set, Sl.isD, List.mem_singleton, List.mem_cons, List.not_mem_nil, not_true_eq_false, not_false_eq_true, or_false])
section
variable {args : List Sl} {Q : Sl → (Nat → Option Sl) → Prop}
theorem h_law_asked (hl : args.length = 5) (h : sp_law_asked args Q) : t_law_asked (KD Q) (startE 10 args) := by
  obtain ⟨tp, lease, skew, wait, c, rfl, ⟨hS, hL9, hW9⟩, ht, k⟩ := h
  obtain ⟨⟨L0, L1⟩, ⟨K0, K1⟩, W0, W1⟩ := hS
  have hS : Set3 lease skew wait := ⟨⟨L0, L1⟩, ⟨K0, K1⟩, W0, W1⟩
  unfold t_law_asked
  refine seq_i fun Kc hK => ?_
  refine for_i fun Kx hKx => ?_
  walk_at "go"
  refine ⟨tp, 3, rfl, by decide, by decide, ht, fun ds tp1 os hd t1 e1 => ?_⟩
  rw [← ios_eq e1]
  walk_at "go"
  refine hKx _ _ ⟨fun i env => ∃ tp x5 x6 x7 x8 x9, env = [some (.l (tp)), some (.d (.int (lease))), some (.d (.int (skew))), some (.d (.int (wait))), some (.d (.bool c)), x5, x6, x7, x8, x9] ∧ TapeOk tp, ⟨tp1, none, none, none, none, none, rfl, t1⟩, fun i x env hx hP => ?_, fun env hP => ?_⟩
  · obtain ⟨tp, x5, x6, x7, x8, x9, rfl, ht⟩ := hP
    rw [List.getElem?_map] at hx
    obtain ⟨d, hd2, rfl⟩ := Option.map_eq_some_iff.mp hx
    refine ⟨by simp, ?_⟩
    by_cases d0 : d = 0
    · nomatch d0
      refine for_i fun Kx hKx => ?_
      walk_at "go"
      rw [show [PyData.int wait, .int (if 0 > wait - 1 then 0 else wait - 1), .int (wait + 1), .int wait] = [wait, (if 0 > wait - 1 then 0 else wait - 1), wait + 1, wait].map .int from rfl]
      refine hKx _ _ ⟨fun i env => ∃ x6, env = [some (.l (tp)), some (.d (.int (lease))), some (.d (.int (skew))), some (.d (.int (wait))), some (.d (.bool c)), (some (.d (.int (0)))), x6, x7, x8, x9], ⟨_, rfl⟩, fun i x env hx hP => ?_, fun env hP => ?_⟩
      · obtain ⟨y6, rfl⟩ := hP
        rw [List.getElem?_map] at hx
        obtain ⟨w, hw, rfl⟩ := Option.map_eq_some_iff.mp hx
        have hw := List.mem_of_getElem? hw
        have w2 : 0 ≤ w ∧ w ≤ 100000 := by
          simp only [List.mem_cons, List.not_mem_nil, or_false] at hw
          rcases hw with rfl | rfl | rfl | rfl <;> constructor <;> first | omega | (split <;> omega)
        walk_at "go"
        refine ⟨lease, skew, w, c, rfl, ⟨⟨L0, L1⟩, ⟨K0, K1⟩, w2⟩, fun os => ?_⟩
        walk_at "go"
        exact ⟨_, rfl⟩
      · obtain ⟨y6, rfl⟩ := hP
        exact ⟨_, _, _, _, _, _, rfl, ht⟩
    · nomatch d0
      refine ⟨tp, lease, skew, wait, c, rfl, hS, ht, fun tl tp2 os hT hlen hE t2 e2 => ?_⟩
      rw [← ios_eq e2]
      walk_at "go"
      have fin : ∀ (Kn : En → Prop) (y8 : Option Sl) (tl : Tl), (Kn = fun env => ∃ tp x5 x6 x7 x8 x9, env = [some (.l (tp)), some (.d (.int (lease))), some (.d (.int (skew))), some (.d (.int (wait))), some (.d (.bool c)), x5, x6, x7, x8, x9] ∧ TapeOk tp) → TlOk tl → (1 ≤ tl.length ∧ tl.length ≤ 5) → (∀ e ∈ tl, e.2 ≤ 1000000) →
          tdFor (tdIt (tdLst (tdCons (tdV 7) (tdCons (tdCall ([0], []) 2 sp_law_changed (tdCons (tdV 0) (tdCons (tdV 7) tdNil))) (tdCons (tdCall ([0], []) 2 sp_law_changed (tdCons (tdV 0) (tdCons (tdV 7) tdNil))) (tdCons (tdV 7) tdNil)))))) (gdName 9) (tdIfS (tdNot (tdTest (tdCall ([0], []) 6 sp_law_judged (tdCons (tdV 0) (tdCons (tdV 1) (tdCons (tdV 2) (tdCons (tdV 3) (tdCons (tdV 9) (tdCons (tdV 4) tdNil))))))))) (tdRet ([0], []) (tdC (.bool false))) tdNext)
            { nx := Kn, rt := fun r env => Q r (osOf env) } [some (.l (tp2)), some (.d (.int (lease))), some (.d (.int (skew))), some (.d (.int (wait))), some (.d (.bool c)), (some (.d (.int (d)))), x6, (some (.d (tlD tl))), y8, x9] := fun Kn y8 tl hKn hT hl hE => by
        subst hKn
        refine for_i fun Kx hKx => ?_
        walk_at "go"
        refine ⟨tp2, tl, rfl, hT, hl, hE, t2, fun tl1 tp3 os hT1 t3 e3 => ?_⟩
        rw [← ios_eq e3]
        walk_at "go"
        refine ⟨tp3, tl, rfl, hT, hl, hE, t3, fun tl2 tp4 os hT2 t4 e4 => ?_⟩
        rw [← ios_eq e4]
        walk_at "go"
        rw [show [tlD tl, tlD tl1, tlD tl2, tlD tl] = [tl, tl1, tl2, tl].map tlD from rfl]
        refine hKx _ _ ⟨fun i env => ∃ tp x9, env = [some (.l (tp)), some (.d (.int (lease))), some (.d (.int (skew))), some (.d (.int (wait))), some (.d (.bool c)), (some (.d (.int (d)))), x6, (some (.d (tlD tl))), y8, x9] ∧ TapeOk tp, ⟨tp4, x9, rfl, t4⟩, fun i x env hx hP => ?_, fun env hP => ?_⟩
        · obtain ⟨tp, y9, rfl, ht⟩ := hP
          rw [List.getElem?_map] at hx
          obtain ⟨u, hu, rfl⟩ := Option.map_eq_some_iff.mp hx
          have hu := List.mem_of_getElem? hu
          have hU : TlOk u := by
            simp only [List.mem_cons, List.not_mem_nil, or_false] at hu
            rcases hu with rfl | rfl | rfl | rfl
            · exact hT
            · exact hT1
            · exact hT2
            · exact hT
          walk_at "go"
          refine ⟨tp, lease, skew, wait, u, c, rfl, ⟨hS, hL9, hW9⟩, hU, ht, fun tp5 os t5 e5 => ?_⟩
          rw [← ios_eq e5]
          walk_at "go"
          exact ⟨_, _, rfl, t5⟩
        · obtain ⟨tp, y9, rfl, ht⟩ := hP
          exact ⟨_, _, _, _, _, _, rfl, ht⟩
      cases c with
      | true =>
        walk_at "go"
        refine ⟨lease, skew, wait, rfl, hS, fun os => ?_⟩
        walk_at "go"
        rcases tl_cross hS with e | ⟨u, e, hU, hUl, hUe⟩
        · rw [e]
          walk_at "go"
          split <;> exact fin _ _ tl rfl hT hlen hE
        · rw [e]
          by_cases d2 : d = 2
          · subst d2
            unfold tlD
            walk_at "go"
            exact fin _ _ u rfl hU hUl hUe
          · nomatch d2
            exact fin _ _ tl rfl hT hlen hE
      | false =>
        walk_at "go"
        refine ⟨lease, skew, wait, rfl, hS, fun os => ?_⟩
        walk_at "go"
        rcases tl_ling hS with e | ⟨u, e, hU, hUl, hUe⟩
        · rw [e]
          walk_at "go"
          split <;> exact fin _ _ tl rfl hT hlen hE
        · rw [e]
          by_cases d2 : d = 2
          · subst d2
            unfold tlD
            walk_at "go"
            exact fin _ _ u rfl hU hUl hUe
          · nomatch d2
            exact fin _ _ tl rfl hT hlen hE
  · obtain ⟨tp, x5, x6, x7, x8, x9, rfl, ht⟩ := hP
    subst hK
    walk_at "go"
    exact k _ _ ht rfl
theorem h_law_apart (hl : args.length = 1) (h : sp_law_apart args Q) : t_law_apart (KD Q) (startE 5 args) := by
  obtain ⟨tp, rfl, ht, k⟩ := h
  unfold t_law_apart
  refine seq_i fun Kc hK => ?_
  walk_at "go"
  refine draw_i (by first | decide | omega) (by assumption) (by first | decide | omega) fun a tp1 _ t1 a0 a1 => ?_
  walk_at "go"
  refine pick_ints [60, 1, 9999, 1 + a] (fun g => 1 ≤ g ∧ g ≤ 9999) (by rfl) (by simp) t1 (fun n hn => by simp only [List.mem_cons, List.not_mem_nil, or_false] at hn; omega) fun lease tp2 _ t2 hL => ?_
  walk_at "go"
  subst hK
  refine seq_i fun Kc hK => ?_
  walk_at "go"
  refine draw_i (by first | decide | omega) (by assumption) (by first | decide | omega) fun b tp3 _ t3 b0 b1 => ?_
  walk_at "go"
  refine pick_ints [0, 2, 1, 99, b] (fun g => 0 ≤ g ∧ g ≤ 99) (by rfl) (by simp) t3 (fun n hn => by simp only [List.mem_cons, List.not_mem_nil, or_false] at hn; omega) fun skew tp4 _ t4 hSk => ?_
  walk_at "go"
  subst hK
  refine seq_i fun Kc hK => ?_
  walk_at "go"
  refine ⟨.inl ⟨by decide, by decide⟩, ?_⟩
  subst hK
  refine seq_i fun Kc hK => ?_
  walk_at "go"
  refine draw_i (by first | decide | omega) (by assumption) (by first | decide | omega) fun w tp5 _ t5 w0 w1 => ?_
  walk_at "go"
  refine pick_ints [lease + 2 * skew - 1, lease + 2 * skew - 1, lease + 2 * skew, lease + 2 * skew, lease + 2 * skew + 1, if 0 > lease + 2 * skew - 2 then 0 else lease + 2 * skew - 2, 0, w, 99998] (fun g => 0 ≤ g ∧ g ≤ 99999) (by rfl) (by simp) t5 (fun n hn => by
    simp only [List.mem_cons, List.not_mem_nil, or_false] at hn
    rcases hn with rfl | rfl | rfl | rfl | rfl | rfl | rfl | rfl | rfl <;> constructor <;> first | omega | (split <;> omega)) fun wait tp6 _ t6 hW => ?_
  walk_at "go"
  subst hK
  walk_at "go"
  refine draw_i (by first | decide | omega) (by assumption) (by first | decide | omega) fun z tp7 _ t7 z0 z1 => ?_
  walk_at "go"
  refine ⟨tp7, lease, skew, wait, decide (z = 0), rfl, ⟨⟨⟨by omega, by omega⟩, ⟨by omega, by omega⟩, by omega, by omega⟩, by omega, by omega⟩, t7, fun tp8 os t8 e8 => ?_⟩
  rw [← ios_eq e8]
  walk_at "go"
  exact k _ _ t8 rfl
theorem h_law (hl : args.length = 1) (h : sp_law args Q) : t_law (KD Q) (startE 5 args) := by
  obtain ⟨ns, rfl, k⟩ := h
  unfold t_law
  refine seq_i fun Kc hK => ?_
  walk_at "go"
  refine ⟨ns, rfl, fun tp os t0 => ?_⟩
  walk_at "go"
  subst hK
  refine seq_i fun Kc hK => ?_
  walk_at "go"
  refine ⟨tp, rfl, t0, fun tp1 os t1 e1 => ?_⟩
  rw [← ios_eq e1]
  walk_at "go"
  subst hK
  refine seq_i fun Kc hK => ?_
  walk_at "go"
  refine ⟨tp1, rfl, t1, fun nm tp2 os hn hN t2 e2 => ?_⟩
  rw [← ios_eq e2]
  walk_at "go"
  subst hK
  refine seq_i fun Kc hK => ?_
  walk_at "go"
  refine ⟨tp2, nm, rfl, hn, hN, t2, fun tl tp3 os hT hl12 hE t3 e3 => ?_⟩
  rw [← ios_eq e3]
  walk_at "go"
  subst hK
  refine seq_i fun Kc hK => ?_
  refine for_i fun Kx hKx => ?_
  walk_at "go"
  refine ⟨tp3, tl, nm, rfl, hn, hN, hT, hl12, hE, t3, fun tl2 tp4 os hT2 t4 e4 => ?_⟩
  rw [← ios_eq e4]
  walk_at "go"
  rw [show [tlD tl, tlD tl2, tlD tl] = [tl, tl2, tl].map tlD from rfl]
  refine hKx _ _ ⟨fun i env => ∃ tp x4, env = [some (.d (.list (ns.map .int))), some (.l (tp)), some (.d (.list (nm.map .str))), some (.d (tlD tl)), x4] ∧ TapeOk tp, ⟨_, _, rfl, t4⟩, fun i x env hx hP => ?_, fun env hP => ?_⟩
  · obtain ⟨tp, x4, rfl, ht⟩ := hP
    rw [List.getElem?_map] at hx
    obtain ⟨u, hu, rfl⟩ := Option.map_eq_some_iff.mp hx
    have hu := List.mem_of_getElem? hu
    have hU : TlOk u := by
      simp only [List.mem_cons, List.not_mem_nil, or_false] at hu
      rcases hu with rfl | rfl | rfl
      · exact hT
      · exact hT2
      · exact hT
    walk_at "go"
    refine ⟨tp, u, rfl, hU, ht, fun tp5 os t5 e5 => ?_⟩
    rw [← ios_eq e5]
    walk_at "go"
    exact ⟨_, _, rfl, t5⟩
  · obtain ⟨tp, x4, rfl, ht⟩ := hP
    subst hK
    walk_at "go"
    refine ⟨tp, rfl, ht, fun tp5 os t5 e5 => ?_⟩
    rw [← ios_eq e5]
    walk_at "go"
    exact k _
theorem law_start {ns : List Int} (hl : ns.length ≤ 63) : sp_law [.d (.list (ns.map .int))] fun s _ => s = .d (.bool true) := ⟨ns, rfl, fun _ => rfl⟩
end
end Dlk51

set_option Elab.async false
set_option linter.all false
set_option maxRecDepth 100000
set_option maxHeartbeats 0
set_option autoImplicit false
namespace Dlk51
open PySem PySem.Spec L2 DL
theorem all_ok {P : Program} {w : World} {K : PySem.W.Frag} {mg : Str → Option Value} {base : Heap} (T : Tx K mg) : FnG P w K mg base 7 T.f_law T.d_law p_law (spD K ([], []) 1 sp_law) := by
  have G_stray := ok_stray (P := P) (w := w) (base := base) T  (fun _ _ hl h => h_stray hl h)
  have G_goes_back := ok_goes_back (P := P) (w := w) (base := base) T  (fun _ _ hl h => h_goes_back hl h)
  have G_least_tick := ok_least_tick (P := P) (w := w) (base := base) T  (fun _ _ hl h => h_least_tick hl h)
  have G_hosts_of := ok_hosts_of (P := P) (w := w) (base := base) T  (fun _ _ hl h => h_hosts_of hl h)
  have G_law_tape := ok_law_tape (P := P) (w := w) (base := base) T  (fun _ _ hl h => h_law_tape hl h)
  have G_law_draw := ok_law_draw (P := P) (w := w) (base := base) T  (fun _ _ hl h => h_law_draw hl h)
  have G_law_k_alike := ok_law_k_alike (P := P) (w := w) (base := base) T  (fun _ _ hl h => h_law_k_alike hl h)
  have G_law_exceeds := ok_law_exceeds (P := P) (w := w) (base := base) T  (fun _ _ hl h => h_law_exceeds hl h)
  have G_law_goes_back := ok_law_goes_back (P := P) (w := w) (base := base) T  (fun _ _ hl h => h_law_goes_back hl h)
  have G_law_kept := ok_law_kept (P := P) (w := w) (base := base) T  (fun _ _ hl h => h_law_kept hl h)
  have G_law_hosts := ok_law_hosts (P := P) (w := w) (base := base) T  (fun _ _ hl h => h_law_hosts hl h)
  have G_law_crossing_of := ok_law_crossing_of (P := P) (w := w) (base := base) T  (fun _ _ hl h => h_law_crossing_of hl h)
  have G_law_lingering_of := ok_law_lingering_of (P := P) (w := w) (base := base) T  (fun _ _ hl h => h_law_lingering_of hl h)
  have G_keeps := ok_keeps (P := P) (w := w) (base := base) T G_stray G_goes_back (fun _ _ hl h => h_keeps hl h)
  have G_told_next := ok_told_next (P := P) (w := w) (base := base) T G_least_tick (fun _ _ hl h => h_told_next hl h)
  have G_law_pick := ok_law_pick (P := P) (w := w) (base := base) T G_law_draw (fun _ _ hl h => h_law_pick hl h)
  have G_law_turns := ok_law_turns (P := P) (w := w) (base := base) T G_law_draw (fun _ _ hl h => h_law_turns hl h)
  have G_law_shuffled := ok_law_shuffled (P := P) (w := w) (base := base) T G_law_draw (fun _ _ hl h => h_law_shuffled hl h)
  have G_law_crosses := ok_law_crosses (P := P) (w := w) (base := base) T G_law_kept G_law_hosts (fun _ _ hl h => h_law_crosses hl h)
  have G_law_lingers := ok_law_lingers (P := P) (w := w) (base := base) T G_law_kept G_law_hosts (fun _ _ hl h => h_law_lingers hl h)
  have G_crossing := ok_crossing (P := P) (w := w) (base := base) T G_told_next (fun _ _ hl h => h_crossing hl h)
  have G_is_crossing := ok_is_crossing (P := P) (w := w) (base := base) T G_keeps G_hosts_of (fun _ _ hl h => h_is_crossing hl h)
  have G_lingering := ok_lingering (P := P) (w := w) (base := base) T G_told_next (fun _ _ hl h => h_lingering hl h)
  have G_is_lingering := ok_is_lingering (P := P) (w := w) (base := base) T G_keeps G_hosts_of (fun _ _ hl h => h_is_lingering hl h)
  have G_law_names := ok_law_names (P := P) (w := w) (base := base) T G_law_draw G_law_pick (fun _ _ hl h => h_law_names hl h)
  have G_law_timeline := ok_law_timeline (P := P) (w := w) (base := base) T G_law_draw G_law_pick (fun _ _ hl h => h_law_timeline hl h)
  have G_law_moved := ok_law_moved (P := P) (w := w) (base := base) T G_law_draw G_law_pick (fun _ _ hl h => h_law_moved hl h)
  have G_law_strays := ok_law_strays (P := P) (w := w) (base := base) T G_stray G_keeps G_law_turns G_law_shuffled G_law_k_alike G_law_exceeds G_law_goes_back (fun _ _ hl h => h_law_strays hl h)
  have G_law_own := ok_law_own (P := P) (w := w) (base := base) T G_law_draw G_law_pick (fun _ _ hl h => h_law_own hl h)
  have G_law_changed := ok_law_changed (P := P) (w := w) (base := base) T G_law_draw G_law_pick (fun _ _ hl h => h_law_changed hl h)
  have G_law_judged := ok_law_judged (P := P) (w := w) (base := base) T G_is_crossing G_is_lingering G_law_pick G_law_k_alike G_law_crosses G_law_lingers (fun _ _ hl h => h_law_judged hl h)
  have G_law_told := ok_law_told (P := P) (w := w) (base := base) T G_crossing G_lingering G_law_k_alike G_law_crossing_of G_law_lingering_of (fun _ _ hl h => h_law_told hl h)
  have G_law_asked := ok_law_asked (P := P) (w := w) (base := base) T G_law_turns G_law_crossing_of G_law_lingering_of G_law_own G_law_changed G_law_judged G_law_told (fun _ _ hl h => h_law_asked hl h)
  have G_law_apart := ok_law_apart (P := P) (w := w) (base := base) T G_law_draw G_law_pick G_law_asked (fun _ _ hl h => h_law_apart hl h)
  have G_law := ok_law (P := P) (w := w) (base := base) T G_law_tape G_law_names G_law_timeline G_law_moved G_law_strays G_law_apart (fun _ _ hl h => h_law hl h)
  exact G_law
theorem all_mk {l : PySem.W.OpenLaw} {w : World} {K : PySem.W.Frag} {h : Heap} {mg : Str → Option Value} {fa : Addr} (X : K.In h) (G : h.Ns mainGlobals mg) (hfa : mg "law" = some (.ref fa))
    {f0 : Addr} {o0 n0 : Option Addr} {sl0 : Array (Option Value)} {v0 w0 x0 y0 c0 z0 : Value} (a0 : PySem.W.nsIn K mainGlobals "stray" = some (some (.ref f0))) (l0 : K.lookup f0 = some ⟨v0, o0, .func (PySem.W.fnOf "stray" "stray" (defArgs s_stray) (defBody s_stray) (defScope s_stray) .none w0 x0 y0 n0 c0 z0), sl0⟩) (c_0 : PySem.W.codeIn K c0 "stray" = true) (k0 : PySem.W.keepIn K (.ref f0) = true)
    {f1 : Addr} {o1 n1 : Option Addr} {sl1 : Array (Option Value)} {v1 w1 x1 y1 c1 z1 : Value} (a1 : PySem.W.nsIn K mainGlobals "goes_back" = some (some (.ref f1))) (l1 : K.lookup f1 = some ⟨v1, o1, .func (PySem.W.fnOf "goes_back" "goes_back" (defArgs s_goes_back) (defBody s_goes_back) (defScope s_goes_back) .none w1 x1 y1 n1 c1 z1), sl1⟩) (c_1 : PySem.W.codeIn K c1 "goes_back" = true) (k1 : PySem.W.keepIn K (.ref f1) = true)
    {f2 : Addr} {o2 n2 : Option Addr} {sl2 : Array (Option Value)} {v2 w2 x2 y2 c2 z2 : Value} (a2 : PySem.W.nsIn K mainGlobals "least_tick" = some (some (.ref f2))) (l2 : K.lookup f2 = some ⟨v2, o2, .func (PySem.W.fnOf "least_tick" "least_tick" (defArgs s_least_tick) (defBody s_least_tick) (defScope s_least_tick) .none w2 x2 y2 n2 c2 z2), sl2⟩) (c_2 : PySem.W.codeIn K c2 "least_tick" = true) (k2 : PySem.W.keepIn K (.ref f2) = true)
    {f3 : Addr} {o3 n3 : Option Addr} {sl3 : Array (Option Value)} {v3 w3 x3 y3 c3 z3 : Value} (a3 : PySem.W.nsIn K mainGlobals "hosts_of" = some (some (.ref f3))) (l3 : K.lookup f3 = some ⟨v3, o3, .func (PySem.W.fnOf "hosts_of" "hosts_of" (defArgs s_hosts_of) (defBody s_hosts_of) (defScope s_hosts_of) .none w3 x3 y3 n3 c3 z3), sl3⟩) (c_3 : PySem.W.codeIn K c3 "hosts_of" = true) (k3 : PySem.W.keepIn K (.ref f3) = true)
    {f4 : Addr} {o4 n4 : Option Addr} {sl4 : Array (Option Value)} {v4 w4 x4 y4 c4 z4 : Value} (a4 : PySem.W.nsIn K mainGlobals "_law_tape" = some (some (.ref f4))) (l4 : K.lookup f4 = some ⟨v4, o4, .func (PySem.W.fnOf "_law_tape" "_law_tape" (defArgs s_law_tape) (defBody s_law_tape) (defScope s_law_tape) .none w4 x4 y4 n4 c4 z4), sl4⟩) (c_4 : PySem.W.codeIn K c4 "_law_tape" = true) (k4 : PySem.W.keepIn K (.ref f4) = true)
    {f5 : Addr} {o5 n5 : Option Addr} {sl5 : Array (Option Value)} {v5 w5 x5 y5 c5 z5 : Value} (a5 : PySem.W.nsIn K mainGlobals "_law_draw" = some (some (.ref f5))) (l5 : K.lookup f5 = some ⟨v5, o5, .func (PySem.W.fnOf "_law_draw" "_law_draw" (defArgs s_law_draw) (defBody s_law_draw) (defScope s_law_draw) .none w5 x5 y5 n5 c5 z5), sl5⟩) (c_5 : PySem.W.codeIn K c5 "_law_draw" = true) (k5 : PySem.W.keepIn K (.ref f5) = true)
    {f6 : Addr} {o6 n6 : Option Addr} {sl6 : Array (Option Value)} {v6 w6 x6 y6 c6 z6 : Value} (a6 : PySem.W.nsIn K mainGlobals "_law_k_alike" = some (some (.ref f6))) (l6 : K.lookup f6 = some ⟨v6, o6, .func (PySem.W.fnOf "_law_k_alike" "_law_k_alike" (defArgs s_law_k_alike) (defBody s_law_k_alike) (defScope s_law_k_alike) .none w6 x6 y6 n6 c6 z6), sl6⟩) (c_6 : PySem.W.codeIn K c6 "_law_k_alike" = true) (k6 : PySem.W.keepIn K (.ref f6) = true)
    {f7 : Addr} {o7 n7 : Option Addr} {sl7 : Array (Option Value)} {v7 w7 x7 y7 c7 z7 : Value} (a7 : PySem.W.nsIn K mainGlobals "_law_exceeds" = some (some (.ref f7))) (l7 : K.lookup f7 = some ⟨v7, o7, .func (PySem.W.fnOf "_law_exceeds" "_law_exceeds" (defArgs s_law_exceeds) (defBody s_law_exceeds) (defScope s_law_exceeds) .none w7 x7 y7 n7 c7 z7), sl7⟩) (c_7 : PySem.W.codeIn K c7 "_law_exceeds" = true) (k7 : PySem.W.keepIn K (.ref f7) = true)
    {f8 : Addr} {o8 n8 : Option Addr} {sl8 : Array (Option Value)} {v8 w8 x8 y8 c8 z8 : Value} (a8 : PySem.W.nsIn K mainGlobals "_law_goes_back" = some (some (.ref f8))) (l8 : K.lookup f8 = some ⟨v8, o8, .func (PySem.W.fnOf "_law_goes_back" "_law_goes_back" (defArgs s_law_goes_back) (defBody s_law_goes_back) (defScope s_law_goes_back) .none w8 x8 y8 n8 c8 z8), sl8⟩) (c_8 : PySem.W.codeIn K c8 "_law_goes_back" = true) (k8 : PySem.W.keepIn K (.ref f8) = true)
    {f9 : Addr} {o9 n9 : Option Addr} {sl9 : Array (Option Value)} {v9 w9 x9 y9 c9 z9 : Value} (a9 : PySem.W.nsIn K mainGlobals "_law_kept" = some (some (.ref f9))) (l9 : K.lookup f9 = some ⟨v9, o9, .func (PySem.W.fnOf "_law_kept" "_law_kept" (defArgs s_law_kept) (defBody s_law_kept) (defScope s_law_kept) .none w9 x9 y9 n9 c9 z9), sl9⟩) (c_9 : PySem.W.codeIn K c9 "_law_kept" = true) (k9 : PySem.W.keepIn K (.ref f9) = true)
    {f10 : Addr} {o10 n10 : Option Addr} {sl10 : Array (Option Value)} {v10 w10 x10 y10 c10 z10 : Value} (a10 : PySem.W.nsIn K mainGlobals "_law_hosts" = some (some (.ref f10))) (l10 : K.lookup f10 = some ⟨v10, o10, .func (PySem.W.fnOf "_law_hosts" "_law_hosts" (defArgs s_law_hosts) (defBody s_law_hosts) (defScope s_law_hosts) .none w10 x10 y10 n10 c10 z10), sl10⟩) (c_10 : PySem.W.codeIn K c10 "_law_hosts" = true) (k10 : PySem.W.keepIn K (.ref f10) = true)
    {f11 : Addr} {o11 n11 : Option Addr} {sl11 : Array (Option Value)} {v11 w11 x11 y11 c11 z11 : Value} (a11 : PySem.W.nsIn K mainGlobals "_law_crossing_of" = some (some (.ref f11))) (l11 : K.lookup f11 = some ⟨v11, o11, .func (PySem.W.fnOf "_law_crossing_of" "_law_crossing_of" (defArgs s_law_crossing_of) (defBody s_law_crossing_of) (defScope s_law_crossing_of) .none w11 x11 y11 n11 c11 z11), sl11⟩) (c_11 : PySem.W.codeIn K c11 "_law_crossing_of" = true) (k11 : PySem.W.keepIn K (.ref f11) = true)
    {f12 : Addr} {o12 n12 : Option Addr} {sl12 : Array (Option Value)} {v12 w12 x12 y12 c12 z12 : Value} (a12 : PySem.W.nsIn K mainGlobals "_law_lingering_of" = some (some (.ref f12))) (l12 : K.lookup f12 = some ⟨v12, o12, .func (PySem.W.fnOf "_law_lingering_of" "_law_lingering_of" (defArgs s_law_lingering_of) (defBody s_law_lingering_of) (defScope s_law_lingering_of) .none w12 x12 y12 n12 c12 z12), sl12⟩) (c_12 : PySem.W.codeIn K c12 "_law_lingering_of" = true) (k12 : PySem.W.keepIn K (.ref f12) = true)
    {f13 : Addr} {o13 n13 : Option Addr} {sl13 : Array (Option Value)} {v13 w13 x13 y13 c13 z13 : Value} (a13 : PySem.W.nsIn K mainGlobals "keeps" = some (some (.ref f13))) (l13 : K.lookup f13 = some ⟨v13, o13, .func (PySem.W.fnOf "keeps" "keeps" (defArgs s_keeps) (defBody s_keeps) (defScope s_keeps) .none w13 x13 y13 n13 c13 z13), sl13⟩) (c_13 : PySem.W.codeIn K c13 "keeps" = true) (k13 : PySem.W.keepIn K (.ref f13) = true)
    {f14 : Addr} {o14 n14 : Option Addr} {sl14 : Array (Option Value)} {v14 w14 x14 y14 c14 z14 : Value} (a14 : PySem.W.nsIn K mainGlobals "told_next" = some (some (.ref f14))) (l14 : K.lookup f14 = some ⟨v14, o14, .func (PySem.W.fnOf "told_next" "told_next" (defArgs s_told_next) (defBody s_told_next) (defScope s_told_next) .none w14 x14 y14 n14 c14 z14), sl14⟩) (c_14 : PySem.W.codeIn K c14 "told_next" = true) (k14 : PySem.W.keepIn K (.ref f14) = true)
    {f15 : Addr} {o15 n15 : Option Addr} {sl15 : Array (Option Value)} {v15 w15 x15 y15 c15 z15 : Value} (a15 : PySem.W.nsIn K mainGlobals "_law_pick" = some (some (.ref f15))) (l15 : K.lookup f15 = some ⟨v15, o15, .func (PySem.W.fnOf "_law_pick" "_law_pick" (defArgs s_law_pick) (defBody s_law_pick) (defScope s_law_pick) .none w15 x15 y15 n15 c15 z15), sl15⟩) (c_15 : PySem.W.codeIn K c15 "_law_pick" = true) (k15 : PySem.W.keepIn K (.ref f15) = true)
    {f16 : Addr} {o16 n16 : Option Addr} {sl16 : Array (Option Value)} {v16 w16 x16 y16 c16 z16 : Value} (a16 : PySem.W.nsIn K mainGlobals "_law_turns" = some (some (.ref f16))) (l16 : K.lookup f16 = some ⟨v16, o16, .func (PySem.W.fnOf "_law_turns" "_law_turns" (defArgs s_law_turns) (defBody s_law_turns) (defScope s_law_turns) .none w16 x16 y16 n16 c16 z16), sl16⟩) (c_16 : PySem.W.codeIn K c16 "_law_turns" = true) (k16 : PySem.W.keepIn K (.ref f16) = true)
    {f17 : Addr} {o17 n17 : Option Addr} {sl17 : Array (Option Value)} {v17 w17 x17 y17 c17 z17 : Value} (a17 : PySem.W.nsIn K mainGlobals "_law_shuffled" = some (some (.ref f17))) (l17 : K.lookup f17 = some ⟨v17, o17, .func (PySem.W.fnOf "_law_shuffled" "_law_shuffled" (defArgs s_law_shuffled) (defBody s_law_shuffled) (defScope s_law_shuffled) .none w17 x17 y17 n17 c17 z17), sl17⟩) (c_17 : PySem.W.codeIn K c17 "_law_shuffled" = true) (k17 : PySem.W.keepIn K (.ref f17) = true)
    {f18 : Addr} {o18 n18 : Option Addr} {sl18 : Array (Option Value)} {v18 w18 x18 y18 c18 z18 : Value} (a18 : PySem.W.nsIn K mainGlobals "_law_crosses" = some (some (.ref f18))) (l18 : K.lookup f18 = some ⟨v18, o18, .func (PySem.W.fnOf "_law_crosses" "_law_crosses" (defArgs s_law_crosses) (defBody s_law_crosses) (defScope s_law_crosses) .none w18 x18 y18 n18 c18 z18), sl18⟩) (c_18 : PySem.W.codeIn K c18 "_law_crosses" = true) (k18 : PySem.W.keepIn K (.ref f18) = true)
    {f19 : Addr} {o19 n19 : Option Addr} {sl19 : Array (Option Value)} {v19 w19 x19 y19 c19 z19 : Value} (a19 : PySem.W.nsIn K mainGlobals "_law_lingers" = some (some (.ref f19))) (l19 : K.lookup f19 = some ⟨v19, o19, .func (PySem.W.fnOf "_law_lingers" "_law_lingers" (defArgs s_law_lingers) (defBody s_law_lingers) (defScope s_law_lingers) .none w19 x19 y19 n19 c19 z19), sl19⟩) (c_19 : PySem.W.codeIn K c19 "_law_lingers" = true) (k19 : PySem.W.keepIn K (.ref f19) = true)
    {f20 : Addr} {o20 n20 : Option Addr} {sl20 : Array (Option Value)} {v20 w20 x20 y20 c20 z20 : Value} (a20 : PySem.W.nsIn K mainGlobals "crossing" = some (some (.ref f20))) (l20 : K.lookup f20 = some ⟨v20, o20, .func (PySem.W.fnOf "crossing" "crossing" (defArgs s_crossing) (defBody s_crossing) (defScope s_crossing) .none w20 x20 y20 n20 c20 z20), sl20⟩) (c_20 : PySem.W.codeIn K c20 "crossing" = true) (k20 : PySem.W.keepIn K (.ref f20) = true)
    {f21 : Addr} {o21 n21 : Option Addr} {sl21 : Array (Option Value)} {v21 w21 x21 y21 c21 z21 : Value} (a21 : PySem.W.nsIn K mainGlobals "is_crossing" = some (some (.ref f21))) (l21 : K.lookup f21 = some ⟨v21, o21, .func (PySem.W.fnOf "is_crossing" "is_crossing" (defArgs s_is_crossing) (defBody s_is_crossing) (defScope s_is_crossing) .none w21 x21 y21 n21 c21 z21), sl21⟩) (c_21 : PySem.W.codeIn K c21 "is_crossing" = true) (k21 : PySem.W.keepIn K (.ref f21) = true)
    {f22 : Addr} {o22 n22 : Option Addr} {sl22 : Array (Option Value)} {v22 w22 x22 y22 c22 z22 : Value} (a22 : PySem.W.nsIn K mainGlobals "lingering" = some (some (.ref f22))) (l22 : K.lookup f22 = some ⟨v22, o22, .func (PySem.W.fnOf "lingering" "lingering" (defArgs s_lingering) (defBody s_lingering) (defScope s_lingering) .none w22 x22 y22 n22 c22 z22), sl22⟩) (c_22 : PySem.W.codeIn K c22 "lingering" = true) (k22 : PySem.W.keepIn K (.ref f22) = true)
    {f23 : Addr} {o23 n23 : Option Addr} {sl23 : Array (Option Value)} {v23 w23 x23 y23 c23 z23 : Value} (a23 : PySem.W.nsIn K mainGlobals "is_lingering" = some (some (.ref f23))) (l23 : K.lookup f23 = some ⟨v23, o23, .func (PySem.W.fnOf "is_lingering" "is_lingering" (defArgs s_is_lingering) (defBody s_is_lingering) (defScope s_is_lingering) .none w23 x23 y23 n23 c23 z23), sl23⟩) (c_23 : PySem.W.codeIn K c23 "is_lingering" = true) (k23 : PySem.W.keepIn K (.ref f23) = true)
    {f24 : Addr} {o24 n24 : Option Addr} {sl24 : Array (Option Value)} {v24 w24 x24 y24 c24 z24 : Value} (a24 : PySem.W.nsIn K mainGlobals "_law_names" = some (some (.ref f24))) (l24 : K.lookup f24 = some ⟨v24, o24, .func (PySem.W.fnOf "_law_names" "_law_names" (defArgs s_law_names) (defBody s_law_names) (defScope s_law_names) .none w24 x24 y24 n24 c24 z24), sl24⟩) (c_24 : PySem.W.codeIn K c24 "_law_names" = true) (k24 : PySem.W.keepIn K (.ref f24) = true)
    {f25 : Addr} {o25 n25 : Option Addr} {sl25 : Array (Option Value)} {v25 w25 x25 y25 c25 z25 : Value} (a25 : PySem.W.nsIn K mainGlobals "_law_timeline" = some (some (.ref f25))) (l25 : K.lookup f25 = some ⟨v25, o25, .func (PySem.W.fnOf "_law_timeline" "_law_timeline" (defArgs s_law_timeline) (defBody s_law_timeline) (defScope s_law_timeline) .none w25 x25 y25 n25 c25 z25), sl25⟩) (c_25 : PySem.W.codeIn K c25 "_law_timeline" = true) (k25 : PySem.W.keepIn K (.ref f25) = true)
    {f26 : Addr} {o26 n26 : Option Addr} {sl26 : Array (Option Value)} {v26 w26 x26 y26 c26 z26 : Value} (a26 : PySem.W.nsIn K mainGlobals "_law_moved" = some (some (.ref f26))) (l26 : K.lookup f26 = some ⟨v26, o26, .func (PySem.W.fnOf "_law_moved" "_law_moved" (defArgs s_law_moved) (defBody s_law_moved) (defScope s_law_moved) .none w26 x26 y26 n26 c26 z26), sl26⟩) (c_26 : PySem.W.codeIn K c26 "_law_moved" = true) (k26 : PySem.W.keepIn K (.ref f26) = true)
    {f27 : Addr} {o27 n27 : Option Addr} {sl27 : Array (Option Value)} {v27 w27 x27 y27 c27 z27 : Value} (a27 : PySem.W.nsIn K mainGlobals "_law_strays" = some (some (.ref f27))) (l27 : K.lookup f27 = some ⟨v27, o27, .func (PySem.W.fnOf "_law_strays" "_law_strays" (defArgs s_law_strays) (defBody s_law_strays) (defScope s_law_strays) .none w27 x27 y27 n27 c27 z27), sl27⟩) (c_27 : PySem.W.codeIn K c27 "_law_strays" = true) (k27 : PySem.W.keepIn K (.ref f27) = true)
    {f28 : Addr} {o28 n28 : Option Addr} {sl28 : Array (Option Value)} {v28 w28 x28 y28 c28 z28 : Value} (a28 : PySem.W.nsIn K mainGlobals "_law_own" = some (some (.ref f28))) (l28 : K.lookup f28 = some ⟨v28, o28, .func (PySem.W.fnOf "_law_own" "_law_own" (defArgs s_law_own) (defBody s_law_own) (defScope s_law_own) .none w28 x28 y28 n28 c28 z28), sl28⟩) (c_28 : PySem.W.codeIn K c28 "_law_own" = true) (k28 : PySem.W.keepIn K (.ref f28) = true)
    {f29 : Addr} {o29 n29 : Option Addr} {sl29 : Array (Option Value)} {v29 w29 x29 y29 c29 z29 : Value} (a29 : PySem.W.nsIn K mainGlobals "_law_changed" = some (some (.ref f29))) (l29 : K.lookup f29 = some ⟨v29, o29, .func (PySem.W.fnOf "_law_changed" "_law_changed" (defArgs s_law_changed) (defBody s_law_changed) (defScope s_law_changed) .none w29 x29 y29 n29 c29 z29), sl29⟩) (c_29 : PySem.W.codeIn K c29 "_law_changed" = true) (k29 : PySem.W.keepIn K (.ref f29) = true)
    {f30 : Addr} {o30 n30 : Option Addr} {sl30 : Array (Option Value)} {v30 w30 x30 y30 c30 z30 : Value} (a30 : PySem.W.nsIn K mainGlobals "_law_judged" = some (some (.ref f30))) (l30 : K.lookup f30 = some ⟨v30, o30, .func (PySem.W.fnOf "_law_judged" "_law_judged" (defArgs s_law_judged) (defBody s_law_judged) (defScope s_law_judged) .none w30 x30 y30 n30 c30 z30), sl30⟩) (c_30 : PySem.W.codeIn K c30 "_law_judged" = true) (k30 : PySem.W.keepIn K (.ref f30) = true)
    {f31 : Addr} {o31 n31 : Option Addr} {sl31 : Array (Option Value)} {v31 w31 x31 y31 c31 z31 : Value} (a31 : PySem.W.nsIn K mainGlobals "_law_told" = some (some (.ref f31))) (l31 : K.lookup f31 = some ⟨v31, o31, .func (PySem.W.fnOf "_law_told" "_law_told" (defArgs s_law_told) (defBody s_law_told) (defScope s_law_told) .none w31 x31 y31 n31 c31 z31), sl31⟩) (c_31 : PySem.W.codeIn K c31 "_law_told" = true) (k31 : PySem.W.keepIn K (.ref f31) = true)
    {f32 : Addr} {o32 n32 : Option Addr} {sl32 : Array (Option Value)} {v32 w32 x32 y32 c32 z32 : Value} (a32 : PySem.W.nsIn K mainGlobals "_law_asked" = some (some (.ref f32))) (l32 : K.lookup f32 = some ⟨v32, o32, .func (PySem.W.fnOf "_law_asked" "_law_asked" (defArgs s_law_asked) (defBody s_law_asked) (defScope s_law_asked) .none w32 x32 y32 n32 c32 z32), sl32⟩) (c_32 : PySem.W.codeIn K c32 "_law_asked" = true) (k32 : PySem.W.keepIn K (.ref f32) = true)
    {f33 : Addr} {o33 n33 : Option Addr} {sl33 : Array (Option Value)} {v33 w33 x33 y33 c33 z33 : Value} (a33 : PySem.W.nsIn K mainGlobals "_law_apart" = some (some (.ref f33))) (l33 : K.lookup f33 = some ⟨v33, o33, .func (PySem.W.fnOf "_law_apart" "_law_apart" (defArgs s_law_apart) (defBody s_law_apart) (defScope s_law_apart) .none w33 x33 y33 n33 c33 z33), sl33⟩) (c_33 : PySem.W.codeIn K c33 "_law_apart" = true) (k33 : PySem.W.keepIn K (.ref f33) = true)
    {f34 : Addr} {o34 n34 : Option Addr} {sl34 : Array (Option Value)} {v34 w34 x34 y34 c34 z34 : Value} (a34 : PySem.W.nsIn K mainGlobals "law" = some (some (.ref f34))) (l34 : K.lookup f34 = some ⟨v34, o34, .func (PySem.W.fnOf "law" "law" (defArgs s_law) (defBody s_law) (defScope s_law) .none w34 x34 y34 n34 c34 z34), sl34⟩) (c_34 : PySem.W.codeIn K c34 "law" = true) (k34 : PySem.W.keepIn K (.ref f34) = true)
    (zb_abs : PySem.W.nsIn K mainGlobals "abs" = some none)
    (zb_int : PySem.W.nsIn K mainGlobals "int" = some none)
    (zb_len : PySem.W.nsIn K mainGlobals "len" = some none)
    (zb_list : PySem.W.nsIn K mainGlobals "list" = some none)
    (zb_max : PySem.W.nsIn K mainGlobals "max" = some none)
    (zb_min : PySem.W.nsIn K mainGlobals "min" = some none)
    (zb_range : PySem.W.nsIn K mainGlobals "range" = some none)
    (zb_repr : PySem.W.nsIn K mainGlobals "repr" = some none)
    (zb_tuple : PySem.W.nsIn K mainGlobals "tuple" = some none)
    : ∃ fd : FuncData, (∀ (s : Shared) (v : Value), BindsTo s fd ⟨[v], []⟩ [("script", v)]) ∧ ∀ base : Heap, K.In base → base.Ns mainGlobals mg → FnG l.prog w K mg base 7 fa fd ["script"] (spD K ([], []) 1 sp_law) := by
  have e := hfa.symm.trans (PySem.W.mg_of X G a34)
  cases e
  have F0 := fun_mk (st := s_stray) l0 c_0 k0
  have b0 := F0.binds (ps := p_stray) fun _ _ _ _ _ _ us hl => match us, hl with | [_], _ => rfl
  have F1 := fun_mk (st := s_goes_back) l1 c_1 k1
  have b1 := F1.binds (ps := p_goes_back) fun _ _ _ _ _ _ us hl => match us, hl with | [_], _ => rfl
  have F2 := fun_mk (st := s_least_tick) l2 c_2 k2
  have b2 := F2.binds (ps := p_least_tick) fun _ _ _ _ _ _ us hl => match us, hl with | [_, _, _], _ => rfl
  have F3 := fun_mk (st := s_hosts_of) l3 c_3 k3
  have b3 := F3.binds (ps := p_hosts_of) fun _ _ _ _ _ _ us hl => match us, hl with | [_], _ => rfl
  have F4 := fun_mk (st := s_law_tape) l4 c_4 k4
  have b4 := F4.binds (ps := p_law_tape) fun _ _ _ _ _ _ us hl => match us, hl with | [_], _ => rfl
  have F5 := fun_mk (st := s_law_draw) l5 c_5 k5
  have b5 := F5.binds (ps := p_law_draw) fun _ _ _ _ _ _ us hl => match us, hl with | [_, _], _ => rfl
  have F6 := fun_mk (st := s_law_k_alike) l6 c_6 k6
  have b6 := F6.binds (ps := p_law_k_alike) fun _ _ _ _ _ _ us hl => match us, hl with | [_, _], _ => rfl
  have F7 := fun_mk (st := s_law_exceeds) l7 c_7 k7
  have b7 := F7.binds (ps := p_law_exceeds) fun _ _ _ _ _ _ us hl => match us, hl with | [_], _ => rfl
  have F8 := fun_mk (st := s_law_goes_back) l8 c_8 k8
  have b8 := F8.binds (ps := p_law_goes_back) fun _ _ _ _ _ _ us hl => match us, hl with | [_], _ => rfl
  have F9 := fun_mk (st := s_law_kept) l9 c_9 k9
  have b9 := F9.binds (ps := p_law_kept) fun _ _ _ _ _ _ us hl => match us, hl with | [_, _], _ => rfl
  have F10 := fun_mk (st := s_law_hosts) l10 c_10 k10
  have b10 := F10.binds (ps := p_law_hosts) fun _ _ _ _ _ _ us hl => match us, hl with | [_], _ => rfl
  have F11 := fun_mk (st := s_law_crossing_of) l11 c_11 k11
  have b11 := F11.binds (ps := p_law_crossing_of) fun _ _ _ _ _ _ us hl => match us, hl with | [_, _, _], _ => rfl
  have F12 := fun_mk (st := s_law_lingering_of) l12 c_12 k12
  have b12 := F12.binds (ps := p_law_lingering_of) fun _ _ _ _ _ _ us hl => match us, hl with | [_, _, _], _ => rfl
  have F13 := fun_mk (st := s_keeps) l13 c_13 k13
  have b13 := F13.binds (ps := p_keeps) fun _ _ _ _ _ _ us hl => match us, hl with | [_, _], _ => rfl
  have F14 := fun_mk (st := s_told_next) l14 c_14 k14
  have b14 := F14.binds (ps := p_told_next) fun _ _ _ _ _ _ us hl => match us, hl with | [_, _, _], _ => rfl
  have F15 := fun_mk (st := s_law_pick) l15 c_15 k15
  have b15 := F15.binds (ps := p_law_pick) fun _ _ _ _ _ _ us hl => match us, hl with | [_, _], _ => rfl
  have F16 := fun_mk (st := s_law_turns) l16 c_16 k16
  have b16 := F16.binds (ps := p_law_turns) fun _ _ _ _ _ _ us hl => match us, hl with | [_, _], _ => rfl
  have F17 := fun_mk (st := s_law_shuffled) l17 c_17 k17
  have b17 := F17.binds (ps := p_law_shuffled) fun _ _ _ _ _ _ us hl => match us, hl with | [_, _], _ => rfl
  have F18 := fun_mk (st := s_law_crosses) l18 c_18 k18
  have b18 := F18.binds (ps := p_law_crosses) fun _ _ _ _ _ _ us hl => match us, hl with | [_, _, _, _], _ => rfl
  have F19 := fun_mk (st := s_law_lingers) l19 c_19 k19
  have b19 := F19.binds (ps := p_law_lingers) fun _ _ _ _ _ _ us hl => match us, hl with | [_, _, _, _], _ => rfl
  have F20 := fun_mk (st := s_crossing) l20 c_20 k20
  have b20 := F20.binds (ps := p_crossing) fun _ _ _ _ _ _ us hl => match us, hl with | [_, _, _], _ => rfl
  have F21 := fun_mk (st := s_is_crossing) l21 c_21 k21
  have b21 := F21.binds (ps := p_is_crossing) fun _ _ _ _ _ _ us hl => match us, hl with | [_, _, _, _], _ => rfl
  have F22 := fun_mk (st := s_lingering) l22 c_22 k22
  have b22 := F22.binds (ps := p_lingering) fun _ _ _ _ _ _ us hl => match us, hl with | [_, _, _], _ => rfl
  have F23 := fun_mk (st := s_is_lingering) l23 c_23 k23
  have b23 := F23.binds (ps := p_is_lingering) fun _ _ _ _ _ _ us hl => match us, hl with | [_, _, _, _], _ => rfl
  have F24 := fun_mk (st := s_law_names) l24 c_24 k24
  have b24 := F24.binds (ps := p_law_names) fun _ _ _ _ _ _ us hl => match us, hl with | [_], _ => rfl
  have F25 := fun_mk (st := s_law_timeline) l25 c_25 k25
  have b25 := F25.binds (ps := p_law_timeline) fun _ _ _ _ _ _ us hl => match us, hl with | [_, _], _ => rfl
  have F26 := fun_mk (st := s_law_moved) l26 c_26 k26
  have b26 := F26.binds (ps := p_law_moved) fun _ _ _ _ _ _ us hl => match us, hl with | [_, _, _], _ => rfl
  have F27 := fun_mk (st := s_law_strays) l27 c_27 k27
  have b27 := F27.binds (ps := p_law_strays) fun _ _ _ _ _ _ us hl => match us, hl with | [_, _], _ => rfl
  have F28 := fun_mk (st := s_law_own) l28 c_28 k28
  have b28 := F28.binds (ps := p_law_own) fun _ _ _ _ _ _ us hl => match us, hl with | [_, _, _, _, _], _ => rfl
  have F29 := fun_mk (st := s_law_changed) l29 c_29 k29
  have b29 := F29.binds (ps := p_law_changed) fun _ _ _ _ _ _ us hl => match us, hl with | [_, _], _ => rfl
  have F30 := fun_mk (st := s_law_judged) l30 c_30 k30
  have b30 := F30.binds (ps := p_law_judged) fun _ _ _ _ _ _ us hl => match us, hl with | [_, _, _, _, _, _], _ => rfl
  have F31 := fun_mk (st := s_law_told) l31 c_31 k31
  have b31 := F31.binds (ps := p_law_told) fun _ _ _ _ _ _ us hl => match us, hl with | [_, _, _, _], _ => rfl
  have F32 := fun_mk (st := s_law_asked) l32 c_32 k32
  have b32 := F32.binds (ps := p_law_asked) fun _ _ _ _ _ _ us hl => match us, hl with | [_, _, _, _, _], _ => rfl
  have F33 := fun_mk (st := s_law_apart) l33 c_33 k33
  have b33 := F33.binds (ps := p_law_apart) fun _ _ _ _ _ _ us hl => match us, hl with | [_], _ => rfl
  have F34 := fun_mk (st := s_law) l34 c_34 k34
  have b34 := F34.binds (ps := p_law) fun _ _ _ _ _ _ us hl => match us, hl with | [_], _ => rfl
  refine ⟨PySem.W.fnOf "law" "law" (defArgs s_law) (defBody s_law) (defScope s_law) .none w34 x34 y34 n34 c34 z34, fun s v => .of_eq rfl, fun base _ _ => ?_⟩
  exact all_ok (⟨_, _, F0, PySem.W.mg_of X G a0, b0, _, _, F1, PySem.W.mg_of X G a1, b1, _, _, F2, PySem.W.mg_of X G a2, b2, _, _, F3, PySem.W.mg_of X G a3, b3, _, _, F4, PySem.W.mg_of X G a4, b4, _, _, F5, PySem.W.mg_of X G a5, b5, _, _, F6, PySem.W.mg_of X G a6, b6, _, _, F7, PySem.W.mg_of X G a7, b7, _, _, F8, PySem.W.mg_of X G a8, b8, _, _, F9, PySem.W.mg_of X G a9, b9, _, _, F10, PySem.W.mg_of X G a10, b10, _, _, F11, PySem.W.mg_of X G a11, b11, _, _, F12, PySem.W.mg_of X G a12, b12, _, _, F13, PySem.W.mg_of X G a13, b13, _, _, F14, PySem.W.mg_of X G a14, b14, _, _, F15, PySem.W.mg_of X G a15, b15, _, _, F16, PySem.W.mg_of X G a16, b16, _, _, F17, PySem.W.mg_of X G a17, b17, _, _, F18, PySem.W.mg_of X G a18, b18, _, _, F19, PySem.W.mg_of X G a19, b19, _, _, F20, PySem.W.mg_of X G a20, b20, _, _, F21, PySem.W.mg_of X G a21, b21, _, _, F22, PySem.W.mg_of X G a22, b22, _, _, F23, PySem.W.mg_of X G a23, b23, _, _, F24, PySem.W.mg_of X G a24, b24, _, _, F25, PySem.W.mg_of X G a25, b25, _, _, F26, PySem.W.mg_of X G a26, b26, _, _, F27, PySem.W.mg_of X G a27, b27, _, _, F28, PySem.W.mg_of X G a28, b28, _, _, F29, PySem.W.mg_of X G a29, b29, _, _, F30, PySem.W.mg_of X G a30, b30, _, _, F31, PySem.W.mg_of X G a31, b31, _, _, F32, PySem.W.mg_of X G a32, b32, _, _, F33, PySem.W.mg_of X G a33, b33, _, _, F34, PySem.W.mg_of X G a34, b34, PySem.W.mg_none_of X G zb_abs, PySem.W.mg_none_of X G zb_int, PySem.W.mg_none_of X G zb_len, PySem.W.mg_none_of X G zb_list, PySem.W.mg_none_of X G zb_max, PySem.W.mg_none_of X G zb_min, PySem.W.mg_none_of X G zb_range, PySem.W.mg_none_of X G zb_repr, PySem.W.mg_none_of X G zb_tuple⟩ : Tx K mg)
end Dlk51
open PySem PySem.W PyProof.Rows
set_option maxHeartbeats 0 in
theorem PySem.Challenge.cw_gatherhouse_k51_whole_span_and_until_are_holds : PySem.Challenge.rw_gatherhouse_k51_whole_span_and_until_are.Holds := by
  w_on; o_law; k_head; (case hw => w_witness2)
  k_fill
  refine DL.walk_ofG (l := PySem.Challenge.rw_gatherhouse_k51_whole_span_and_until_are) (n := 63) (k := 7) (x := "script") (sp := fun w => DL.spD _ ([], []) 1 Dlk51.sp_law) rfl (by decide) rfl ⟨rfl, by decide, by decide⟩ (fun w h Y => PySem.W.kIn_of Y) ?F (fun _ _ a ns hl _ hS => DL.law_sp hS (Dlk51.law_start hl))
  case F =>
    intro w mg fa h KX G hmg
    refine' Dlk51.all_mk KX G hmg ?a0 ?l0 ?c_0 ?k0 ?a1 ?l1 ?c_1 ?k1 ?a2 ?l2 ?c_2 ?k2 ?a3 ?l3 ?c_3 ?k3 ?a4 ?l4 ?c_4 ?k4 ?a5 ?l5 ?c_5 ?k5 ?a6 ?l6 ?c_6 ?k6 ?a7 ?l7 ?c_7 ?k7 ?a8 ?l8 ?c_8 ?k8 ?a9 ?l9 ?c_9 ?k9 ?a10 ?l10 ?c_10 ?k10 ?a11 ?l11 ?c_11 ?k11 ?a12 ?l12 ?c_12 ?k12 ?a13 ?l13 ?c_13 ?k13 ?a14 ?l14 ?c_14 ?k14 ?a15 ?l15 ?c_15 ?k15 ?a16 ?l16 ?c_16 ?k16 ?a17 ?l17 ?c_17 ?k17 ?a18 ?l18 ?c_18 ?k18 ?a19 ?l19 ?c_19 ?k19 ?a20 ?l20 ?c_20 ?k20 ?a21 ?l21 ?c_21 ?k21 ?a22 ?l22 ?c_22 ?k22 ?a23 ?l23 ?c_23 ?k23 ?a24 ?l24 ?c_24 ?k24 ?a25 ?l25 ?c_25 ?k25 ?a26 ?l26 ?c_26 ?k26 ?a27 ?l27 ?c_27 ?k27 ?a28 ?l28 ?c_28 ?k28 ?a29 ?l29 ?c_29 ?k29 ?a30 ?l30 ?c_30 ?k30 ?a31 ?l31 ?c_31 ?k31 ?a32 ?l32 ?c_32 ?k32 ?a33 ?l33 ?c_33 ?k33 ?a34 ?l34 ?c_34 ?k34 ?zb_abs ?zb_int ?zb_len ?zb_list ?zb_max ?zb_min ?zb_range ?zb_repr ?zb_tuple
    (case a0 => k_is); (case l0 => k_is); (case c_0 => k_is); (case k0 => k_is); (case a1 => k_is); (case l1 => k_is); (case c_1 => k_is); (case k1 => k_is); (case a2 => k_is); (case l2 => k_is); (case c_2 => k_is); (case k2 => k_is); (case a3 => k_is); (case l3 => k_is); (case c_3 => k_is); (case k3 => k_is); (case a4 => k_is); (case l4 => k_is); (case c_4 => k_is); (case k4 => k_is); (case a5 => k_is); (case l5 => k_is); (case c_5 => k_is); (case k5 => k_is); (case a6 => k_is); (case l6 => k_is); (case c_6 => k_is); (case k6 => k_is); (case a7 => k_is); (case l7 => k_is); (case c_7 => k_is); (case k7 => k_is); (case a8 => k_is); (case l8 => k_is); (case c_8 => k_is); (case k8 => k_is); (case a9 => k_is); (case l9 => k_is); (case c_9 => k_is); (case k9 => k_is); (case a10 => k_is); (case l10 => k_is); (case c_10 => k_is); (case k10 => k_is); (case a11 => k_is); (case l11 => k_is); (case c_11 => k_is); (case k11 => k_is); (case a12 => k_is); (case l12 => k_is); (case c_12 => k_is); (case k12 => k_is); (case a13 => k_is); (case l13 => k_is); (case c_13 => k_is); (case k13 => k_is); (case a14 => k_is); (case l14 => k_is); (case c_14 => k_is); (case k14 => k_is); (case a15 => k_is); (case l15 => k_is); (case c_15 => k_is); (case k15 => k_is); (case a16 => k_is); (case l16 => k_is); (case c_16 => k_is); (case k16 => k_is); (case a17 => k_is); (case l17 => k_is); (case c_17 => k_is); (case k17 => k_is); (case a18 => k_is); (case l18 => k_is); (case c_18 => k_is); (case k18 => k_is); (case a19 => k_is); (case l19 => k_is); (case c_19 => k_is); (case k19 => k_is); (case a20 => k_is); (case l20 => k_is); (case c_20 => k_is); (case k20 => k_is); (case a21 => k_is); (case l21 => k_is); (case c_21 => k_is); (case k21 => k_is); (case a22 => k_is); (case l22 => k_is); (case c_22 => k_is); (case k22 => k_is); (case a23 => k_is); (case l23 => k_is); (case c_23 => k_is); (case k23 => k_is); (case a24 => k_is); (case l24 => k_is); (case c_24 => k_is); (case k24 => k_is); (case a25 => k_is); (case l25 => k_is); (case c_25 => k_is); (case k25 => k_is); (case a26 => k_is); (case l26 => k_is); (case c_26 => k_is); (case k26 => k_is); (case a27 => k_is); (case l27 => k_is); (case c_27 => k_is); (case k27 => k_is); (case a28 => k_is); (case l28 => k_is); (case c_28 => k_is); (case k28 => k_is); (case a29 => k_is); (case l29 => k_is); (case c_29 => k_is); (case k29 => k_is); (case a30 => k_is); (case l30 => k_is); (case c_30 => k_is); (case k30 => k_is); (case a31 => k_is); (case l31 => k_is); (case c_31 => k_is); (case k31 => k_is); (case a32 => k_is); (case l32 => k_is); (case c_32 => k_is); (case k32 => k_is); (case a33 => k_is); (case l33 => k_is); (case c_33 => k_is); (case k33 => k_is); (case a34 => k_is); (case l34 => k_is); (case c_34 => k_is); (case k34 => k_is); (case zb_abs => k_is); (case zb_int => k_is); (case zb_len => k_is); (case zb_list => k_is); (case zb_max => k_is); (case zb_min => k_is); (case zb_range => k_is); (case zb_repr => k_is); (case zb_tuple => k_is)
